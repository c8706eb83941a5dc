/-
  A part of the proof of RiRib: the texts EngLG, RiGenT, RiGenK0, RiMan, RiGenK1.
-/
import Derived.Test.YteihdclpiekmaaaJRiRib1
import Derived.Test.YteihdclpiekmaaaRows
section
namespace Go.Dec
open Go Go.RowKit
section
variable {P : Program} {kt : TypeId} {n : Nat} {ek : List Int → Value} {m : Mp} {es : Array MapEntry} {ck : Nat} {w : World} {b : Nat}
theorem run_lookupMok {t e : TypeId} {i : TypeInfo} (h : MR n ek m es ck) (K : KT P kt n ek) (ht : P.underlying t = some (.map kt e)) (hi : P.info? e = some i) (hz : i.zero = some (.int .i64 0)) (hb : w.heap[b]? = some (.map es ck)) {k : List Int} (hk : Kok n k) :
    (Instr.lookup t (.map (some b)) (ek k) true).run P w = .ok (.tuple #[.int .i64 (mget m k), .bool (mhas m k)]) w := by
  rcases h.find K hk w with ⟨h1, h2, _⟩ | ⟨j, e0, v, h1, _, _, _, h5⟩
  · have hm : mhas m k = false := by
      cases hh : mhas m k with
      | false => rfl
      | true => obtain ⟨v, hv⟩ := mhas_iff.1 hh; exact absurd rfl (h2 _ hv)
    simp [Instr.lookup, run_underlying ht, MapKept.run_getObj_map hb, MR.check K hk, h1, zeroValue, typeInfo, hi, hz, mget_of_not h2, hm]
  · have hm : mhas m k = true := mhas_iff.2 ⟨v, h5⟩
    simp [Instr.lookup, run_underlying ht, MapKept.run_getObj_map hb, MR.check K hk, h1, mget_of_mem h.srt h5, hm]
end
section
variable {q : Md} {P : Program} {ro : Option Nat} {N : Nat} {ds : List Deferred} {B : Bs} {H : Hp} {ops : List Oper} {Q : Exit → Act → World → Prop} {rest : List Oper} {f : Nat → Value} {bs : List (Nat × Obj)} {gs : List GS}
variable {d : Nat} {t : TypeId} {p : String} {af : Array Edge} {g : Option (Nat × Bool)} {kt : TypeId} {n : Nat} {ek : List Int → Value} {m : Mp} {es : Array MapEntry} {ck : Nat}
theorem JL.lookupMok {t' e : TypeId} {x ix : Operand} {b : Nat} {k : List Int} (ht : mpT P t' = some (kt, e)) (K : KT P kt n ek) (hx : ev f x = .map (some b)) (hb : MAt H bs b (.map es ck)) (hm : MR n ek m es ck) (hi : ev f ix = ek k) {u : Unit} (hk : kok n k = some u) (hw : Want ops f g) (hd : Nat.blt d N = true)
    (h : JL q P N ds B H ops Q rest (upd f d (.tuple [.int .i64 (mget m k), .bool (mhas m k)].toArray)) bs gs) : JL q P N ds B H ops Q (⟨some d, .lookup t' x ix true, t, p, af, g⟩ :: rest) f bs gs :=
  .val hw hd (fun w hs => by
    obtain ⟨i, h1, h2, h3⟩ := mpT_spec ht
    have := run_lookupMok hm K h1 h2 h3 (hb.at hs) (kok_some hk)
    simp [execOp, hx, hi, this]) h
end
end Go.Dec
end
section
namespace Go.Proofs.Yteihdclpiekmaaa
open Go Go.RowKit Go.Dec
set_option linter.unusedVariables false
structure Span where
 Low : Int
 High : Int
structure Frac where
 Num : Int
 Den : Int
structure Section where
 Arm : Span
 Stretch : Span
 Base : Int
 Gear : Frac
structure Frame where
 Sections : List Section
 Low : Int
 High : Int
 Ease : Frac
 Rod : Int
 Case : Int
structure Slot where
 Kind : Int
 Sections : List Int
 Length : Span
structure Spare where
 Kind : Int
 Section : Int
 Length : Span
structure Make where
 Slots : List Slot
structure Trial where
 Spare : Int
 Make : Int
 Slot : Int
 Fits : Int
structure Workshop where
 Spares : List Spare
 Makes : List Make
 Cut : Int
 Table : List Trial
structure frames_sides where
 arm : Int
 stretch : Int
structure parts_shop where
 Workshop : Workshop
 lengths : List (List Int)
structure top_Fitting where
 Spare : Int
 Section : Int
 Trial : Trial
def R_Span : Rl Span := fun _ cs x => cs = [.int .i64 x.Low, .int .i64 x.High]
def R_Frac : Rl Frac := fun _ cs x => cs = [.int .i64 x.Num, .int .i64 x.Den]
def R_Section : Rl Section := fun _ cs x => cs = [.int .i64 x.Arm.Low, .int .i64 x.Arm.High, .int .i64 x.Stretch.Low, .int .i64 x.Stretch.High, .int .i64 x.Base, .int .i64 x.Gear.Num, .int .i64 x.Gear.Den]
theorem R_Section_mono : Mono R_Section := fun _ _ _ _ _ h => h
theorem R_Section_one : ∀ (H : Hp) (cs : List Value) (x : Section), R_Section H cs x → AllOne cs := by
 rintro H cs x rfl
 exact (one_cons rfl (one_cons rfl (one_cons rfl (one_cons rfl (one_cons rfl (one_cons rfl (one_cons rfl one_nil)))))))
def R_Frame : Rl Frame := fun H cs x => ∃ v0 : Value, cs = [v0, .int .i64 x.Low, .int .i64 x.High, .int .i64 x.Ease.Num, .int .i64 x.Ease.Den, .int .i64 x.Rod, .int .i64 x.Case] ∧ SL H 7 R_Section v0 x.Sections
def R_Slot : Rl Slot := fun H cs x => ∃ v1 : Value, cs = [.int .i64 x.Kind, v1, .int .i64 x.Length.Low, .int .i64 x.Length.High] ∧ SL H 1 RInt v1 x.Sections
theorem R_Slot_mono : Mono R_Slot := by
 rintro H H' h cs x ⟨v1, hcs, h0⟩
 exact ⟨v1, hcs, SL.mono RInt.mono h h0⟩
theorem R_Slot_one : ∀ (H : Hp) (cs : List Value) (x : Slot), R_Slot H cs x → AllOne cs := by
 rintro H cs x ⟨v1, rfl, h0⟩
 exact (one_cons rfl (one_cons h0.one (one_cons rfl (one_cons rfl one_nil))))
def R_Spare : Rl Spare := fun _ cs x => cs = [.int .i64 x.Kind, .int .i64 x.Section, .int .i64 x.Length.Low, .int .i64 x.Length.High]
theorem R_Spare_mono : Mono R_Spare := fun _ _ _ _ _ h => h
theorem R_Spare_one : ∀ (H : Hp) (cs : List Value) (x : Spare), R_Spare H cs x → AllOne cs := by
 rintro H cs x rfl
 exact (one_cons rfl (one_cons rfl (one_cons rfl (one_cons rfl one_nil))))
def R_Make : Rl Make := fun H cs x => ∃ v0 : Value, cs = [v0] ∧ SL H 4 R_Slot v0 x.Slots
theorem R_Make_mono : Mono R_Make := by
 rintro H H' h cs x ⟨v0, hcs, h0⟩
 exact ⟨v0, hcs, SL.mono R_Slot_mono h h0⟩
def R_Trial : Rl Trial := fun _ cs x => cs = [.int .i64 x.Spare, .int .i64 x.Make, .int .i64 x.Slot, .int .i64 x.Fits]
theorem R_Trial_mono : Mono R_Trial := fun _ _ _ _ _ h => h
theorem R_Trial_one : ∀ (H : Hp) (cs : List Value) (x : Trial), R_Trial H cs x → AllOne cs := by
 rintro H cs x rfl
 exact (one_cons rfl (one_cons rfl (one_cons rfl (one_cons rfl one_nil))))
def R_Workshop : Rl Workshop := fun H cs x => ∃ v0 v1 v3 : Value, cs = [v0, v1, .int .i64 x.Cut, v3] ∧ SL H 4 R_Spare v0 x.Spares ∧ SL H 1 R_Make v1 x.Makes ∧ SL H 4 R_Trial v3 x.Table
def R_parts_shop : Rl parts_shop := fun H cs x => ∃ v0 v1 v3 v4 : Value, cs = [v0, v1, .int .i64 x.Workshop.Cut, v3, v4] ∧ SL H 4 R_Spare v0 x.Workshop.Spares ∧ SL H 1 R_Make v1 x.Workshop.Makes ∧ SL H 4 R_Trial v3 x.Workshop.Table ∧ SL H 1 (RSl 1 RInt) v4 x.lengths
def R_top_Fitting : Rl top_Fitting := fun _ cs x => cs = [.int .i64 x.Spare, .int .i64 x.Section, .int .i64 x.Trial.Spare, .int .i64 x.Trial.Make, .int .i64 x.Trial.Slot, .int .i64 x.Trial.Fits]
def FN_124 (H : Hp) (v : Value) (f : Int → Option Bool) : Prop := ∃ (fk : Nat) (fc : List Value), v = .func (.func fk) #[] fc.toArray ∧ Ent Try.prog fk ∧ ∀ H', HSub H H' → ∀ (a0_ : Int) (y : Bool), f a0_ = some y → SC Try.prog fk ([.int .i64 a0_] ++ fc) (.bool y) H'
theorem FN_124.mono {H H' : Hp} (h : HSub H H') {v : Value} {f : Int → Option Bool} (hf : FN_124 H v f) : FN_124 H' v f := by
 obtain ⟨fk, fc, h1, h2, h3⟩ := hf
 exact ⟨fk, fc, h1, h2, fun H'' hs => h3 H'' (HSub.trans h hs)⟩
theorem FN_124.one {H : Hp} {v : Value} {f : Int → Option Bool} (hf : FN_124 H v f) : v.oneCell' = true := by
 obtain ⟨fk, fc, rfl, _⟩ := hf; rfl
def FN_223 (H : Hp) (v : Value) (f : Slot → Option Bool) : Prop := ∃ (fk : Nat) (fc : List Value), v = .func (.func fk) #[] fc.toArray ∧ Ent Try.prog fk ∧ ∀ H', HSub H H' → ∀ (a0_ : Slot) (a0__v1 : Value) (ha0__1 : SL H' 1 RInt a0__v1 a0_.Sections) (y : Bool), f a0_ = some y → SC Try.prog fk ([.agg [.int .i64 a0_.Kind, a0__v1, .int .i64 a0_.Length.Low, .int .i64 a0_.Length.High].toArray] ++ fc) (.bool y) H'
theorem FN_223.mono {H H' : Hp} (h : HSub H H') {v : Value} {f : Slot → Option Bool} (hf : FN_223 H v f) : FN_223 H' v f := by
 obtain ⟨fk, fc, h1, h2, h3⟩ := hf
 exact ⟨fk, fc, h1, h2, fun H'' hs => h3 H'' (HSub.trans h hs)⟩
theorem FN_223.one {H : Hp} {v : Value} {f : Slot → Option Bool} (hf : FN_223 H v f) : v.oneCell' = true := by
 obtain ⟨fk, fc, rfl, _⟩ := hf; rfl
def FN_247 (H : Hp) (v : Value) (f : Spare → Option Bool) : Prop := ∃ (fk : Nat) (fc : List Value), v = .func (.func fk) #[] fc.toArray ∧ Ent Try.prog fk ∧ ∀ H', HSub H H' → ∀ (a0_ : Spare) (y : Bool), f a0_ = some y → SC Try.prog fk ([.agg [.int .i64 a0_.Kind, .int .i64 a0_.Section, .int .i64 a0_.Length.Low, .int .i64 a0_.Length.High].toArray] ++ fc) (.bool y) H'
theorem FN_247.mono {H H' : Hp} (h : HSub H H') {v : Value} {f : Spare → Option Bool} (hf : FN_247 H v f) : FN_247 H' v f := by
 obtain ⟨fk, fc, h1, h2, h3⟩ := hf
 exact ⟨fk, fc, h1, h2, fun H'' hs => h3 H'' (HSub.trans h hs)⟩
theorem FN_247.one {H : Hp} {v : Value} {f : Spare → Option Bool} (hf : FN_247 H v f) : v.oneCell' = true := by
 obtain ⟨fk, fc, rfl, _⟩ := hf; rfl
def FN_249 (H : Hp) (v : Value) (f : Make → Option Bool) : Prop := ∃ (fk : Nat) (fc : List Value), v = .func (.func fk) #[] fc.toArray ∧ Ent Try.prog fk ∧ ∀ H', HSub H H' → ∀ (a0_ : Make) (a0__v0 : Value) (ha0__0 : SL H' 4 R_Slot a0__v0 a0_.Slots) (y : Bool), f a0_ = some y → SC Try.prog fk ([.agg [a0__v0].toArray] ++ fc) (.bool y) H'
theorem FN_249.mono {H H' : Hp} (h : HSub H H') {v : Value} {f : Make → Option Bool} (hf : FN_249 H v f) : FN_249 H' v f := by
 obtain ⟨fk, fc, h1, h2, h3⟩ := hf
 exact ⟨fk, fc, h1, h2, fun H'' hs => h3 H'' (HSub.trans h hs)⟩
theorem FN_249.one {H : Hp} {v : Value} {f : Make → Option Bool} (hf : FN_249 H v f) : v.oneCell' = true := by
 obtain ⟨fk, fc, rfl, _⟩ := hf; rfl
def FN_191 (H : Hp) (v : Value) (f : Trial → Option Bool) : Prop := ∃ (fk : Nat) (fc : List Value), v = .func (.func fk) #[] fc.toArray ∧ Ent Try.prog fk ∧ ∀ H', HSub H H' → ∀ (a0_ : Trial) (y : Bool), f a0_ = some y → SC Try.prog fk ([.agg [.int .i64 a0_.Spare, .int .i64 a0_.Make, .int .i64 a0_.Slot, .int .i64 a0_.Fits].toArray] ++ fc) (.bool y) H'
theorem FN_191.mono {H H' : Hp} (h : HSub H H') {v : Value} {f : Trial → Option Bool} (hf : FN_191 H v f) : FN_191 H' v f := by
 obtain ⟨fk, fc, h1, h2, h3⟩ := hf
 exact ⟨fk, fc, h1, h2, fun H'' hs => h3 H'' (HSub.trans h hs)⟩
theorem FN_191.one {H : Hp} {v : Value} {f : Trial → Option Bool} (hf : FN_191 H v f) : v.oneCell' = true := by
 obtain ⟨fk, fc, rfl, _⟩ := hf; rfl
theorem fo_39_0 : fieldOff Try.prog 39 0 = some 0 := by kernel_rfl
theorem az_3 : aggsz Try.prog 3 = some (false, 1) := by kernel_rfl
theorem fo_39_1 : fieldOff Try.prog 39 1 = some 1 := by kernel_rfl
theorem en_68 : Ent Try.prog 68 := enters_of Try.func68 (by kernel_rfl) rfl
theorem ul_23 : Try.prog.underlying 23 = some (.slice 3) := by kernel_rfl
theorem sl_23 : slT Try.prog 23 = some (3, 1) := by kernel_rfl
theorem mo_ : Try.prog.follows .mixedOrders = true := by kernel_rfl
theorem fo_129_1 : fieldOff Try.prog 129 1 = some 1 := by kernel_rfl
theorem az_23 : aggsz Try.prog 23 = some (false, 1) := by kernel_rfl
theorem fo_129_0 : fieldOff Try.prog 129 0 = some 0 := by kernel_rfl
theorem en_200 : Ent Try.prog 200 := enters_of Try.func200 (by kernel_rfl) rfl
theorem fo_129_2 : fieldOff Try.prog 129 2 = some 2 := by kernel_rfl
theorem az_39 : aggsz Try.prog 39 = some (true, 2) := by kernel_rfl
theorem en_166 : Ent Try.prog 166 := enters_of Try.func166 (by kernel_rfl) rfl
theorem fo_48_0 : fieldOff Try.prog 48 0 = some 0 := by kernel_rfl
theorem az_44 : aggsz Try.prog 44 = some (false, 1) := by kernel_rfl
theorem ul_44 : Try.prog.underlying 44 = some (.slice 131) := by kernel_rfl
theorem fo_48_1 : fieldOff Try.prog 48 1 = some 1 := by kernel_rfl
theorem az_45 : aggsz Try.prog 45 = some (false, 1) := by kernel_rfl
theorem ul_45 : Try.prog.underlying 45 = some (.slice 127) := by kernel_rfl
theorem az_48 : aggsz Try.prog 48 = some (true, 4) := by kernel_rfl
theorem en_201 : Ent Try.prog 201 := enters_of Try.func201 (by kernel_rfl) rfl
theorem sl_45 : slT Try.prog 45 = some (127, 1) := by kernel_rfl
theorem fo_127_0 : fieldOff Try.prog 127 0 = some 0 := by kernel_rfl
theorem az_125 : aggsz Try.prog 125 = some (false, 1) := by kernel_rfl
theorem ul_125 : Try.prog.underlying 125 = some (.slice 129) := by kernel_rfl
theorem fo_48_2 : fieldOff Try.prog 48 2 = some 2 := by kernel_rfl
theorem fo_48_3 : fieldOff Try.prog 48 3 = some 3 := by kernel_rfl
theorem az_46 : aggsz Try.prog 46 = some (false, 1) := by kernel_rfl
theorem ul_46 : Try.prog.underlying 46 = some (.slice 55) := by kernel_rfl
theorem sl_44 : slT Try.prog 44 = some (131, 4) := by kernel_rfl
theorem az_131 : aggsz Try.prog 131 = some (true, 4) := by kernel_rfl
theorem ze_131 : zeroL Try.prog 131 = some [.int .i64 0, .int .i64 0, .int .i64 0, .int .i64 0] := by kernel_rfl
theorem fo_131_0 : fieldOff Try.prog 131 0 = some 0 := by kernel_rfl
theorem fo_131_1 : fieldOff Try.prog 131 1 = some 1 := by kernel_rfl
theorem fo_131_2 : fieldOff Try.prog 131 2 = some 2 := by kernel_rfl
theorem sl_125 : slT Try.prog 125 = some (129, 4) := by kernel_rfl
theorem az_129 : aggsz Try.prog 129 = some (true, 4) := by kernel_rfl
theorem en_167 : Ent Try.prog 167 := enters_of Try.func167 (by kernel_rfl) rfl
theorem sl_46 : slT Try.prog 46 = some (55, 4) := by kernel_rfl
theorem az_55 : aggsz Try.prog 55 = some (true, 4) := by kernel_rfl
theorem ze_55 : zeroL Try.prog 55 = some [.int .i64 0, .int .i64 0, .int .i64 0, .int .i64 0] := by kernel_rfl
theorem fo_55_0 : fieldOff Try.prog 55 0 = some 0 := by kernel_rfl
theorem en_22 : Ent Try.prog 22 := enters_of Try.func22 (by kernel_rfl) rfl
theorem fo_55_1 : fieldOff Try.prog 55 1 = some 1 := by kernel_rfl
theorem fo_55_2 : fieldOff Try.prog 55 2 = some 2 := by kernel_rfl
theorem en_168 : Ent Try.prog 168 := enters_of Try.func168 (by kernel_rfl) rfl
theorem fo_55_3 : fieldOff Try.prog 55 3 = some 3 := by kernel_rfl
theorem en_117 : Ent Try.prog 117 := enters_of Try.func117 (by kernel_rfl) rfl
theorem en_63 : Ent Try.prog 63 := enters_of Try.func63 (by kernel_rfl) rfl
theorem ze_129 : zeroL Try.prog 129 = some [.int .i64 0, .slice none 0 0, .int .i64 0, .int .i64 0] := by kernel_rfl
theorem en_230 : Ent Try.prog 230 := enters_of Try.func230 (by kernel_rfl) rfl
theorem en_202 : Ent Try.prog 202 := enters_of Try.func202 (by kernel_rfl) rfl
theorem ub_4 : Try.prog.underlying 4 = some .bool := by kernel_rfl
theorem en_169 : Ent Try.prog 169 := enters_of Try.func169 (by kernel_rfl) rfl
theorem ap_23 : apT Try.prog 23 = some (3, 1, 8) := by kernel_rfl
theorem en_118 : Ent Try.prog 118 := enters_of Try.func118 (by kernel_rfl) rfl
theorem en_64 : Ent Try.prog 64 := enters_of Try.func64 (by kernel_rfl) rfl
theorem en_66 : Ent Try.prog 66 := enters_of Try.func66 (by kernel_rfl) rfl
theorem fo_51_1 : fieldOff Try.prog 51 1 = some 1 := by kernel_rfl
theorem fo_51_0 : fieldOff Try.prog 51 0 = some 0 := by kernel_rfl
theorem fo_53_0 : fieldOff Try.prog 53 0 = some 0 := by kernel_rfl
theorem az_49 : aggsz Try.prog 49 = some (false, 1) := by kernel_rfl
theorem ul_49 : Try.prog.underlying 49 = some (.slice 68) := by kernel_rfl
theorem sl_49 : slT Try.prog 49 = some (68, 7) := by kernel_rfl
theorem az_68 : aggsz Try.prog 68 = some (true, 7) := by kernel_rfl
theorem ze_68 : zeroL Try.prog 68 = some [.int .i64 0, .int .i64 0, .int .i64 0, .int .i64 0, .int .i64 0, .int .i64 0, .int .i64 0] := by kernel_rfl
theorem fo_68_0 : fieldOff Try.prog 68 0 = some 0 := by kernel_rfl
theorem en_65 : Ent Try.prog 65 := enters_of Try.func65 (by kernel_rfl) rfl
theorem fo_68_1 : fieldOff Try.prog 68 1 = some 2 := by kernel_rfl
theorem fo_68_2 : fieldOff Try.prog 68 2 = some 4 := by kernel_rfl
theorem fo_68_3 : fieldOff Try.prog 68 3 = some 5 := by kernel_rfl
theorem az_51 : aggsz Try.prog 51 = some (true, 2) := by kernel_rfl
theorem en_67 : Ent Try.prog 67 := enters_of Try.func67 (by kernel_rfl) rfl
theorem fo_53_1 : fieldOff Try.prog 53 1 = some 1 := by kernel_rfl
theorem fo_53_2 : fieldOff Try.prog 53 2 = some 2 := by kernel_rfl
theorem fo_53_3 : fieldOff Try.prog 53 3 = some 3 := by kernel_rfl
theorem fo_53_4 : fieldOff Try.prog 53 4 = some 5 := by kernel_rfl
theorem fo_53_5 : fieldOff Try.prog 53 5 = some 6 := by kernel_rfl
theorem az_53 : aggsz Try.prog 53 = some (true, 7) := by kernel_rfl
theorem en_21 : Ent Try.prog 21 := enters_of Try.func21 (by kernel_rfl) rfl
theorem ze_53 : zeroL Try.prog 53 = some [.slice none 0 0, .int .i64 0, .int .i64 0, .int .i64 0, .int .i64 0, .int .i64 0, .int .i64 0] := by kernel_rfl
theorem en_124 : Ent Try.prog 124 := enters_of Try.func124 (by kernel_rfl) rfl
theorem en_128 : Ent Try.prog 128 := enters_of Try.func128 (by kernel_rfl) rfl
theorem en_129 : Ent Try.prog 129 := enters_of Try.func129 (by kernel_rfl) rfl
theorem en_175 : Ent Try.prog 175 := enters_of Try.func175 (by kernel_rfl) rfl
theorem en_127 : Ent Try.prog 127 := enters_of Try.func127 (by kernel_rfl) rfl
theorem en_130 : Ent Try.prog 130 := enters_of Try.func130 (by kernel_rfl) rfl
theorem ze_51 : zeroL Try.prog 51 = some [.int .i64 0, .int .i64 0] := by kernel_rfl
theorem fo_147_0 : fieldOff Try.prog 147 0 = some 0 := by kernel_rfl
theorem fo_147_1 : fieldOff Try.prog 147 1 = some 1 := by kernel_rfl
theorem en_174 : Ent Try.prog 174 := enters_of Try.func174 (by kernel_rfl) rfl
theorem en_126 : Ent Try.prog 126 := enters_of Try.func126 (by kernel_rfl) rfl
theorem az_147 : aggsz Try.prog 147 = some (true, 2) := by kernel_rfl
theorem en_76 : Ent Try.prog 76 := enters_of Try.func76 (by kernel_rfl) rfl
theorem en_77 : Ent Try.prog 77 := enters_of Try.func77 (by kernel_rfl) rfl
theorem ze_4 : zeroL Try.prog 4 = some [.bool false] := by kernel_rfl
theorem en_133 : Ent Try.prog 133 := enters_of Try.func133 (by kernel_rfl) rfl
theorem en_74 : Ent Try.prog 74 := enters_of Try.func74 (by kernel_rfl) rfl
theorem en_134 : Ent Try.prog 134 := enters_of Try.func134 (by kernel_rfl) rfl
theorem az_4 : aggsz Try.prog 4 = some (false, 1) := by kernel_rfl
theorem en_176 : Ent Try.prog 176 := enters_of Try.func176 (by kernel_rfl) rfl
theorem ze_3 : zeroL Try.prog 3 = some [.int .i64 0] := by kernel_rfl
theorem en_75 : Ent Try.prog 75 := enters_of Try.func75 (by kernel_rfl) rfl
theorem ze_147 : zeroL Try.prog 147 = some [.int .i64 0, .int .i64 0] := by kernel_rfl
theorem az_193 : aggsz Try.prog 193 = some (false, 1) := by kernel_rfl
theorem en_125 : Ent Try.prog 125 := enters_of Try.func125 (by kernel_rfl) rfl
theorem en_132 : Ent Try.prog 132 := enters_of Try.func132 (by kernel_rfl) rfl
theorem en_131 : Ent Try.prog 131 := enters_of Try.func131 (by kernel_rfl) rfl
theorem en_79 : Ent Try.prog 79 := enters_of Try.func79 (by kernel_rfl) rfl
theorem en_80 : Ent Try.prog 80 := enters_of Try.func80 (by kernel_rfl) rfl
theorem ze_48 : zeroL Try.prog 48 = some [.slice none 0 0, .slice none 0 0, .int .i64 0, .slice none 0 0] := by kernel_rfl
theorem en_123 : Ent Try.prog 123 := enters_of Try.func123 (by kernel_rfl) rfl
theorem en_204 : Ent Try.prog 204 := enters_of Try.func204 (by kernel_rfl) rfl
theorem en_205 : Ent Try.prog 205 := enters_of Try.func205 (by kernel_rfl) rfl
theorem az_124 : aggsz Try.prog 124 = some (false, 1) := by kernel_rfl
theorem en_178 : Ent Try.prog 178 := enters_of Try.func178 (by kernel_rfl) rfl
theorem en_231 : Ent Try.prog 231 := enters_of Try.func231 (by kernel_rfl) rfl
theorem en_140 : Ent Try.prog 140 := enters_of Try.func140 (by kernel_rfl) rfl
theorem en_207 : Ent Try.prog 207 := enters_of Try.func207 (by kernel_rfl) rfl
theorem en_208 : Ent Try.prog 208 := enters_of Try.func208 (by kernel_rfl) rfl
theorem az_223 : aggsz Try.prog 223 = some (false, 1) := by kernel_rfl
theorem en_244 : Ent Try.prog 244 := enters_of Try.func244 (by kernel_rfl) rfl
theorem en_233 : Ent Try.prog 233 := enters_of Try.func233 (by kernel_rfl) rfl
theorem en_232 : Ent Try.prog 232 := enters_of Try.func232 (by kernel_rfl) rfl
theorem en_210 : Ent Try.prog 210 := enters_of Try.func210 (by kernel_rfl) rfl
theorem en_72 : Ent Try.prog 72 := enters_of Try.func72 (by kernel_rfl) rfl
theorem en_212 : Ent Try.prog 212 := enters_of Try.func212 (by kernel_rfl) rfl
theorem az_247 : aggsz Try.prog 247 = some (false, 1) := by kernel_rfl
theorem en_245 : Ent Try.prog 245 := enters_of Try.func245 (by kernel_rfl) rfl
theorem en_235 : Ent Try.prog 235 := enters_of Try.func235 (by kernel_rfl) rfl
theorem en_234 : Ent Try.prog 234 := enters_of Try.func234 (by kernel_rfl) rfl
theorem az_249 : aggsz Try.prog 249 = some (false, 1) := by kernel_rfl
theorem az_127 : aggsz Try.prog 127 = some (true, 1) := by kernel_rfl
theorem en_246 : Ent Try.prog 246 := enters_of Try.func246 (by kernel_rfl) rfl
theorem en_237 : Ent Try.prog 237 := enters_of Try.func237 (by kernel_rfl) rfl
theorem en_236 : Ent Try.prog 236 := enters_of Try.func236 (by kernel_rfl) rfl
theorem az_191 : aggsz Try.prog 191 = some (false, 1) := by kernel_rfl
theorem en_216 : Ent Try.prog 216 := enters_of Try.func216 (by kernel_rfl) rfl
theorem en_173 : Ent Try.prog 173 := enters_of Try.func173 (by kernel_rfl) rfl
theorem en_172 : Ent Try.prog 172 := enters_of Try.func172 (by kernel_rfl) rfl
theorem ze_223 : zeroL Try.prog 223 = some [.nilFunc] := by kernel_rfl
theorem en_203 : Ent Try.prog 203 := enters_of Try.func203 (by kernel_rfl) rfl
theorem en_213 : Ent Try.prog 213 := enters_of Try.func213 (by kernel_rfl) rfl
theorem en_206 : Ent Try.prog 206 := enters_of Try.func206 (by kernel_rfl) rfl
theorem en_209 : Ent Try.prog 209 := enters_of Try.func209 (by kernel_rfl) rfl
theorem en_214 : Ent Try.prog 214 := enters_of Try.func214 (by kernel_rfl) rfl
theorem en_211 : Ent Try.prog 211 := enters_of Try.func211 (by kernel_rfl) rfl
theorem en_122 : Ent Try.prog 122 := enters_of Try.func122 (by kernel_rfl) rfl
theorem en_170 : Ent Try.prog 170 := enters_of Try.func170 (by kernel_rfl) rfl
theorem ze_227 : zeroL Try.prog 227 = some [.int .i64 0, .int .i64 0, .int .i64 0] := by kernel_rfl
theorem az_227 : aggsz Try.prog 227 = some (true, 3) := by kernel_rfl
theorem mp_225 : mpT Try.prog 225 = some (227, 3) := by kernel_rfl
theorem laid_ : laidOutB Try.prog = true := by kernel_rfl
theorem kt_227 : KT Try.prog 227 3 ekA := KT.agg laid_ (by kernel_rfl) (by kernel_rfl) (by kernel_rfl) (by kernel_rfl)
theorem en_215 : Ent Try.prog 215 := enters_of Try.func215 (by kernel_rfl) rfl
theorem en_171 : Ent Try.prog 171 := enters_of Try.func171 (by kernel_rfl) rfl
theorem en_121 : Ent Try.prog 121 := enters_of Try.func121 (by kernel_rfl) rfl
theorem en_119 : Ent Try.prog 119 := enters_of Try.func119 (by kernel_rfl) rfl
theorem en_120 : Ent Try.prog 120 := enters_of Try.func120 (by kernel_rfl) rfl
theorem fo_141_1 : fieldOff Try.prog 141 1 = some 4 := by kernel_rfl
theorem az_115 : aggsz Try.prog 115 = some (false, 1) := by kernel_rfl
theorem ap_115 : apT Try.prog 115 = some (23, 1, 24) := by kernel_rfl
theorem ze_39 : zeroL Try.prog 39 = some [.int .i64 0, .int .i64 0] := by kernel_rfl
theorem en_71 : Ent Try.prog 71 := enters_of Try.func71 (by kernel_rfl) rfl
theorem sl_115 : slT Try.prog 115 = some (23, 1) := by kernel_rfl
theorem en_69 : Ent Try.prog 69 := enters_of Try.func69 (by kernel_rfl) rfl
theorem en_30 : Ent Try.prog 30 := enters_of Try.func30 (by kernel_rfl) rfl
theorem en_70 : Ent Try.prog 70 := enters_of Try.func70 (by kernel_rfl) rfl
theorem en_26 : Ent Try.prog 26 := enters_of Try.func26 (by kernel_rfl) rfl
theorem eqa_39 (a0 a1 b0 b1 : Int) (w : World) : (Op.equal 39 (.agg [.int .i64 a0, .int .i64 a1].toArray) (.agg [.int .i64 b0, .int .i64 b1].toArray)).run Try.prog w = .ok ((a0 == b0) && (a1 == b1)) w := by
 have h := run_equalIn_struct (P := Try.prog) w 9999 39 #[.int .i64 a0, .int .i64 a1] #[.int .i64 b0, .int .i64 b1] (by kernel_rfl) (by kernel_rfl)
 have h2 : (Op.eqFields 9999 #[.int .i64 a0, .int .i64 a1] #[.int .i64 b0, .int .i64 b1] (Try.prog.fieldsOf 39).toList).run Try.prog w = .ok ((a0 == b0) && (a1 == b1)) w := by
  cases e0 : (a0 == b0)
  ·simp [go_sem, Program.fieldsOf, e0]
  cases e1 : (a1 == b1)
  ·simp [go_sem, Program.fieldsOf, e0, e1]
  simp [go_sem, Program.fieldsOf, e0, e1]
 exact h.trans h2
theorem eqg_39 : Try.prog.eqGuardType Try.prog.depth 39 = false := by kernel_rfl
theorem ap_44 : apT Try.prog 44 = some (131, 4, 32) := by kernel_rfl
theorem ap_46 : apT Try.prog 46 = some (55, 4, 32) := by kernel_rfl
theorem ap_125 : apT Try.prog 125 = some (129, 4, 48) := by kernel_rfl
theorem ze_127 : zeroL Try.prog 127 = some [.slice none 0 0] := by kernel_rfl
theorem ap_45 : apT Try.prog 45 = some (127, 1, 24) := by kernel_rfl
theorem ap_49 : apT Try.prog 49 = some (68, 7, 56) := by kernel_rfl
theorem en_73 : Ent Try.prog 73 := enters_of Try.func73 (by kernel_rfl) rfl
theorem en_78 : Ent Try.prog 78 := enters_of Try.func78 (by kernel_rfl) rfl
theorem en_135 : Ent Try.prog 135 := enters_of Try.func135 (by kernel_rfl) rfl
theorem en_81 : Ent Try.prog 81 := enters_of Try.func81 (by kernel_rfl) rfl
theorem en_18 : Ent Try.prog 18 := enters_of Try.func18 (by kernel_rfl) rfl
theorem en_19 : Ent Try.prog 19 := enters_of Try.func19 (by kernel_rfl) rfl
theorem en_20 : Ent Try.prog 20 := enters_of Try.func20 (by kernel_rfl) rfl
theorem fo_57_0 : fieldOff Try.prog 57 0 = some 0 := by kernel_rfl
theorem fo_57_1 : fieldOff Try.prog 57 1 = some 1 := by kernel_rfl
theorem en_23 : Ent Try.prog 23 := enters_of Try.func23 (by kernel_rfl) rfl
theorem en_24 : Ent Try.prog 24 := enters_of Try.func24 (by kernel_rfl) rfl
theorem en_25 : Ent Try.prog 25 := enters_of Try.func25 (by kernel_rfl) rfl
theorem fo_57_2 : fieldOff Try.prog 57 2 = some 2 := by kernel_rfl
theorem en_27 : Ent Try.prog 27 := enters_of Try.func27 (by kernel_rfl) rfl
theorem en_28 : Ent Try.prog 28 := enters_of Try.func28 (by kernel_rfl) rfl
theorem en_29 : Ent Try.prog 29 := enters_of Try.func29 (by kernel_rfl) rfl
theorem en_31 : Ent Try.prog 31 := enters_of Try.func31 (by kernel_rfl) rfl
end Go.Proofs.Yteihdclpiekmaaa
end
section
set_option maxRecDepth 100000
set_option maxHeartbeats 40000000
namespace Go.Proofs.Yteihdclpiekmaaa
open Go Go.RowKit Go.Dec
set_option linter.unusedVariables false
-- 75 ferrule/frames.truths
def F_frames_truths (n : Nat) (s : Section) : Option Section :=
 some s
theorem c_frames_truths (n : Nat) (H : Hp) (s : Section) (y : Section) (hF : F_frames_truths n s = some y) : HC Try.prog 75 [.agg [.int .i64 s.Arm.Low, .int .i64 s.Arm.High, .int .i64 s.Stretch.Low, .int .i64 s.Stretch.High, .int .i64 s.Base, .int .i64 s.Gear.Num, .int .i64 s.Gear.Den].toArray] H (fun H' v => ∃ b0_ : Nat, v = .func (.func 125) #[] [.pointer (some ⟨b0_, 0, none⟩)].toArray ∧ Cells H' b0_ 0 [.int .i64 y.Arm.Low, .int .i64 y.Arm.High, .int .i64 y.Stretch.Low, .int .i64 y.Stretch.High, .int .i64 y.Base, .int .i64 y.Gear.Num, .int .i64 y.Gear.Den]) := by
 rw [F_frames_truths] at hF
 refine HC.of (N := 4) Try.func75 rfl rfl rfl fun w => ?_
 refine JC.seq (JC.region (by rfl) ?_)
 intro hQ
 refine JL.box (cs := [.int .i64 s.Arm.Low, .int .i64 s.Arm.High, .int .i64 s.Stretch.Low, .int .i64 s.Stretch.High, .int .i64 s.Base, .int .i64 s.Gear.Num, .int .i64 s.Gear.Den]) rfl .none rfl ?_
 intro b1
 refine JL.assign .none rfl ?_
 refine JL.done hQ (JQ.go (JC.seq (JC.region (by rfl) ?_)))
 intro hQ
 refine JL.makeFunc .none rfl ?_
 refine JL.assign .none rfl ?_
 refine JL.done hQ (JQ.go (JC.ret (JQ.freezeC 0 (l := [.int .i64 s.Arm.Low, .int .i64 s.Arm.High, .int .i64 s.Stretch.Low, .int .i64 s.Stretch.High, .int .i64 s.Base, .int .i64 s.Gear.Num, .int .i64 s.Gear.Den]) rfl ?_)))
 intro H2 hs2 hc3
 obtain rfl := Option.some.inj hF
 exact JQ.outH rfl (.tmp .nil) ⟨b1, rfl, hc3⟩
-- 133 ferrule/frames.positions
def F_frames_positions (n : Nat) (f_ : Frame) : Option Frame :=
 some f_
theorem c_frames_positions (n : Nat) (H : Hp) (f_ : Frame) (f__v0 : Value) (hf__0 : SL H 7 R_Section f__v0 f_.Sections) (y : Frame) (hF : F_frames_positions n f_ = some y) : HC Try.prog 133 [.agg [f__v0, .int .i64 f_.Low, .int .i64 f_.High, .int .i64 f_.Ease.Num, .int .i64 f_.Ease.Den, .int .i64 f_.Rod, .int .i64 f_.Case].toArray] H (fun H' v => ∃ b0_ : Nat, ∃ z0_v0 : Value, v = .func (.func 176) #[] [.pointer (some ⟨b0_, 0, none⟩)].toArray ∧ Cells H' b0_ 0 [z0_v0, .int .i64 y.Low, .int .i64 y.High, .int .i64 y.Ease.Num, .int .i64 y.Ease.Den, .int .i64 y.Rod, .int .i64 y.Case] ∧ SL H' 7 R_Section z0_v0 y.Sections) := by
 rw [F_frames_positions] at hF
 refine HC.of (N := 4) Try.func133 rfl rfl rfl fun w => ?_
 refine JC.seq (JC.region (by rfl) ?_)
 intro hQ
 refine JL.box (cs := [f__v0, .int .i64 f_.Low, .int .i64 f_.High, .int .i64 f_.Ease.Num, .int .i64 f_.Ease.Den, .int .i64 f_.Rod, .int .i64 f_.Case]) rfl .none rfl ?_
 intro b1
 refine JL.assign .none rfl ?_
 refine JL.done hQ (JQ.go (JC.seq (JC.region (by rfl) ?_)))
 intro hQ
 refine JL.makeFunc .none rfl ?_
 refine JL.assign .none rfl ?_
 refine JL.done hQ (JQ.go (JC.ret (JQ.freezeC 0 (l := [f__v0, .int .i64 f_.Low, .int .i64 f_.High, .int .i64 f_.Ease.Num, .int .i64 f_.Ease.Den, .int .i64 f_.Rod, .int .i64 f_.Case]) rfl ?_)))
 intro H2 hs2 hc3
 obtain rfl := Option.some.inj hF
 exact JQ.outH rfl (.tmp .nil) ⟨b1, f__v0, rfl, hc3, (SL.mono R_Section_mono hs2 hf__0)⟩
-- 68 ferrule/ferruleref07.Within
def F_ref07_Within (n : Nat) (n_ : Int) (low : Int) (high : Int) : Option Bool :=
 some ((decide (low ≤ n_)) && (decide (n_ ≤ high)))
theorem c_ref07_Within (n : Nat) (H : Hp) (n_ : Int) (low : Int) (high : Int) (y : Bool) (hF : F_ref07_Within n n_ low high = some y) : SC Try.prog 68 [.int .i64 n_, .int .i64 low, .int .i64 high] (.bool y) H := by
 rw [F_ref07_Within] at hF
 refine SC.of (N := 15) Try.func68 rfl rfl rfl fun w => ?_
 refine JC.seq (JC.region (by rfl) ?_)
 intro hQ
 refine JL.assign .none rfl ?_
 refine JL.done hQ (JQ.go (JC.seq (JC.region (by rfl) ?_)))
 intro hQ
 refine JL.move .none rfl ?_
 refine JL.move .none rfl ?_
 refine JL.bin rfl rfl rfl .none rfl ?_
 refine JL.move .none rfl ?_
 refine JL.cut 4 (fun f => f 14 = .bool ((decide (low ≤ n_)) && (decide (n_ ≤ high)))) ?_ ?_
 ·intro hJ1
  rcases bcases (decide (low ≤ n_)) with hc2 | hc2
  ·skip
   refine JL.move (.some rfl rfl rfl hc2) rfl ?_
   refine JL.move (.some rfl rfl rfl hc2) rfl ?_
   refine JL.bin rfl rfl rfl (.some rfl rfl rfl hc2) rfl ?_
   refine JL.pick_t (b := decide (low ≤ n_)) rfl hc2 .none rfl ?_
   exact hJ1 _ (and_t hc2 rfl)
  ·skip
   refine JL.skip (.bool rfl rfl rfl hc2) rfl ?_
   refine JL.skip (.bool rfl rfl rfl hc2) rfl ?_
   refine JL.skip (.bool rfl rfl rfl hc2) rfl ?_
   refine JL.pick_f (b := decide (low ≤ n_)) rfl hc2 .none rfl ?_
   exact hJ1 _ (and_f hc2 rfl)
 ·rintro f hf14
  refine (JL.norm (i := 14) hf14 ?_)
  refine JL.assign .none rfl ?_
  refine JL.done hQ (JQ.go (JC.ret ?_))
  obtain rfl := Option.some.inj hF
  exact JQ.outS rfl (.tmp .nil) rfl
-- 166 ferrule/ferruleref07.isLength
def F_ref07_isLength (n : Nat) (s : Span) : Option Bool :=
 (F_ref07_Within n s.Low 0 s.High).bind fun y2 => some (y2 && (decide (s.High ≤ 999)))
theorem c_ref07_isLength (n : Nat) (H : Hp) (s : Span) (y : Bool) (hF : F_ref07_isLength n s = some y) : SC Try.prog 166 [.agg [.int .i64 s.Low, .int .i64 s.High].toArray] (.bool y) H := by
 rw [F_ref07_isLength] at hF
 refine SC.of (N := 13) Try.func166 rfl rfl rfl fun w => ?_
 refine JC.seq (JC.region (by rfl) ?_)
 intro hQ
 refine JL.box (cs := [.int .i64 s.Low, .int .i64 s.High]) rfl .none rfl ?_
 intro b1
 refine JL.assign .none rfl ?_
 refine JL.done hQ (JQ.go (JC.seq (JC.region (by rfl) ?_)))
 intro hQ
 refine JL.fieldAddr fo_39_0 rfl .none rfl ?_
 refine JL.loadOwn 0 az_3 rfl rfl rfl .none rfl ?_
 refine JL.fieldAddr fo_39_1 rfl .none rfl ?_
 refine JL.loadOwn 0 az_3 rfl rfl rfl .none rfl ?_
 obtain ⟨y2, hy2, hF⟩ := bind_some hF
 refine JL.callS (c_ref07_Within n H s.Low 0 s.High y2 hy2) rfl en_68 .none rfl ?_
 refine JL.move .none rfl ?_
 refine JL.cut 4 (fun f => f 12 = .bool (y2 && (decide (s.High ≤ 999)))) ?_ ?_
 ·intro hJ3
  rcases bcases y2 with hc4 | hc4
  ·skip
   refine JL.fieldAddr fo_39_1 rfl (.some rfl rfl rfl hc4) rfl ?_
   refine JL.loadOwn 0 az_3 rfl rfl rfl (.some rfl rfl rfl hc4) rfl ?_
   refine JL.bin rfl rfl rfl (.some rfl rfl rfl hc4) rfl ?_
   refine JL.pick_t (b := y2) rfl hc4 .none rfl ?_
   exact hJ3 _ (and_t hc4 rfl)
  ·skip
   refine JL.skip (.bool rfl rfl rfl hc4) rfl ?_
   refine JL.skip (.bool rfl rfl rfl hc4) rfl ?_
   refine JL.skip (.bool rfl rfl rfl hc4) rfl ?_
   refine JL.pick_f (b := y2) rfl hc4 .none rfl ?_
   exact hJ3 _ (and_f hc4 rfl)
 ·rintro f hf12
  refine (JL.norm (i := 12) hf12 ?_)
  refine JL.assign .none rfl ?_
  refine JL.done hQ (JQ.go (JC.ret ?_))
  obtain rfl := Option.some.inj hF
  exact JQ.outS rfl (.tmp .nil) rfl
-- 200 ferrule/ferruleref07.Ascending
def F_ref07_Ascending_s1 (n : Nat) (l : List Int) : Int → Option (Int ⊕ (Bool ⊕ Unit))
 | i_125 => if decide (i_125 < (l.length : Int)) = true then ((geti l i_125).bind fun y140 => (geti l (w64 (i_125 - 1))).bind fun y145 => if decide (y140 ≤ y145) = true then (some (Sum.inr (Sum.inl false))) else (some (Sum.inl (w64 (i_125 + 1))))) else (some (Sum.inr (Sum.inr ())))
def F_ref07_Ascending (n : Nat) (l : List Int) : Option Bool :=
 (loopO n (F_ref07_Ascending_s1 n l) 1).bind fun r76 => match r76 with | .inl o => some o | .inr _ => some true
theorem c_ref07_Ascending (n : Nat) (H : Hp) (l : List Int) (l_v0 : Value) (hl_0 : SL H 1 RInt l_v0 l) (y : Bool) (hF : F_ref07_Ascending n l = some y) : SC Try.prog 200 [l_v0] (.bool y) H := by
 rw [F_ref07_Ascending] at hF
 refine SC.of (N := 20) Try.func200 rfl rfl rfl fun w => ?_
 refine JC.seq (JC.region (by rfl) ?_)
 intro hQ
 refine JL.assign .none rfl ?_
 refine JL.done hQ (JQ.go (JC.seq (JC.seq (JC.region (by rfl) ?_))))
 intro hQ
 refine JL.assign .none rfl ?_
 refine JL.done hQ (JQ.go ?_)
 obtain ⟨r76, hlr76, hKr76⟩ := bind_some hF
 refine JC.join (fun (_ : Unit) H75 f bs gs => bs = [] ∧ gs = [] ∧ HSub H H75 ∧ Sum.inr () = r76) ?_ ?_
 ·skip
  refine JC.block (JC.loop hlr76 (fun (i_125 : Int) H126 f bs gs => f 0 = l_v0 ∧ f 3 = .int .i64 i_125 ∧ bs = [] ∧ gs = [] ∧ HSub H H126) ⟨rfl, rfl, rfl, rfl, (HSub.refl _)⟩ ?_)
  rintro i_125 x128 H126 f bs gs ⟨hf0, hf3, rfl, rfl, hs126⟩ hF hr127
  rw [F_ref07_Ascending_s1] at hF
  refine (JC.norm (i := 0) hf0 (JC.norm (i := 3) hf3 ?_))
  refine JC.seq (JC.seq (JC.region (by rfl) ?_))
  intro hQ
  refine JL.move .none rfl ?_
  refine JL.move .none rfl ?_
  refine JL.lenSL (R := RInt) ul_23 (SL.mono RInt.mono hs126 hl_0) .none rfl ?_
  refine JL.bin rfl rfl rfl .none rfl ?_
  refine JL.done hQ (JQ.go ?_)
  rcases ite_some hF with ⟨hc129, hF⟩ | ⟨hc129, hF⟩
  ·refine JC.cond_t (b := decide (i_125 < (l.length : Int))) rfl hc129 ?_
   refine JC.skip (JQ.go (JC.seq (JC.block (JC.seq (JC.draw (by rfl) mo_ (by kernel_rfl) ?_)))))
   intro hQ
   refine JL.move .none rfl ?_
   refine JL.move .none rfl ?_
   obtain ⟨y140, hy140, hF⟩ := bind_some hF
   refine JL.indexSL (R := RInt) sl_23 (SL.mono RInt.mono hs126 hl_0) rfl hy140 .none rfl ?_
   rintro b141 o142 cs143 hc144 - rfl
   refine JL.loadH 0 az_3 rfl hc144 rfl .none rfl ?_
   refine JL.move .none rfl ?_
   refine JL.move .none rfl ?_
   refine JL.bin rfl rfl rfl .none rfl ?_
   obtain ⟨y145, hy145, hF⟩ := bind_some hF
   refine JL.indexSL (R := RInt) sl_23 (SL.mono RInt.mono hs126 hl_0) rfl hy145 .none rfl ?_
   rintro b146 o147 cs148 hc149 - rfl
   refine JL.loadH 0 az_3 rfl hc149 rfl .none rfl ?_
   refine JL.bin rfl rfl rfl .none rfl ?_
   refine JL.doneQ hQ ?_
   refine JQ.go (JC.fresh (fun f => f 0 = l_v0 ∧ f 3 = .int .i64 i_125 ∧ f 19 = .bool (decide (y140 ≤ y145))) ⟨rfl, rfl, rfl⟩ ?_)
   rintro f ⟨hf0, hf3, hf19⟩
   refine (JC.norm (i := 0) hf0 (JC.norm (i := 3) hf3 (JC.norm (i := 19) hf19 ?_)))
   rcases ite_some hF with ⟨hc150, hF⟩ | ⟨hc150, hF⟩
   ·refine JC.cond_t (b := decide (y140 ≤ y145)) rfl hc150 ?_
    refine JC.seq (JC.region (by rfl) ?_)
    intro hQ
    refine JL.assign .none rfl ?_
    refine JL.done hQ (JQ.go (JC.ret (JQ.ret_block (JQ.ret_then (JQ.ret_then (JQ.ret_block (JQ.ret_join (JQ.ret_then ?_))))))))
    obtain rfl := Option.some.inj hF
    have ehr127 := hr127 _ rfl
    subst ehr127
    have hF := hKr76
    try dsimp only at hF
    obtain rfl := Option.some.inj hF
    exact JQ.outS rfl (.tmp .nil) rfl
   ·refine JC.cond_f (b := decide (y140 ≤ y145)) rfl hc150 ?_
    refine JC.skip (JQ.normal_block (JQ.go (JC.region (by rfl) ?_)))
    intro hQ
    refine JL.move .none rfl ?_
    refine JL.bin rfl rfl rfl .none rfl ?_
    refine JL.assign .none rfl ?_
    refine JL.done hQ ?_
    obtain rfl := Option.some.inj hF
    exact JQ.next rfl ⟨rfl, rfl, rfl, rfl, hs126⟩
  ·refine JC.cond_f (b := decide (i_125 < (l.length : Int))) rfl hc129 ?_
   refine JC.exit (JQ.exit_then (JQ.exit_then (JQ.exit_block ?_)))
   obtain rfl := Option.some.inj hF
   have ehr127 := hr127 _ rfl
   subst ehr127
   exact JQ.join () ⟨rfl, rfl, hs126, rfl⟩
 ·rintro _ H75 f bs gs ⟨rfl, rfl, hs75, rfl⟩
  have hF := hKr76
  try dsimp only at hF
  refine JQ.go (JC.seq (JC.region (by rfl) ?_))
  intro hQ
  refine JL.assign .none rfl ?_
  refine JL.done hQ (JQ.go (JC.ret ?_))
  obtain rfl := Option.some.inj hF
  exact JQ.outS rfl (.tmp .nil) rfl
-- 167 ferrule/ferruleref07.isSlot
def F_ref07_isSlot_s1 (n : Nat) (s : Slot) : Int → Option (Int ⊕ (Bool ⊕ Unit))
 | i_56 => if decide (i_56 < (s.Sections.length : Int)) = true then ((geti s.Sections i_56).bind fun y61 => (F_ref07_Within n y61 0 9).bind fun y66 => if (!y66) = true then (some (Sum.inr (Sum.inl false))) else (some (Sum.inl (w64 (i_56 + 1))))) else (some (Sum.inr (Sum.inr ())))
def F_ref07_isSlot (n : Nat) (s : Slot) : Option Bool :=
 (loopO n (F_ref07_isSlot_s1 n s) 0).bind fun r35 => match r35 with | .inl o => some o | .inr _ => (F_ref07_Within n s.Kind 0 9).bind fun y68 => (if (y68 && (decide ((s.Sections.length : Int) ≤ 4))) = true then ((F_ref07_Ascending n s.Sections).bind fun y75 => some y75) else (some false) : Option Bool).bind fun p72 => (if p72 = true then ((F_ref07_isLength n s.Length).bind fun y80 => some y80) else (some false) : Option Bool).bind fun p77 => some p77
theorem c_ref07_isSlot (n : Nat) (H : Hp) (s : Slot) (s_v1 : Value) (hs_1 : SL H 1 RInt s_v1 s.Sections) (y : Bool) (hF : F_ref07_isSlot n s = some y) : SC Try.prog 167 [.agg [.int .i64 s.Kind, s_v1, .int .i64 s.Length.Low, .int .i64 s.Length.High].toArray] (.bool y) H := by
 rw [F_ref07_isSlot] at hF
 refine SC.of (N := 37) Try.func167 rfl rfl rfl fun w => ?_
 refine JC.seq (JC.region (by rfl) ?_)
 intro hQ
 refine JL.box (cs := [.int .i64 s.Kind, s_v1, .int .i64 s.Length.Low, .int .i64 s.Length.High]) rfl .none rfl ?_
 intro b1
 refine JL.assign .none rfl ?_
 refine JL.done hQ (JQ.go (JC.seq (JC.seq (JC.region (by rfl) ?_))))
 intro hQ
 refine JL.assign .none rfl ?_
 refine JL.done hQ (JQ.go ?_)
 obtain ⟨r35, hlr35, hKr35⟩ := bind_some hF
 refine JC.join (fun (_ : Unit) H34 f bs gs => f 1 = .pointer (some ⟨b1, 0, none⟩) ∧ bs = [(b1, .cells [.int .i64 s.Kind, s_v1, .int .i64 s.Length.Low, .int .i64 s.Length.High].toArray 129)] ∧ gs = [] ∧ HSub H H34 ∧ Sum.inr () = r35) ?_ ?_
 ·skip
  refine JC.block (JC.loop hlr35 (fun (i_56 : Int) H57 f bs gs => f 1 = .pointer (some ⟨b1, 0, none⟩) ∧ f 3 = .int .i64 i_56 ∧ bs = [(b1, .cells [.int .i64 s.Kind, s_v1, .int .i64 s.Length.Low, .int .i64 s.Length.High].toArray 129)] ∧ gs = [] ∧ HSub H H57) ⟨rfl, rfl, rfl, rfl, (HSub.refl _)⟩ ?_)
  rintro i_56 x59 H57 f bs gs ⟨hf1, hf3, rfl, rfl, hs57⟩ hF hr58
  rw [F_ref07_isSlot_s1] at hF
  refine (JC.norm (i := 1) hf1 (JC.norm (i := 3) hf3 ?_))
  refine JC.seq (JC.seq (JC.region (by rfl) ?_))
  intro hQ
  refine JL.move .none rfl ?_
  refine JL.fieldAddr fo_129_1 rfl .none rfl ?_
  refine JL.loadOwn 0 az_23 rfl rfl rfl .none rfl ?_
  refine JL.lenSL (R := RInt) ul_23 (SL.mono RInt.mono hs57 hs_1) .none rfl ?_
  refine JL.bin rfl rfl rfl .none rfl ?_
  refine JL.done hQ (JQ.go ?_)
  rcases ite_some hF with ⟨hc60, hF⟩ | ⟨hc60, hF⟩
  ·refine JC.cond_t (b := decide (i_56 < (s.Sections.length : Int))) rfl hc60 ?_
   refine JC.skip (JQ.go (JC.seq (JC.block (JC.seq (JC.region (by rfl) ?_)))))
   intro hQ
   refine JL.fieldAddr fo_129_1 rfl .none rfl ?_
   refine JL.loadOwn 0 az_23 rfl rfl rfl .none rfl ?_
   refine JL.move .none rfl ?_
   obtain ⟨y61, hy61, hF⟩ := bind_some hF
   refine JL.indexSL (R := RInt) sl_23 (SL.mono RInt.mono hs57 hs_1) rfl hy61 .none rfl ?_
   rintro b62 o63 cs64 hc65 - rfl
   refine JL.loadH 0 az_3 rfl hc65 rfl .none rfl ?_
   obtain ⟨y66, hy66, hF⟩ := bind_some hF
   refine JL.callS (c_ref07_Within n H57 y61 0 9 y66 hy66) rfl en_68 .none rfl ?_
   refine JL.not rfl .none rfl ?_
   refine JL.done hQ (JQ.go (JC.fresh (fun f => f 1 = .pointer (some ⟨b1, 0, none⟩) ∧ f 3 = .int .i64 i_56 ∧ f 17 = .bool (!y66)) ⟨rfl, rfl, rfl⟩ ?_))
   rintro f ⟨hf1, hf3, hf17⟩
   refine (JC.norm (i := 1) hf1 (JC.norm (i := 3) hf3 (JC.norm (i := 17) hf17 ?_)))
   rcases ite_some hF with ⟨hc67, hF⟩ | ⟨hc67, hF⟩
   ·refine JC.cond_t (b := (!y66)) rfl hc67 ?_
    refine JC.seq (JC.region (by rfl) ?_)
    intro hQ
    refine JL.assign .none rfl ?_
    refine JL.done hQ (JQ.go (JC.ret (JQ.ret_block (JQ.ret_then (JQ.ret_then (JQ.ret_block (JQ.ret_join (JQ.ret_then ?_))))))))
    obtain rfl := Option.some.inj hF
    have ehr58 := hr58 _ rfl
    subst ehr58
    have hF := hKr35
    try dsimp only at hF
    obtain rfl := Option.some.inj hF
    exact JQ.outS rfl (.tmp .nil) rfl
   ·refine JC.cond_f (b := (!y66)) rfl hc67 ?_
    refine JC.skip (JQ.normal_block (JQ.go (JC.region (by rfl) ?_)))
    intro hQ
    refine JL.move .none rfl ?_
    refine JL.bin rfl rfl rfl .none rfl ?_
    refine JL.assign .none rfl ?_
    refine JL.done hQ ?_
    obtain rfl := Option.some.inj hF
    exact JQ.next rfl ⟨rfl, rfl, rfl, rfl, hs57⟩
  ·refine JC.cond_f (b := decide (i_56 < (s.Sections.length : Int))) rfl hc60 ?_
   refine JC.exit (JQ.exit_then (JQ.exit_then (JQ.exit_block ?_)))
   obtain rfl := Option.some.inj hF
   have ehr58 := hr58 _ rfl
   subst ehr58
   exact JQ.join () ⟨rfl, rfl, rfl, hs57, rfl⟩
 ·rintro _ H34 f bs gs ⟨hf1, rfl, rfl, hs34, rfl⟩
  have hF := hKr35
  try dsimp only at hF
  refine (JQ.norm (i := 1) hf1 ?_)
  refine JQ.go (JC.seq (JC.region (by rfl) ?_))
  intro hQ
  refine JL.fieldAddr fo_129_0 rfl .none rfl ?_
  refine JL.loadOwn 0 az_3 rfl rfl rfl .none rfl ?_
  obtain ⟨y68, hy68, hF⟩ := bind_some hF
  refine JL.callS (c_ref07_Within n H34 s.Kind 0 9 y68 hy68) rfl en_68 .none rfl ?_
  refine JL.move .none rfl ?_
  refine JL.cut 5 (fun f => f 1 = .pointer (some ⟨b1, 0, none⟩) ∧ f 26 = .bool (y68 && (decide ((s.Sections.length : Int) ≤ 4)))) ?_ ?_
  ·intro hJ69
   rcases bcases y68 with hc70 | hc70
   ·skip
    refine JL.fieldAddr fo_129_1 rfl (.some rfl rfl rfl hc70) rfl ?_
    refine JL.loadOwn 0 az_23 rfl rfl rfl (.some rfl rfl rfl hc70) rfl ?_
    refine JL.lenSL (R := RInt) ul_23 (SL.mono RInt.mono hs34 hs_1) (.some rfl rfl rfl hc70) rfl ?_
    refine JL.bin rfl rfl rfl (.some rfl rfl rfl hc70) rfl ?_
    refine JL.pick_t (b := y68) rfl hc70 .none rfl ?_
    exact hJ69 _ ⟨rfl, and_t hc70 rfl⟩
   ·skip
    refine JL.skip (.bool rfl rfl rfl hc70) rfl ?_
    refine JL.skip (.bool rfl rfl rfl hc70) rfl ?_
    refine JL.skip (.bool rfl rfl rfl hc70) rfl ?_
    refine JL.skip (.bool rfl rfl rfl hc70) rfl ?_
    refine JL.pick_f (b := y68) rfl hc70 .none rfl ?_
    exact hJ69 _ ⟨rfl, and_f hc70 rfl⟩
  ·rintro f ⟨hf1, hf26⟩
   refine (JL.norm (i := 1) hf1 (JL.norm (i := 26) hf26 ?_))
   refine JL.move .none rfl ?_
   obtain ⟨p72, hp72, hF⟩ := bind_some hF
   refine JL.cut 4 (fun f => f 1 = .pointer (some ⟨b1, 0, none⟩) ∧ f 31 = .bool p72) ?_ ?_
   ·intro hJ73
    rcases ite_some hp72 with ⟨hc74, hF⟩ | ⟨hc74, hF⟩
    ·skip
     refine JL.fieldAddr fo_129_1 rfl (.some rfl rfl rfl hc74) rfl ?_
     refine JL.loadOwn 0 az_23 rfl rfl rfl (.some rfl rfl rfl hc74) rfl ?_
     obtain ⟨y75, hy75, hF⟩ := bind_some hF
     refine JL.callS (c_ref07_Ascending n H34 s.Sections s_v1 (SL.mono RInt.mono hs34 hs_1) y75 hy75) rfl en_200 (.some rfl rfl rfl hc74) rfl ?_
     refine JL.pick_t (b := (y68 && (decide ((s.Sections.length : Int) ≤ 4)))) rfl hc74 .none rfl ?_
     obtain rfl := Option.some.inj hF
     exact hJ73 _ ⟨rfl, rfl⟩
    ·skip
     refine JL.skip (.bool rfl rfl rfl hc74) rfl ?_
     refine JL.skip (.bool rfl rfl rfl hc74) rfl ?_
     refine JL.skip (.bool rfl rfl rfl hc74) rfl ?_
     refine JL.pick_f (b := (y68 && (decide ((s.Sections.length : Int) ≤ 4)))) rfl hc74 .none rfl ?_
     obtain rfl := Option.some.inj hF
     exact hJ73 _ ⟨rfl, rfl⟩
   ·rintro f ⟨hf1, hf31⟩
    refine (JL.norm (i := 1) hf1 (JL.norm (i := 31) hf31 ?_))
    refine JL.move .none rfl ?_
    obtain ⟨p77, hp77, hF⟩ := bind_some hF
    refine JL.cut 4 (fun f => f 36 = .bool p77) ?_ ?_
    ·intro hJ78
     rcases ite_some hp77 with ⟨hc79, hF⟩ | ⟨hc79, hF⟩
     ·skip
      refine JL.fieldAddr fo_129_2 rfl (.some rfl rfl rfl hc79) rfl ?_
      refine JL.loadOwn 0 az_39 rfl rfl rfl (.some rfl rfl rfl hc79) rfl ?_
      obtain ⟨y80, hy80, hF⟩ := bind_some hF
      refine JL.callS (c_ref07_isLength n H34 s.Length y80 hy80) rfl en_166 (.some rfl rfl rfl hc79) rfl ?_
      refine JL.pick_t (b := p72) rfl hc79 .none rfl ?_
      obtain rfl := Option.some.inj hF
      exact hJ78 _ (rfl)
     ·skip
      refine JL.skip (.bool rfl rfl rfl hc79) rfl ?_
      refine JL.skip (.bool rfl rfl rfl hc79) rfl ?_
      refine JL.skip (.bool rfl rfl rfl hc79) rfl ?_
      refine JL.pick_f (b := p72) rfl hc79 .none rfl ?_
      obtain rfl := Option.some.inj hF
      exact hJ78 _ (rfl)
    ·rintro f hf36
     refine (JL.norm (i := 36) hf36 ?_)
     refine JL.assign .none rfl ?_
     refine JL.done hQ (JQ.go (JC.ret ?_))
     obtain rfl := Option.some.inj hF
     exact JQ.outS rfl (.tmp .nil) rfl
-- 22 ferrule/ferruleref07.IsSpare
def F_ref07_IsSpare (n : Nat) (w_ : Workshop) (spare : Int) : Option Bool :=
 (F_ref07_Within n spare 0 (w64 ((w_.Spares.length : Int) - 1))).bind fun y2 => some y2
theorem c_ref07_IsSpare (n : Nat) (H : Hp) (w_ : Workshop) (w__v0 : Value) (hw__0 : SL H 4 R_Spare w__v0 w_.Spares) (w__v1 : Value) (hw__1 : SL H 1 R_Make w__v1 w_.Makes) (w__v3 : Value) (hw__3 : SL H 4 R_Trial w__v3 w_.Table) (spare : Int) (y : Bool) (hF : F_ref07_IsSpare n w_ spare = some y) : SC Try.prog 22 [.agg [w__v0, w__v1, .int .i64 w_.Cut, w__v3].toArray, .int .i64 spare] (.bool y) H := by
 rw [F_ref07_IsSpare] at hF
 refine SC.of (N := 11) Try.func22 rfl rfl rfl fun w => ?_
 refine JC.seq (JC.region (by rfl) ?_)
 intro hQ
 refine JL.box (cs := [w__v0, w__v1, .int .i64 w_.Cut, w__v3]) rfl .none rfl ?_
 intro b1
 refine JL.assign .none rfl ?_
 refine JL.done hQ (JQ.go (JC.seq (JC.region (by rfl) ?_)))
 intro hQ
 refine JL.move .none rfl ?_
 refine JL.fieldAddr fo_48_0 rfl .none rfl ?_
 refine JL.loadOwn 0 az_44 rfl rfl rfl .none rfl ?_
 refine JL.lenSL (R := R_Spare) ul_44 hw__0 .none rfl ?_
 refine JL.bin rfl rfl rfl .none rfl ?_
 obtain ⟨y2, hy2, hF⟩ := bind_some hF
 refine JL.callS (c_ref07_Within n H spare 0 (w64 ((w_.Spares.length : Int) - 1)) y2 hy2) rfl en_68 .none rfl ?_
 refine JL.assign .none rfl ?_
 refine JL.done hQ (JQ.go (JC.ret ?_))
 obtain rfl := Option.some.inj hF
 exact JQ.outS rfl (.tmp .nil) rfl
-- 201 ferrule/ferruleref07.IsMake
def F_ref07_IsMake (n : Nat) (w_ : Workshop) (maker : Int) : Option Bool :=
 (F_ref07_Within n maker 0 (w64 ((w_.Makes.length : Int) - 1))).bind fun y2 => some y2
theorem c_ref07_IsMake (n : Nat) (H : Hp) (w_ : Workshop) (w__v0 : Value) (hw__0 : SL H 4 R_Spare w__v0 w_.Spares) (w__v1 : Value) (hw__1 : SL H 1 R_Make w__v1 w_.Makes) (w__v3 : Value) (hw__3 : SL H 4 R_Trial w__v3 w_.Table) (maker : Int) (y : Bool) (hF : F_ref07_IsMake n w_ maker = some y) : SC Try.prog 201 [.agg [w__v0, w__v1, .int .i64 w_.Cut, w__v3].toArray, .int .i64 maker] (.bool y) H := by
 rw [F_ref07_IsMake] at hF
 refine SC.of (N := 11) Try.func201 rfl rfl rfl fun w => ?_
 refine JC.seq (JC.region (by rfl) ?_)
 intro hQ
 refine JL.box (cs := [w__v0, w__v1, .int .i64 w_.Cut, w__v3]) rfl .none rfl ?_
 intro b1
 refine JL.assign .none rfl ?_
 refine JL.done hQ (JQ.go (JC.seq (JC.region (by rfl) ?_)))
 intro hQ
 refine JL.move .none rfl ?_
 refine JL.fieldAddr fo_48_1 rfl .none rfl ?_
 refine JL.loadOwn 0 az_45 rfl rfl rfl .none rfl ?_
 refine JL.lenSL (R := R_Make) ul_45 hw__1 .none rfl ?_
 refine JL.bin rfl rfl rfl .none rfl ?_
 obtain ⟨y2, hy2, hF⟩ := bind_some hF
 refine JL.callS (c_ref07_Within n H maker 0 (w64 ((w_.Makes.length : Int) - 1)) y2 hy2) rfl en_68 .none rfl ?_
 refine JL.assign .none rfl ?_
 refine JL.done hQ (JQ.go (JC.ret ?_))
 obtain rfl := Option.some.inj hF
 exact JQ.outS rfl (.tmp .nil) rfl
-- 168 ferrule/ferruleref07.IsSlotOf
def F_ref07_IsSlotOf (n : Nat) (w_ : Workshop) (maker : Int) (slot : Int) : Option Bool :=
 (F_ref07_IsMake n w_ maker).bind fun y2 => (if y2 = true then ((geti w_.Makes maker).bind fun y12 => (F_ref07_Within n slot 0 (w64 ((y12.Slots.length : Int) - 1))).bind fun y17 => some y17) else (some false) : Option Bool).bind fun p9 => some p9
theorem c_ref07_IsSlotOf (n : Nat) (H : Hp) (w_ : Workshop) (w__v0 : Value) (hw__0 : SL H 4 R_Spare w__v0 w_.Spares) (w__v1 : Value) (hw__1 : SL H 1 R_Make w__v1 w_.Makes) (w__v3 : Value) (hw__3 : SL H 4 R_Trial w__v3 w_.Table) (maker : Int) (slot : Int) (y : Bool) (hF : F_ref07_IsSlotOf n w_ maker slot = some y) : SC Try.prog 168 [.agg [w__v0, w__v1, .int .i64 w_.Cut, w__v3].toArray, .int .i64 maker, .int .i64 slot] (.bool y) H := by
 rw [F_ref07_IsSlotOf] at hF
 refine SC.of (N := 22) Try.func168 rfl rfl rfl fun w => ?_
 refine JC.seq (JC.region (by rfl) ?_)
 intro hQ
 refine JL.box (cs := [w__v0, w__v1, .int .i64 w_.Cut, w__v3]) rfl .none rfl ?_
 intro b1
 refine JL.assign .none rfl ?_
 refine JL.done hQ (JQ.go (JC.seq (JC.region (by rfl) ?_)))
 intro hQ
 refine JL.loadOwn 0 az_48 rfl rfl rfl .none rfl ?_
 refine JL.move .none rfl ?_
 obtain ⟨y2, hy2, hF⟩ := bind_some hF
 refine JL.callS (c_ref07_IsMake n H w_ w__v0 hw__0 w__v1 hw__1 w__v3 hw__3 maker y2 hy2) rfl en_201 .none rfl ?_
 refine JL.move .none rfl ?_
 obtain ⟨p9, hp9, hF⟩ := bind_some hF
 refine JL.cut 11 (fun f => f 21 = .bool p9) ?_ ?_
 ·intro hJ10
  rcases ite_some hp9 with ⟨hc11, hF⟩ | ⟨hc11, hF⟩
  ·skip
   refine JL.move (.some rfl rfl rfl hc11) rfl ?_
   refine JL.fieldAddr fo_48_1 rfl (.some rfl rfl rfl hc11) rfl ?_
   refine JL.loadOwn 0 az_45 rfl rfl rfl (.some rfl rfl rfl hc11) rfl ?_
   refine JL.move (.some rfl rfl rfl hc11) rfl ?_
   obtain ⟨y12, hy12, hF⟩ := bind_some hF
   refine JL.indexSL (R := R_Make) sl_45 hw__1 rfl hy12 (.some rfl rfl rfl hc11) rfl ?_
   rintro b13 o14 cs15 hc16 - ⟨y12_v0, rfl, hy12_0⟩
   refine JL.fieldAddr fo_127_0 rfl (.some rfl rfl rfl hc11) rfl ?_
   refine JL.loadH 0 az_125 rfl hc16 rfl (.some rfl rfl rfl hc11) rfl ?_
   refine JL.lenSL (R := R_Slot) ul_125 hy12_0 (.some rfl rfl rfl hc11) rfl ?_
   refine JL.bin rfl rfl rfl (.some rfl rfl rfl hc11) rfl ?_
   obtain ⟨y17, hy17, hF⟩ := bind_some hF
   refine JL.callS (c_ref07_Within n H slot 0 (w64 ((y12.Slots.length : Int) - 1)) y17 hy17) rfl en_68 (.some rfl rfl rfl hc11) rfl ?_
   refine JL.pick_t (b := y2) rfl hc11 .none rfl ?_
   obtain rfl := Option.some.inj hF
   exact hJ10 _ (rfl)
  ·skip
   refine JL.skip (.bool rfl rfl rfl hc11) rfl ?_
   refine JL.skip (.bool rfl rfl rfl hc11) rfl ?_
   refine JL.skip (.bool rfl rfl rfl hc11) rfl ?_
   refine JL.skip (.bool rfl rfl rfl hc11) rfl ?_
   refine JL.skip (.bool rfl rfl rfl hc11) rfl ?_
   refine JL.skip (.bool rfl rfl rfl hc11) rfl ?_
   refine JL.skip (.bool rfl rfl rfl hc11) rfl ?_
   refine JL.skip (.bool rfl rfl rfl hc11) rfl ?_
   refine JL.skip (.bool rfl rfl rfl hc11) rfl ?_
   refine JL.skip (.bool rfl rfl rfl hc11) rfl ?_
   refine JL.pick_f (b := y2) rfl hc11 .none rfl ?_
   obtain rfl := Option.some.inj hF
   exact hJ10 _ (rfl)
 ·rintro f hf21
  refine (JL.norm (i := 21) hf21 ?_)
  refine JL.assign .none rfl ?_
  refine JL.done hQ (JQ.go (JC.ret ?_))
  obtain rfl := Option.some.inj hF
  exact JQ.outS rfl (.tmp .nil) rfl
end Go.Proofs.Yteihdclpiekmaaa
end
section
set_option maxRecDepth 100000
set_option maxHeartbeats 40000000
namespace Go.Proofs.Yteihdclpiekmaaa
open Go Go.RowKit Go.Dec
set_option linter.unusedVariables false
theorem mz_az3 : aggsz Try.prog 3 = some (false, 1) := by kernel_rfl
theorem mz_fo61_0 : fieldOff Try.prog 68 0 = some 0 := by kernel_rfl
theorem mz_fo61_1 : fieldOff Try.prog 68 1 = some 2 := by kernel_rfl
theorem mz_fo59_0 : fieldOff Try.prog 39 0 = some 0 := by kernel_rfl
theorem mz_fo59_1 : fieldOff Try.prog 39 1 = some 1 := by kernel_rfl
theorem mz_fo26_1 : fieldOff Try.prog 53 1 = some 1 := by kernel_rfl
theorem mz_fo26_2 : fieldOff Try.prog 53 2 = some 2 := by kernel_rfl
def I_frames_positions_1_s {σ ρ : Type} (f0 : Frame) (cs : σ → Int → Option (σ ⊕ ρ)) : Int × σ → Option ((Int × σ) ⊕ (σ ⊕ ρ))
  | (r, s) => if decide (f0.Low ≤ r) = true then ((cs s r).bind fun y => match y with | .inl s' => some (.inl (w64 (r - 1), s')) | .inr e => some (.inr (.inr e))) else some (.inr (.inl s))
def I_frames_positions_1 {σ ρ : Type} (n : Nat) (f0 : Frame) (cs : σ → Int → Option (σ ⊕ ρ)) (s : σ) : Option (σ ⊕ ρ) :=
  loopO n (I_frames_positions_1_s f0 cs) (f0.High, s)
set_option maxRecDepth 100000 in
set_option maxHeartbeats 4000000 in
theorem it_frames_positions_1 (n : Nat) (H : Hp) (c_0 : Frame) (c_0_v0 : Value) (hc_0_0 : SL H 7 R_Section c_0_v0 c_0.Sections) (c_0_b : Nat) (c_0_c : Cells H c_0_b 0 [c_0_v0, .int .i64 c_0.Low, .int .i64 c_0.High, .int .i64 c_0.Ease.Num, .int .i64 c_0.Ease.Den, .int .i64 c_0.Rod, .int .i64 c_0.Case]) :
    IT Try.prog 176 [.pointer (some ⟨c_0_b, 0, none⟩)] H (VPlain fun (x : Int) => .int .i64 x) (fun _ _ cs s => I_frames_positions_1 n c_0 cs s) := by
  refine IT.of (N := 16) Try.func176 rfl rfl rfl rfl fun σ ρ B A Ax cs l s0 y hF hY H1 fr gs Q hs1 hA hout => ?_
  unfold I_frames_positions_1 at hF
  refine JC.seq ?_
  refine JC.region (by rfl) ?_
  intro hQ
  refine JL.fieldAddr mz_fo26_2 rfl .none rfl ?_
  refine JL.loadH 2 mz_az3 rfl (Cells.mono hs1 c_0_c) rfl .none rfl ?_
  refine JL.assign .none rfl ?_
  refine JL.done hQ ?_
  refine JQ.go ?_
  refine JC.block ?_
  refine JC.loop hF (fun (z : Int × σ) Hz f bs gs => match z with | (r, s) => f 0 = .func (.yield l) #[] #[] ∧ f 1 = .pointer (some ⟨c_0_b, 0, none⟩) ∧ f 3 = .int .i64 r ∧ A s Hz bs gs ∧ HSub H1 Hz) ⟨rfl, rfl, rfl, hA, HSub.refl _⟩ ?_
  rintro ⟨r, s⟩ x H2 f bs gs2 ⟨hf0, hf1, hf3, hA2, hs2⟩ hF hr
  rw [I_frames_positions_1_s] at hF
  refine (JC.norm (i := 0) hf0 (JC.norm (i := 1) hf1 (JC.norm (i := 3) hf3 ?_)))
  refine JC.seq ?_
  refine JC.seq ?_
  refine JC.region (by rfl) ?_
  intro hQ
  refine JL.move .none rfl ?_
  refine JL.fieldAddr mz_fo26_1 rfl .none rfl ?_
  refine JL.loadH 1 mz_az3 rfl (Cells.mono (hs1.trans hs2) c_0_c) rfl .none rfl ?_
  refine JL.bin rfl rfl rfl .none rfl ?_
  refine JL.done hQ ?_
  refine JQ.go ?_
  rcases ite_some hF with ⟨hc, hF⟩ | ⟨hc, hF⟩
  · refine JC.cond_t (b := decide (c_0.Low ≤ r)) rfl hc ?_
    refine JC.skip ?_
    refine JQ.go ?_
    refine JC.seq ?_
    refine JC.block ?_
    refine JC.seq ?_
    obtain ⟨y0, hy0, hF⟩ := bind_some hF
    refine JC.regionY _ 2 rfl rfl (by rfl) ?_
    intro hQ
    refine JL.move .none rfl ?_
    refine JL.move .none rfl ?_
    refine JL.atYield (A := A) (Ax := Ax) (y := y0) (tl := []) hQ (by rfl) rfl rfl rfl rfl (fun w hw => hY s r y0 _ [] [] H2 bs gs2 w hA2 hy0 ⟨rfl, rfl⟩ hw) ?_ ?_
    · rintro s' H3 fr3 gs3 rfl hs3 hA3
      refine JL.not rfl .none rfl ?_
      refine JL.done hQ ?_
      refine JQ.go ?_
      refine JC.cond_f (b := !true) rfl rfl ?_
      refine JC.skip ?_
      refine JQ.normal_block ?_
      refine JQ.go ?_
      refine JC.region (by rfl) ?_
      intro hQ
      refine JL.move .none rfl ?_
      refine JL.bin rfl rfl rfl .none rfl ?_
      refine JL.assign .none rfl ?_
      refine JL.done hQ ?_
      obtain rfl := Option.some.inj hF
      exact JQ.next rfl ⟨rfl, rfl, rfl, hA3, hs2.trans hs3⟩
    · rintro e H3 fr3 gs3 rfl hs3 hA3
      refine JL.not rfl .none rfl ?_
      refine JL.done hQ ?_
      refine JQ.go ?_
      refine JC.cond_t (b := !false) rfl rfl ?_
      refine JC.ret ?_
      refine JQ.ret_block ?_
      refine JQ.ret_then ?_
      refine JQ.ret_then ?_
      refine JQ.ret_block ?_
      obtain rfl := Option.some.inj hF
      have e2 := hr _ rfl
      subst e2
      exact (hout H3 _ [] fr3 gs3 (hs2.trans hs3) hA3).1
  · refine JC.cond_f (b := decide (c_0.Low ≤ r)) rfl hc ?_
    refine JC.exit ?_
    refine JQ.exit_then ?_
    refine JQ.exit_then ?_
    refine JQ.exit_block ?_
    obtain rfl := Option.some.inj hF
    have e2 := hr _ rfl
    subst e2
    exact (hout H2 _ [] bs gs2 hs2 hA2).2
def I_frames_truths_1_s2 {σ ρ : Type} (c_0 : Section) (a : Int) (cs : σ → frames_sides → Option (σ ⊕ ρ)) : Int × σ → Option ((Int × σ) ⊕ (σ ⊕ ρ))
  | (b, s) => if decide (b ≤ c_0.Stretch.High) = true then ((cs s ⟨a, b⟩).bind fun y => match y with | .inl s' => some (.inl (w64 (b + 1), s')) | .inr e => some (.inr (.inr e))) else some (.inr (.inl s))
def I_frames_truths_1_s1 {σ ρ : Type} (n : Nat) (c_0 : Section) (cs : σ → frames_sides → Option (σ ⊕ ρ)) : Int × σ → Option ((Int × σ) ⊕ (σ ⊕ ρ))
  | (a, s) => if decide (a ≤ c_0.Arm.High) = true then ((loopO n (I_frames_truths_1_s2 c_0 a cs) (c_0.Stretch.Low, s)).bind fun y => match y with | .inl s' => some (.inl (w64 (a + 1), s')) | .inr e => some (.inr (.inr e))) else some (.inr (.inl s))
def I_frames_truths_1 {σ ρ : Type} (n : Nat) (c_0 : Section) (cs : σ → frames_sides → Option (σ ⊕ ρ)) (s : σ) : Option (σ ⊕ ρ) :=
  loopO n (I_frames_truths_1_s1 n c_0 cs) (c_0.Arm.Low, s)
set_option maxRecDepth 100000 in
set_option maxHeartbeats 4000000 in
theorem it_frames_truths_1 (n : Nat) (H : Hp) (c_0 : Section) (c_0_b : Nat) (c_0_c : Cells H c_0_b 0 [.int .i64 c_0.Arm.Low, .int .i64 c_0.Arm.High, .int .i64 c_0.Stretch.Low, .int .i64 c_0.Stretch.High, .int .i64 c_0.Base, .int .i64 c_0.Gear.Num, .int .i64 c_0.Gear.Den]) :
    IT Try.prog 125 [.pointer (some ⟨c_0_b, 0, none⟩)] H (VPlain fun (x : frames_sides) => .agg [.int .i64 x.arm, .int .i64 x.stretch].toArray) (fun _ _ cs s => I_frames_truths_1 n c_0 cs s) := by
  refine IT.of (N := 31) Try.func125 rfl rfl rfl rfl fun σ ρ B A Ax cs l s0 y hF hY H1 fr gs Q hs1 hA hout => ?_
  unfold I_frames_truths_1 at hF
  refine JC.seq ?_
  refine JC.region (by rfl) ?_
  intro hQ
  refine JL.fieldAddr mz_fo61_0 rfl .none rfl ?_
  refine JL.fieldAddr mz_fo59_0 rfl .none rfl ?_
  refine JL.loadH 0 mz_az3 rfl (Cells.mono hs1 c_0_c) rfl .none rfl ?_
  refine JL.assign .none rfl ?_
  refine JL.done hQ ?_
  refine JQ.go ?_
  refine JC.block ?_
  refine JC.loop hF (fun (z : Int × σ) Hz f bs gs => match z with | (a, s) => f 0 = .func (.yield l) #[] #[] ∧ f 1 = .pointer (some ⟨c_0_b, 0, none⟩) ∧ f 3 = .int .i64 a ∧ A s Hz bs gs ∧ HSub H1 Hz) ⟨rfl, rfl, rfl, hA, HSub.refl _⟩ ?_
  rintro ⟨a, s⟩ x H2 f bs gs2 ⟨hf0, hf1, hf3, hA2, hs2⟩ hF hr
  rw [I_frames_truths_1_s1] at hF
  refine (JC.norm (i := 0) hf0 (JC.norm (i := 1) hf1 (JC.norm (i := 3) hf3 ?_)))
  refine JC.seq ?_
  refine JC.seq ?_
  refine JC.region (by rfl) ?_
  intro hQ
  refine JL.move .none rfl ?_
  refine JL.fieldAddr mz_fo61_0 rfl .none rfl ?_
  refine JL.fieldAddr mz_fo59_1 rfl .none rfl ?_
  refine JL.loadH 1 mz_az3 rfl (Cells.mono (hs1.trans hs2) c_0_c) rfl .none rfl ?_
  refine JL.bin rfl rfl rfl .none rfl ?_
  refine JL.done hQ ?_
  refine JQ.go ?_
  rcases ite_some hF with ⟨hc, hF⟩ | ⟨hc, hF⟩
  · refine JC.cond_t (b := decide (a ≤ c_0.Arm.High)) rfl hc ?_
    refine JC.skip ?_
    refine JQ.go ?_
    refine JC.seq ?_
    refine JC.block ?_
    refine JC.seq ?_
    refine JC.region (by rfl) ?_
    intro hQ
    refine JL.fieldAddr mz_fo61_1 rfl .none rfl ?_
    refine JL.fieldAddr mz_fo59_0 rfl .none rfl ?_
    refine JL.loadH 2 mz_az3 rfl (Cells.mono (hs1.trans hs2) c_0_c) rfl .none rfl ?_
    refine JL.assign .none rfl ?_
    refine JL.done hQ ?_
    refine JQ.go ?_
    obtain ⟨r1, hl1, hK1⟩ := bind_some hF
    refine JC.join (fun (s' : σ) H3 f bs gs => f 0 = .func (.yield l) #[] #[] ∧ f 1 = .pointer (some ⟨c_0_b, 0, none⟩) ∧ f 3 = .int .i64 a ∧ A s' H3 bs gs ∧ HSub H2 H3 ∧ Sum.inl s' = r1) ?_ ?_
    · refine JC.block ?_
      refine JC.loop hl1 (fun (z : Int × σ) Hz f bs gs => match z with | (b, s) => f 0 = .func (.yield l) #[] #[] ∧ f 1 = .pointer (some ⟨c_0_b, 0, none⟩) ∧ f 3 = .int .i64 a ∧ f 4 = .int .i64 b ∧ A s Hz bs gs ∧ HSub H2 Hz) ⟨rfl, rfl, rfl, rfl, hA2, HSub.refl _⟩ ?_
      rintro ⟨b, s1⟩ x1 H3 f bs3 gs3 ⟨hf0, hf1, hf3, hf4, hA3, hs3⟩ hF hr1
      rw [I_frames_truths_1_s2] at hF
      refine (JC.norm (i := 0) hf0 (JC.norm (i := 1) hf1 (JC.norm (i := 3) hf3 (JC.norm (i := 4) hf4 ?_))))
      refine JC.seq ?_
      refine JC.seq ?_
      refine JC.region (by rfl) ?_
      intro hQ
      refine JL.move .none rfl ?_
      refine JL.fieldAddr mz_fo61_1 rfl .none rfl ?_
      refine JL.fieldAddr mz_fo59_1 rfl .none rfl ?_
      refine JL.loadH 3 mz_az3 rfl (Cells.mono ((hs1.trans hs2).trans hs3) c_0_c) rfl .none rfl ?_
      refine JL.bin rfl rfl rfl .none rfl ?_
      refine JL.done hQ ?_
      refine JQ.go ?_
      rcases ite_some hF with ⟨hc3, hF⟩ | ⟨hc3, hF⟩
      · refine JC.cond_t (b := decide (b ≤ c_0.Stretch.High)) rfl hc3 ?_
        refine JC.skip ?_
        refine JQ.go ?_
        refine JC.seq ?_
        refine JC.block ?_
        refine JC.seq ?_
        obtain ⟨y0, hy0, hF⟩ := bind_some hF
        refine JC.regionY _ 4 rfl rfl (by rfl) ?_
        intro hQ
        refine JL.move .none rfl ?_
        refine JL.move .none rfl ?_
        refine JL.move .none rfl ?_
        refine JL.build (l := [.int .i64 a, .int .i64 b]) (by kernel_rfl) .none rfl ?_
        refine JL.atYield (A := A) (Ax := Ax) (y := y0) (tl := []) hQ (by rfl) rfl rfl rfl rfl (fun w hw => hY s1 ⟨a, b⟩ y0 _ [] [] H3 bs3 gs3 w hA3 hy0 ⟨rfl, rfl⟩ hw) ?_ ?_
        · rintro s' H4 fr4 gs4 rfl hs4 hA4
          refine JL.not rfl .none rfl ?_
          refine JL.done hQ ?_
          refine JQ.go ?_
          refine JC.cond_f (b := !true) rfl rfl ?_
          refine JC.skip ?_
          refine JQ.normal_block ?_
          refine JQ.go ?_
          refine JC.region (by rfl) ?_
          intro hQ
          refine JL.move .none rfl ?_
          refine JL.bin rfl rfl rfl .none rfl ?_
          refine JL.assign .none rfl ?_
          refine JL.done hQ ?_
          obtain rfl := Option.some.inj hF
          exact JQ.next rfl ⟨rfl, rfl, rfl, rfl, hA4, hs3.trans hs4⟩
        · rintro e H4 fr4 gs4 rfl hs4 hA4
          refine JL.not rfl .none rfl ?_
          refine JL.done hQ ?_
          refine JQ.go ?_
          refine JC.cond_t (b := !false) rfl rfl ?_
          refine JC.ret ?_
          refine JQ.ret_block ?_
          refine JQ.ret_then ?_
          refine JQ.ret_then ?_
          refine JQ.ret_block ?_
          refine JQ.ret_join ?_
          refine JQ.ret_block ?_
          refine JQ.ret_then ?_
          refine JQ.ret_then ?_
          refine JQ.ret_block ?_
          obtain rfl := Option.some.inj hF
          have e1 := hr1 _ rfl
          subst e1
          have hF := hK1
          dsimp only at hF
          obtain rfl := Option.some.inj hF
          have e2 := hr _ rfl
          subst e2
          exact (hout H4 _ [] fr4 gs4 ((hs2.trans hs3).trans hs4) hA4).1
      · refine JC.cond_f (b := decide (b ≤ c_0.Stretch.High)) rfl hc3 ?_
        refine JC.exit ?_
        refine JQ.exit_then ?_
        refine JQ.exit_then ?_
        refine JQ.exit_block ?_
        obtain rfl := Option.some.inj hF
        have e1 := hr1 _ rfl
        subst e1
        exact JQ.join s1 ⟨rfl, rfl, rfl, hA3, hs3, rfl⟩
    · rintro s' H3 f bs3 gs3 ⟨hf0, hf1, hf3, hA3, hs3, rfl⟩
      have hF := hK1
      dsimp only at hF
      refine (JQ.norm (i := 0) hf0 (JQ.norm (i := 1) hf1 (JQ.norm (i := 3) hf3 ?_)))
      refine JQ.normal_block ?_
      refine JQ.go ?_
      refine JC.region (by rfl) ?_
      intro hQ
      refine JL.move .none rfl ?_
      refine JL.bin rfl rfl rfl .none rfl ?_
      refine JL.assign .none rfl ?_
      refine JL.done hQ ?_
      obtain rfl := Option.some.inj hF
      exact JQ.next rfl ⟨rfl, rfl, rfl, hA3, hs2.trans hs3⟩
  · refine JC.cond_f (b := decide (a ≤ c_0.Arm.High)) rfl hc ?_
    refine JC.exit ?_
    refine JQ.exit_then ?_
    refine JQ.exit_then ?_
    refine JQ.exit_block ?_
    obtain rfl := Option.some.inj hF
    have e2 := hr _ rfl
    subst e2
    exact (hout H2 _ [] bs gs2 hs2 hA2).2
end Go.Proofs.Yteihdclpiekmaaa
end
section
set_option maxRecDepth 100000
set_option maxHeartbeats 40000000
namespace Go.Proofs.Yteihdclpiekmaaa
open Go Go.RowKit Go.Dec
set_option linter.unusedVariables false
-- 117 ferrule/ferruleref07.isWorkshop
def F_ref07_isWorkshop_s1 (n : Nat) (w_ : Workshop) : Int → Option (Int ⊕ (Bool ⊕ Unit))
 | i_121 => if decide (i_121 < (w_.Spares.length : Int)) = true then ((geti w_.Spares i_121).bind fun y126 => (F_ref07_Within n y126.Kind 0 9).bind fun y132 => (if (!y132) = true then (some true) else ((F_ref07_Within n y126.Section 0 9).bind fun y137 => some (!y137)) : Option Bool).bind fun p134 => (if p134 = true then (some true) else ((F_ref07_isLength n y126.Length).bind fun y142 => some (!y142)) : Option Bool).bind fun p139 => if p139 = true then (some (Sum.inr (Sum.inl false))) else (some (Sum.inl (w64 (i_121 + 1))))) else (some (Sum.inr (Sum.inr ())))
def F_ref07_isWorkshop_s3 (n : Nat) (w_ : Workshop) (i_823 : Int) : Int → Option (Int ⊕ ((Int ⊕ (Bool ⊕ Unit)) ⊕ Unit))
 | k_938 => (geti w_.Makes i_823).bind fun y942 => if decide (k_938 < (y942.Slots.length : Int)) = true then ((geti w_.Makes i_823).bind fun y948 => (geti y948.Slots k_938).bind fun y953 => (F_ref07_isSlot n y953).bind fun y958 => if (!y958) = true then (some (Sum.inr (Sum.inl (Sum.inr (Sum.inl false))))) else (some (Sum.inl (w64 (k_938 + 1))))) else (some (Sum.inr (Sum.inr ())))
def F_ref07_isWorkshop_s2 (n : Nat) (w_ : Workshop) : Int → Option (Int ⊕ (Bool ⊕ Unit))
 | i_823 => if decide (i_823 < (w_.Makes.length : Int)) = true then ((geti w_.Makes i_823).bind fun y828 => if decide (4 < (y828.Slots.length : Int)) = true then (some (Sum.inr (Sum.inl false))) else ((loopO n (F_ref07_isWorkshop_s3 n w_ i_823) 0).bind fun r897 => match r897 with | .inl o => some o | .inr _ => some (Sum.inl (w64 (i_823 + 1))))) else (some (Sum.inr (Sum.inr ())))
def F_ref07_isWorkshop_s4 (n : Nat) (w_ : Workshop) : Int → Option (Int ⊕ (Bool ⊕ Unit))
 | i_1069 => if decide (i_1069 < (w_.Table.length : Int)) = true then ((geti w_.Table i_1069).bind fun y1074 => (F_ref07_IsSpare n w_ y1074.Spare).bind fun y1080 => (if (!y1080) = true then (some true) else ((F_ref07_IsSlotOf n w_ y1074.Make y1074.Slot).bind fun y1085 => some (!y1085)) : Option Bool).bind fun p1082 => (if p1082 = true then (some true) else ((F_ref07_Within n y1074.Fits 0 1).bind fun y1090 => some (!y1090)) : Option Bool).bind fun p1087 => if p1087 = true then (some (Sum.inr (Sum.inl false))) else (some (Sum.inl (w64 (i_1069 + 1))))) else (some (Sum.inr (Sum.inr ())))
def F_ref07_isWorkshop (n : Nat) (w_ : Workshop) : Option Bool :=
 (if ((decide (10 < (w_.Spares.length : Int))) || (decide (6 < (w_.Makes.length : Int)))) = true then (some true) else ((F_ref07_Within n w_.Cut 0 99).bind fun y8 => some (!y8)) : Option Bool).bind fun p5 => if (p5 || (decide (30 < (w_.Table.length : Int)))) = true then (some false) else ((loopO n (F_ref07_isWorkshop_s1 n w_) 0).bind fun r78 => match r78 with | .inl o => some o | .inr _ => (loopO n (F_ref07_isWorkshop_s2 n w_) 0).bind fun r552 => match r552 with | .inl o => some o | .inr _ => (loopO n (F_ref07_isWorkshop_s4 n w_) 0).bind fun r1026 => match r1026 with | .inl o => some o | .inr _ => some true)
theorem c_ref07_isWorkshop (n : Nat) (H : Hp) (w_ : Workshop) (w__v0 : Value) (hw__0 : SL H 4 R_Spare w__v0 w_.Spares) (w__v1 : Value) (hw__1 : SL H 1 R_Make w__v1 w_.Makes) (w__v3 : Value) (hw__3 : SL H 4 R_Trial w__v3 w_.Table) (y : Bool) (hF : F_ref07_isWorkshop n w_ = some y) : SC Try.prog 117 [.agg [w__v0, w__v1, .int .i64 w_.Cut, w__v3].toArray] (.bool y) H := by
 rw [F_ref07_isWorkshop] at hF
 refine SC.of (N := 128) Try.func117 rfl rfl rfl fun w => ?_
 refine JC.seq (JC.region (by rfl) ?_)
 intro hQ
 refine JL.box (cs := [w__v0, w__v1, .int .i64 w_.Cut, w__v3]) rfl .none rfl ?_
 intro b1
 refine JL.assign .none rfl ?_
 refine JL.done hQ (JQ.go (JC.seq (JC.seq (JC.region (by rfl) ?_))))
 intro hQ
 refine JL.fieldAddr fo_48_0 rfl .none rfl ?_
 refine JL.loadOwn 0 az_44 rfl rfl rfl .none rfl ?_
 refine JL.lenSL (R := R_Spare) ul_44 hw__0 .none rfl ?_
 refine JL.bin rfl rfl rfl .none rfl ?_
 refine JL.move .none rfl ?_
 refine JL.cut 5 (fun f => f 1 = .pointer (some ⟨b1, 0, none⟩) ∧ f 18 = .bool ((decide (10 < (w_.Spares.length : Int))) || (decide (6 < (w_.Makes.length : Int))))) ?_ ?_
 ·intro hJ2
  rcases bcases (decide (10 < (w_.Spares.length : Int))) with hc3 | hc3
  ·skip
   refine JL.skip (.bool rfl rfl rfl hc3) rfl ?_
   refine JL.skip (.bool rfl rfl rfl hc3) rfl ?_
   refine JL.skip (.bool rfl rfl rfl hc3) rfl ?_
   refine JL.skip (.bool rfl rfl rfl hc3) rfl ?_
   refine JL.pick_t (b := decide (10 < (w_.Spares.length : Int))) rfl hc3 .none rfl ?_
   exact hJ2 _ ⟨rfl, or_t hc3 rfl⟩
  ·skip
   refine JL.fieldAddr fo_48_1 rfl (.some rfl rfl rfl hc3) rfl ?_
   refine JL.loadOwn 0 az_45 rfl rfl rfl (.some rfl rfl rfl hc3) rfl ?_
   refine JL.lenSL (R := R_Make) ul_45 hw__1 (.some rfl rfl rfl hc3) rfl ?_
   refine JL.bin rfl rfl rfl (.some rfl rfl rfl hc3) rfl ?_
   refine JL.pick_f (b := decide (10 < (w_.Spares.length : Int))) rfl hc3 .none rfl ?_
   exact hJ2 _ ⟨rfl, or_f hc3 rfl⟩
 ·rintro f ⟨hf1, hf18⟩
  refine (JL.norm (i := 1) hf1 (JL.norm (i := 18) hf18 ?_))
  refine JL.move .none rfl ?_
  obtain ⟨p5, hp5, hF⟩ := bind_some hF
  refine JL.cut 5 (fun f => f 1 = .pointer (some ⟨b1, 0, none⟩) ∧ f 24 = .bool p5) ?_ ?_
  ·intro hJ6
   rcases ite_some hp5 with ⟨hc7, hF⟩ | ⟨hc7, hF⟩
   ·skip
    refine JL.skip (.bool rfl rfl rfl hc7) rfl ?_
    refine JL.skip (.bool rfl rfl rfl hc7) rfl ?_
    refine JL.skip (.bool rfl rfl rfl hc7) rfl ?_
    refine JL.skip (.bool rfl rfl rfl hc7) rfl ?_
    refine JL.pick_t (b := ((decide (10 < (w_.Spares.length : Int))) || (decide (6 < (w_.Makes.length : Int))))) rfl hc7 .none rfl ?_
    obtain rfl := Option.some.inj hF
    exact hJ6 _ ⟨rfl, rfl⟩
   ·skip
    refine JL.fieldAddr fo_48_2 rfl (.some rfl rfl rfl hc7) rfl ?_
    refine JL.loadOwn 0 az_3 rfl rfl rfl (.some rfl rfl rfl hc7) rfl ?_
    obtain ⟨y8, hy8, hF⟩ := bind_some hF
    refine JL.callS (c_ref07_Within n H w_.Cut 0 99 y8 hy8) rfl en_68 (.some rfl rfl rfl hc7) rfl ?_
    refine JL.not rfl (.some rfl rfl rfl hc7) rfl ?_
    refine JL.pick_f (b := ((decide (10 < (w_.Spares.length : Int))) || (decide (6 < (w_.Makes.length : Int))))) rfl hc7 .none rfl ?_
    obtain rfl := Option.some.inj hF
    exact hJ6 _ ⟨rfl, rfl⟩
  ·rintro f ⟨hf1, hf24⟩
   refine (JL.norm (i := 1) hf1 (JL.norm (i := 24) hf24 ?_))
   refine JL.move .none rfl ?_
   refine JL.cut 5 (fun f => f 1 = .pointer (some ⟨b1, 0, none⟩) ∧ f 30 = .bool (p5 || (decide (30 < (w_.Table.length : Int))))) ?_ ?_
   ·intro hJ9
    rcases bcases p5 with hc10 | hc10
    ·skip
     refine JL.skip (.bool rfl rfl rfl hc10) rfl ?_
     refine JL.skip (.bool rfl rfl rfl hc10) rfl ?_
     refine JL.skip (.bool rfl rfl rfl hc10) rfl ?_
     refine JL.skip (.bool rfl rfl rfl hc10) rfl ?_
     refine JL.pick_t (b := p5) rfl hc10 .none rfl ?_
     exact hJ9 _ ⟨rfl, or_t hc10 rfl⟩
    ·skip
     refine JL.fieldAddr fo_48_3 rfl (.some rfl rfl rfl hc10) rfl ?_
     refine JL.loadOwn 0 az_46 rfl rfl rfl (.some rfl rfl rfl hc10) rfl ?_
     refine JL.lenSL (R := R_Trial) ul_46 hw__3 (.some rfl rfl rfl hc10) rfl ?_
     refine JL.bin rfl rfl rfl (.some rfl rfl rfl hc10) rfl ?_
     refine JL.pick_f (b := p5) rfl hc10 .none rfl ?_
     exact hJ9 _ ⟨rfl, or_f hc10 rfl⟩
   ·rintro f ⟨hf1, hf30⟩
    refine (JL.norm (i := 1) hf1 (JL.norm (i := 30) hf30 ?_))
    refine JL.done hQ (JQ.go ?_)
    rcases ite_some hF with ⟨hc11, hF⟩ | ⟨hc11, hF⟩
    ·refine JC.cond_t (b := (p5 || (decide (30 < (w_.Table.length : Int))))) rfl hc11 ?_
     refine JC.seq (JC.region (by rfl) ?_)
     intro hQ
     refine JL.assign .none rfl ?_
     refine JL.done hQ (JQ.go (JC.ret (JQ.ret_then ?_)))
     obtain rfl := Option.some.inj hF
     exact JQ.outS rfl (.tmp .nil) rfl
    ·refine JC.cond_f (b := (p5 || (decide (30 < (w_.Table.length : Int))))) rfl hc11 ?_
     refine JC.skip (JQ.go (JC.seq (JC.seq (JC.region (by rfl) ?_))))
     intro hQ
     refine JL.assign .none rfl ?_
     refine JL.done hQ (JQ.go ?_)
     obtain ⟨r78, hlr78, hKr78⟩ := bind_some hF
     refine JC.join (fun (_ : Unit) H77 f bs gs => f 1 = .pointer (some ⟨b1, 0, none⟩) ∧ bs = [(b1, .cells [w__v0, w__v1, .int .i64 w_.Cut, w__v3].toArray 48)] ∧ gs = [] ∧ HSub H H77 ∧ Sum.inr () = r78) ?_ ?_
     ·skip
      refine JC.block (JC.loop hlr78 (fun (i_121 : Int) H122 f bs gs => f 1 = .pointer (some ⟨b1, 0, none⟩) ∧ f 3 = .int .i64 i_121 ∧ bs = [(b1, .cells [w__v0, w__v1, .int .i64 w_.Cut, w__v3].toArray 48)] ∧ gs = [] ∧ HSub H H122) ⟨rfl, rfl, rfl, rfl, (HSub.refl _)⟩ ?_)
      rintro i_121 x124 H122 f bs gs ⟨hf1, hf3, rfl, rfl, hs122⟩ hF hr123
      rw [F_ref07_isWorkshop_s1] at hF
      refine (JC.norm (i := 1) hf1 (JC.norm (i := 3) hf3 ?_))
      refine JC.seq (JC.seq (JC.region (by rfl) ?_))
      intro hQ
      refine JL.move .none rfl ?_
      refine JL.fieldAddr fo_48_0 rfl .none rfl ?_
      refine JL.loadOwn 0 az_44 rfl rfl rfl .none rfl ?_
      refine JL.lenSL (R := R_Spare) ul_44 (SL.mono R_Spare_mono hs122 hw__0) .none rfl ?_
      refine JL.bin rfl rfl rfl .none rfl ?_
      refine JL.done hQ (JQ.go ?_)
      rcases ite_some hF with ⟨hc125, hF⟩ | ⟨hc125, hF⟩
      ·refine JC.cond_t (b := decide (i_121 < (w_.Spares.length : Int))) rfl hc125 ?_
       refine JC.skip (JQ.go (JC.seq (JC.block (JC.seq (JC.region (by rfl) ?_)))))
       intro hQ
       refine JL.fieldAddr fo_48_0 rfl .none rfl ?_
       refine JL.loadOwn 0 az_44 rfl rfl rfl .none rfl ?_
       refine JL.move .none rfl ?_
       obtain ⟨y126, hy126, hF⟩ := bind_some hF
       refine JL.indexSL (R := R_Spare) sl_44 (SL.mono R_Spare_mono hs122 hw__0) rfl hy126 .none rfl ?_
       rintro b127 o128 cs129 hc130 - rfl
       refine JL.loadH 0 az_131 rfl hc130 rfl .none rfl ?_
       refine JL.alloc ze_131 .none rfl ?_
       intro b131
       refine JL.storeOwn 0 (cs := [.int .i64 y126.Kind, .int .i64 y126.Section, .int .i64 y126.Length.Low, .int .i64 y126.Length.High]) az_131 rfl rfl rfl (one_cons rfl (one_cons rfl (one_cons rfl (one_cons rfl one_nil)))) rfl rfl .none ?_
       refine JL.done hQ (JQ.go (JC.seq (JC.region (by rfl) ?_)))
       intro hQ
       refine JL.fieldAddr fo_131_0 rfl .none rfl ?_
       refine JL.loadOwn 0 az_3 rfl rfl rfl .none rfl ?_
       obtain ⟨y132, hy132, hF⟩ := bind_some hF
       refine JL.callS (c_ref07_Within n H122 y126.Kind 0 9 y132 hy132) rfl en_68 .none rfl ?_
       refine JL.not rfl .none rfl ?_
       refine JL.move .none rfl ?_
       obtain ⟨p134, hp134, hF⟩ := bind_some hF
       refine JL.cut 5 (fun f => f 1 = .pointer (some ⟨b1, 0, none⟩) ∧ f 3 = .int .i64 i_121 ∧ f 4 = .pointer (some ⟨b131, 0, none⟩) ∧ f 52 = .bool p134) ?_ ?_
       ·intro hJ135
        rcases ite_some hp134 with ⟨hc136, hF⟩ | ⟨hc136, hF⟩
        ·skip
         refine JL.skip (.bool rfl rfl rfl hc136) rfl ?_
         refine JL.skip (.bool rfl rfl rfl hc136) rfl ?_
         refine JL.skip (.bool rfl rfl rfl hc136) rfl ?_
         refine JL.skip (.bool rfl rfl rfl hc136) rfl ?_
         refine JL.pick_t (b := (!y132)) rfl hc136 .none rfl ?_
         obtain rfl := Option.some.inj hF
         exact hJ135 _ ⟨rfl, rfl, rfl, rfl⟩
        ·skip
         refine JL.fieldAddr fo_131_1 rfl (.some rfl rfl rfl hc136) rfl ?_
         refine JL.loadOwn 0 az_3 rfl rfl rfl (.some rfl rfl rfl hc136) rfl ?_
         obtain ⟨y137, hy137, hF⟩ := bind_some hF
         refine JL.callS (c_ref07_Within n H122 y126.Section 0 9 y137 hy137) rfl en_68 (.some rfl rfl rfl hc136) rfl ?_
         refine JL.not rfl (.some rfl rfl rfl hc136) rfl ?_
         refine JL.pick_f (b := (!y132)) rfl hc136 .none rfl ?_
         obtain rfl := Option.some.inj hF
         exact hJ135 _ ⟨rfl, rfl, rfl, rfl⟩
       ·rintro f ⟨hf1, hf3, hf4, hf52⟩
        refine (JL.norm (i := 1) hf1 (JL.norm (i := 3) hf3 (JL.norm (i := 4) hf4 (JL.norm (i := 52) hf52 ?_))))
        refine JL.move .none rfl ?_
        obtain ⟨p139, hp139, hF⟩ := bind_some hF
        refine JL.cut 5 (fun f => f 1 = .pointer (some ⟨b1, 0, none⟩) ∧ f 3 = .int .i64 i_121 ∧ f 58 = .bool p139) ?_ ?_
        ·intro hJ140
         rcases ite_some hp139 with ⟨hc141, hF⟩ | ⟨hc141, hF⟩
         ·skip
          refine JL.skip (.bool rfl rfl rfl hc141) rfl ?_
          refine JL.skip (.bool rfl rfl rfl hc141) rfl ?_
          refine JL.skip (.bool rfl rfl rfl hc141) rfl ?_
          refine JL.skip (.bool rfl rfl rfl hc141) rfl ?_
          refine JL.pick_t (b := p134) rfl hc141 .none rfl ?_
          obtain rfl := Option.some.inj hF
          exact hJ140 _ ⟨rfl, rfl, rfl⟩
         ·skip
          refine JL.fieldAddr fo_131_2 rfl (.some rfl rfl rfl hc141) rfl ?_
          refine JL.loadOwn 0 az_39 rfl rfl rfl (.some rfl rfl rfl hc141) rfl ?_
          obtain ⟨y142, hy142, hF⟩ := bind_some hF
          refine JL.callS (c_ref07_isLength n H122 y126.Length y142 hy142) rfl en_166 (.some rfl rfl rfl hc141) rfl ?_
          refine JL.not rfl (.some rfl rfl rfl hc141) rfl ?_
          refine JL.pick_f (b := p134) rfl hc141 .none rfl ?_
          obtain rfl := Option.some.inj hF
          exact hJ140 _ ⟨rfl, rfl, rfl⟩
        ·rintro f ⟨hf1, hf3, hf58⟩
         refine (JL.norm (i := 1) hf1 (JL.norm (i := 3) hf3 (JL.norm (i := 58) hf58 ?_)))
         refine JL.done hQ (JQ.go ?_)
         rcases ite_some hF with ⟨hc143, hF⟩ | ⟨hc143, hF⟩
         ·refine JC.cond_t (b := p139) rfl hc143 ?_
          refine JC.seq (JC.region (by rfl) ?_)
          intro hQ
          refine JL.assign .none rfl ?_
          refine JL.done hQ (JQ.go (JC.ret (JQ.ret_block (JQ.ret_then (JQ.ret_then (JQ.ret_block (JQ.ret_join (JQ.ret_then ?_))))))))
          obtain rfl := Option.some.inj hF
          have ehr123 := hr123 _ rfl
          subst ehr123
          have hF := hKr78
          try dsimp only at hF
          obtain rfl := Option.some.inj hF
          exact JQ.outS rfl (.tmp .nil) rfl
         ·refine JC.cond_f (b := p139) rfl hc143 ?_
          refine JC.skip (JQ.normal_block (JQ.go (JC.region (by rfl) ?_)))
          intro hQ
          refine JL.move .none rfl ?_
          refine JL.bin rfl rfl rfl .none rfl ?_
          refine JL.assign .none rfl ?_
          refine JL.done hQ ?_
          obtain rfl := Option.some.inj hF
          refine JQ.mask [false, true] [] ?_
          exact JQ.next rfl ⟨rfl, rfl, rfl, rfl, hs122⟩
      ·refine JC.cond_f (b := decide (i_121 < (w_.Spares.length : Int))) rfl hc125 ?_
       refine JC.exit (JQ.exit_then (JQ.exit_then (JQ.exit_block ?_)))
       obtain rfl := Option.some.inj hF
       have ehr123 := hr123 _ rfl
       subst ehr123
       exact JQ.join () ⟨rfl, rfl, rfl, hs122, rfl⟩
     ·rintro _ H77 f bs gs ⟨hf1, rfl, rfl, hs77, rfl⟩
      have hF := hKr78
      try dsimp only at hF
      refine (JQ.norm (i := 1) hf1 ?_)
      refine JQ.go (JC.seq (JC.seq (JC.region (by rfl) ?_)))
      intro hQ
      refine JL.assign .none rfl ?_
      refine JL.done hQ (JQ.go ?_)
      obtain ⟨r552, hlr552, hKr552⟩ := bind_some hF
      refine JC.join (fun (_ : Unit) H551 f bs gs => f 1 = .pointer (some ⟨b1, 0, none⟩) ∧ bs = [(b1, .cells [w__v0, w__v1, .int .i64 w_.Cut, w__v3].toArray 48)] ∧ gs = [] ∧ HSub H77 H551 ∧ Sum.inr () = r552) ?_ ?_
      ·skip
       refine JC.block (JC.loop hlr552 (fun (i_823 : Int) H824 f bs gs => f 1 = .pointer (some ⟨b1, 0, none⟩) ∧ f 5 = .int .i64 i_823 ∧ bs = [(b1, .cells [w__v0, w__v1, .int .i64 w_.Cut, w__v3].toArray 48)] ∧ gs = [] ∧ HSub H77 H824) ⟨rfl, rfl, rfl, rfl, (HSub.refl _)⟩ ?_)
       rintro i_823 x826 H824 f bs gs ⟨hf1, hf5, rfl, rfl, hs824⟩ hF hr825
       rw [F_ref07_isWorkshop_s2] at hF
       refine (JC.norm (i := 1) hf1 (JC.norm (i := 5) hf5 ?_))
       refine JC.seq (JC.seq (JC.region (by rfl) ?_))
       intro hQ
       refine JL.move .none rfl ?_
       refine JL.fieldAddr fo_48_1 rfl .none rfl ?_
       refine JL.loadOwn 0 az_45 rfl rfl rfl .none rfl ?_
       refine JL.lenSL (R := R_Make) ul_45 (SL.mono R_Make_mono (HSub.trans hs77 hs824) hw__1) .none rfl ?_
       refine JL.bin rfl rfl rfl .none rfl ?_
       refine JL.done hQ (JQ.go ?_)
       rcases ite_some hF with ⟨hc827, hF⟩ | ⟨hc827, hF⟩
       ·refine JC.cond_t (b := decide (i_823 < (w_.Makes.length : Int))) rfl hc827 ?_
        refine JC.skip (JQ.go (JC.seq (JC.block (JC.seq (JC.seq (JC.region (by rfl) ?_))))))
        intro hQ
        refine JL.fieldAddr fo_48_1 rfl .none rfl ?_
        refine JL.loadOwn 0 az_45 rfl rfl rfl .none rfl ?_
        refine JL.move .none rfl ?_
        obtain ⟨y828, hy828, hF⟩ := bind_some hF
        refine JL.indexSL (R := R_Make) sl_45 (SL.mono R_Make_mono (HSub.trans hs77 hs824) hw__1) rfl hy828 .none rfl ?_
        rintro b829 o830 cs831 hc832 - ⟨y828_v0, rfl, hy828_0⟩
        refine JL.fieldAddr fo_127_0 rfl .none rfl ?_
        refine JL.loadH 0 az_125 rfl hc832 rfl .none rfl ?_
        refine JL.lenSL (R := R_Slot) ul_125 hy828_0 .none rfl ?_
        refine JL.bin rfl rfl rfl .none rfl ?_
        refine JL.done hQ (JQ.go (JC.fresh (fun f => f 1 = .pointer (some ⟨b1, 0, none⟩) ∧ f 5 = .int .i64 i_823 ∧ f 73 = .bool (decide (4 < (y828.Slots.length : Int)))) ⟨rfl, rfl, rfl⟩ ?_))
        rintro f ⟨hf1, hf5, hf73⟩
        refine (JC.norm (i := 1) hf1 (JC.norm (i := 5) hf5 (JC.norm (i := 73) hf73 ?_)))
        rcases ite_some hF with ⟨hc833, hF⟩ | ⟨hc833, hF⟩
        ·refine JC.cond_t (b := decide (4 < (y828.Slots.length : Int))) rfl hc833 ?_
         refine JC.seq (JC.region (by rfl) ?_)
         intro hQ
         refine JL.assign .none rfl ?_
         refine JL.done hQ (JQ.go (JC.ret (JQ.ret_then (JQ.ret_block (JQ.ret_then (JQ.ret_then (JQ.ret_block (JQ.ret_join (JQ.ret_then ?_)))))))))
         obtain rfl := Option.some.inj hF
         have ehr825 := hr825 _ rfl
         subst ehr825
         have hF := hKr552
         try dsimp only at hF
         obtain rfl := Option.some.inj hF
         exact JQ.outS rfl (.tmp .nil) rfl
        ·refine JC.cond_f (b := decide (4 < (y828.Slots.length : Int))) rfl hc833 ?_
         refine JC.skip (JQ.go (JC.seq (JC.region (by rfl) ?_)))
         intro hQ
         refine JL.assign .none rfl ?_
         refine JL.done hQ (JQ.go ?_)
         obtain ⟨r897, hlr897, hKr897⟩ := bind_some hF
         refine JC.join (fun (_ : Unit) H896 f bs gs => f 1 = .pointer (some ⟨b1, 0, none⟩) ∧ f 5 = .int .i64 i_823 ∧ bs = [(b1, .cells [w__v0, w__v1, .int .i64 w_.Cut, w__v3].toArray 48)] ∧ gs = [] ∧ HSub H824 H896 ∧ Sum.inr () = r897) ?_ ?_
         ·skip
          refine JC.block (JC.loop hlr897 (fun (k_938 : Int) H939 f bs gs => f 1 = .pointer (some ⟨b1, 0, none⟩) ∧ f 5 = .int .i64 i_823 ∧ f 6 = .int .i64 k_938 ∧ bs = [(b1, .cells [w__v0, w__v1, .int .i64 w_.Cut, w__v3].toArray 48)] ∧ gs = [] ∧ HSub H824 H939) ⟨rfl, rfl, rfl, rfl, rfl, (HSub.refl _)⟩ ?_)
          rintro k_938 x941 H939 f bs gs ⟨hf1, hf5, hf6, rfl, rfl, hs939⟩ hF hr940
          rw [F_ref07_isWorkshop_s3] at hF
          refine (JC.norm (i := 1) hf1 (JC.norm (i := 5) hf5 (JC.norm (i := 6) hf6 ?_)))
          refine JC.seq (JC.seq (JC.region (by rfl) ?_))
          intro hQ
          refine JL.move .none rfl ?_
          refine JL.fieldAddr fo_48_1 rfl .none rfl ?_
          refine JL.loadOwn 0 az_45 rfl rfl rfl .none rfl ?_
          refine JL.move .none rfl ?_
          obtain ⟨y942, hy942, hF⟩ := bind_some hF
          refine JL.indexSL (R := R_Make) sl_45 (SL.mono R_Make_mono (HSub.trans hs77 (HSub.trans hs824 hs939)) hw__1) rfl hy942 .none rfl ?_
          rintro b943 o944 cs945 hc946 - ⟨y942_v0, rfl, hy942_0⟩
          refine JL.fieldAddr fo_127_0 rfl .none rfl ?_
          refine JL.loadH 0 az_125 rfl hc946 rfl .none rfl ?_
          refine JL.lenSL (R := R_Slot) ul_125 hy942_0 .none rfl ?_
          refine JL.bin rfl rfl rfl .none rfl ?_
          refine JL.done hQ (JQ.go ?_)
          rcases ite_some hF with ⟨hc947, hF⟩ | ⟨hc947, hF⟩
          ·refine JC.cond_t (b := decide (k_938 < (y942.Slots.length : Int))) rfl hc947 ?_
           refine JC.skip (JQ.go (JC.seq (JC.block (JC.seq (JC.region (by rfl) ?_)))))
           intro hQ
           refine JL.fieldAddr fo_48_1 rfl .none rfl ?_
           refine JL.loadOwn 0 az_45 rfl rfl rfl .none rfl ?_
           refine JL.move .none rfl ?_
           obtain ⟨y948, hy948, hF⟩ := bind_some hF
           refine JL.indexSL (R := R_Make) sl_45 (SL.mono R_Make_mono (HSub.trans hs77 (HSub.trans hs824 hs939)) hw__1) rfl hy948 .none rfl ?_
           rintro b949 o950 cs951 hc952 - ⟨y948_v0, rfl, hy948_0⟩
           refine JL.fieldAddr fo_127_0 rfl .none rfl ?_
           refine JL.loadH 0 az_125 rfl hc952 rfl .none rfl ?_
           refine JL.move .none rfl ?_
           obtain ⟨y953, hy953, hF⟩ := bind_some hF
           refine JL.indexSL (R := R_Slot) sl_125 hy948_0 rfl hy953 .none rfl ?_
           rintro b954 o955 cs956 hc957 - ⟨y953_v1, rfl, hy953_1⟩
           refine JL.loadH 0 az_129 rfl hc957 rfl .none rfl ?_
           obtain ⟨y958, hy958, hF⟩ := bind_some hF
           refine JL.callS (c_ref07_isSlot n H939 y953 y953_v1 hy953_1 y958 hy958) rfl en_167 .none rfl ?_
           refine JL.not rfl .none rfl ?_
           refine JL.done hQ (JQ.go (JC.fresh (fun f => f 1 = .pointer (some ⟨b1, 0, none⟩) ∧ f 5 = .int .i64 i_823 ∧ f 6 = .int .i64 k_938 ∧ f 95 = .bool (!y958)) ⟨rfl, rfl, rfl, rfl⟩ ?_))
           rintro f ⟨hf1, hf5, hf6, hf95⟩
           refine (JC.norm (i := 1) hf1 (JC.norm (i := 5) hf5 (JC.norm (i := 6) hf6 (JC.norm (i := 95) hf95 ?_))))
           rcases ite_some hF with ⟨hc959, hF⟩ | ⟨hc959, hF⟩
           ·refine JC.cond_t (b := (!y958)) rfl hc959 ?_
            refine JC.seq (JC.region (by rfl) ?_)
            intro hQ
            refine JL.assign .none rfl ?_
            refine JL.done hQ (JQ.go (JC.ret (JQ.ret_block (JQ.ret_then (JQ.ret_then (JQ.ret_block (JQ.ret_join (JQ.ret_block (JQ.ret_then (JQ.ret_then (JQ.ret_block (JQ.ret_join (JQ.ret_then ?_)))))))))))))
            obtain rfl := Option.some.inj hF
            have ehr940 := hr940 _ rfl
            subst ehr940
            have hF := hKr897
            try dsimp only at hF
            obtain rfl := Option.some.inj hF
            have ehr825 := hr825 _ rfl
            subst ehr825
            have hF := hKr552
            try dsimp only at hF
            obtain rfl := Option.some.inj hF
            exact JQ.outS rfl (.tmp .nil) rfl
           ·refine JC.cond_f (b := (!y958)) rfl hc959 ?_
            refine JC.skip (JQ.normal_block (JQ.go (JC.region (by rfl) ?_)))
            intro hQ
            refine JL.move .none rfl ?_
            refine JL.bin rfl rfl rfl .none rfl ?_
            refine JL.assign .none rfl ?_
            refine JL.done hQ ?_
            obtain rfl := Option.some.inj hF
            exact JQ.next rfl ⟨rfl, rfl, rfl, rfl, rfl, hs939⟩
          ·refine JC.cond_f (b := decide (k_938 < (y942.Slots.length : Int))) rfl hc947 ?_
           refine JC.exit (JQ.exit_then (JQ.exit_then (JQ.exit_block ?_)))
           obtain rfl := Option.some.inj hF
           have ehr940 := hr940 _ rfl
           subst ehr940
           exact JQ.join () ⟨rfl, rfl, rfl, rfl, hs939, rfl⟩
         ·rintro _ H896 f bs gs ⟨hf1, hf5, rfl, rfl, hs896, rfl⟩
          have hF := hKr897
          try dsimp only at hF
          refine (JQ.norm (i := 1) hf1 (JQ.norm (i := 5) hf5 ?_))
          refine JQ.normal_block (JQ.go (JC.region (by rfl) ?_))
          intro hQ
          refine JL.move .none rfl ?_
          refine JL.bin rfl rfl rfl .none rfl ?_
          refine JL.assign .none rfl ?_
          refine JL.done hQ ?_
          obtain rfl := Option.some.inj hF
          exact JQ.next rfl ⟨rfl, rfl, rfl, rfl, (HSub.trans hs824 hs896)⟩
       ·refine JC.cond_f (b := decide (i_823 < (w_.Makes.length : Int))) rfl hc827 ?_
        refine JC.exit (JQ.exit_then (JQ.exit_then (JQ.exit_block ?_)))
        obtain rfl := Option.some.inj hF
        have ehr825 := hr825 _ rfl
        subst ehr825
        exact JQ.join () ⟨rfl, rfl, rfl, hs824, rfl⟩
      ·rintro _ H551 f bs gs ⟨hf1, rfl, rfl, hs551, rfl⟩
       have hF := hKr552
       try dsimp only at hF
       refine (JQ.norm (i := 1) hf1 ?_)
       refine JQ.go (JC.seq (JC.seq (JC.region (by rfl) ?_)))
       intro hQ
       refine JL.assign .none rfl ?_
       refine JL.done hQ (JQ.go ?_)
       obtain ⟨r1026, hlr1026, hKr1026⟩ := bind_some hF
       refine JC.join (fun (_ : Unit) H1025 f bs gs => bs = [] ∧ gs = [] ∧ HSub H551 H1025 ∧ Sum.inr () = r1026) ?_ ?_
       ·skip
        refine JC.block (JC.loop hlr1026 (fun (i_1069 : Int) H1070 f bs gs => f 1 = .pointer (some ⟨b1, 0, none⟩) ∧ f 7 = .int .i64 i_1069 ∧ bs = [(b1, .cells [w__v0, w__v1, .int .i64 w_.Cut, w__v3].toArray 48)] ∧ gs = [] ∧ HSub H551 H1070) ⟨rfl, rfl, rfl, rfl, (HSub.refl _)⟩ ?_)
        rintro i_1069 x1072 H1070 f bs gs ⟨hf1, hf7, rfl, rfl, hs1070⟩ hF hr1071
        rw [F_ref07_isWorkshop_s4] at hF
        refine (JC.norm (i := 1) hf1 (JC.norm (i := 7) hf7 ?_))
        refine JC.seq (JC.seq (JC.region (by rfl) ?_))
        intro hQ
        refine JL.move .none rfl ?_
        refine JL.fieldAddr fo_48_3 rfl .none rfl ?_
        refine JL.loadOwn 0 az_46 rfl rfl rfl .none rfl ?_
        refine JL.lenSL (R := R_Trial) ul_46 (SL.mono R_Trial_mono (HSub.trans hs77 (HSub.trans hs551 hs1070)) hw__3) .none rfl ?_
        refine JL.bin rfl rfl rfl .none rfl ?_
        refine JL.done hQ (JQ.go ?_)
        rcases ite_some hF with ⟨hc1073, hF⟩ | ⟨hc1073, hF⟩
        ·refine JC.cond_t (b := decide (i_1069 < (w_.Table.length : Int))) rfl hc1073 ?_
         refine JC.skip (JQ.go (JC.seq (JC.block (JC.seq (JC.region (by rfl) ?_)))))
         intro hQ
         refine JL.fieldAddr fo_48_3 rfl .none rfl ?_
         refine JL.loadOwn 0 az_46 rfl rfl rfl .none rfl ?_
         refine JL.move .none rfl ?_
         obtain ⟨y1074, hy1074, hF⟩ := bind_some hF
         refine JL.indexSL (R := R_Trial) sl_46 (SL.mono R_Trial_mono (HSub.trans hs77 (HSub.trans hs551 hs1070)) hw__3) rfl hy1074 .none rfl ?_
         rintro b1075 o1076 cs1077 hc1078 - rfl
         refine JL.loadH 0 az_55 rfl hc1078 rfl .none rfl ?_
         refine JL.alloc ze_55 .none rfl ?_
         intro b1079
         refine JL.storeOwn 0 (cs := [.int .i64 y1074.Spare, .int .i64 y1074.Make, .int .i64 y1074.Slot, .int .i64 y1074.Fits]) az_55 rfl rfl rfl (one_cons rfl (one_cons rfl (one_cons rfl (one_cons rfl one_nil)))) rfl rfl .none ?_
         refine JL.done hQ (JQ.go (JC.seq (JC.region (by rfl) ?_)))
         intro hQ
         refine JL.loadOwn 1 az_48 rfl rfl rfl .none rfl ?_
         refine JL.fieldAddr fo_55_0 rfl .none rfl ?_
         refine JL.loadOwn 0 az_3 rfl rfl rfl .none rfl ?_
         obtain ⟨y1080, hy1080, hF⟩ := bind_some hF
         refine JL.callS (c_ref07_IsSpare n H1070 w_ w__v0 (SL.mono R_Spare_mono (HSub.trans hs77 (HSub.trans hs551 hs1070)) hw__0) w__v1 (SL.mono R_Make_mono (HSub.trans hs77 (HSub.trans hs551 hs1070)) hw__1) w__v3 (SL.mono R_Trial_mono (HSub.trans hs77 (HSub.trans hs551 hs1070)) hw__3) y1074.Spare y1080 hy1080) rfl en_22 .none rfl ?_
         refine JL.not rfl .none rfl ?_
         refine JL.move .none rfl ?_
         obtain ⟨p1082, hp1082, hF⟩ := bind_some hF
         refine JL.cut 8 (fun f => f 1 = .pointer (some ⟨b1, 0, none⟩) ∧ f 7 = .int .i64 i_1069 ∧ f 8 = .pointer (some ⟨b1079, 0, none⟩) ∧ f 121 = .bool p1082) ?_ ?_
         ·intro hJ1083
          rcases ite_some hp1082 with ⟨hc1084, hF⟩ | ⟨hc1084, hF⟩
          ·skip
           refine JL.skip (.bool rfl rfl rfl hc1084) rfl ?_
           refine JL.skip (.bool rfl rfl rfl hc1084) rfl ?_
           refine JL.skip (.bool rfl rfl rfl hc1084) rfl ?_
           refine JL.skip (.bool rfl rfl rfl hc1084) rfl ?_
           refine JL.skip (.bool rfl rfl rfl hc1084) rfl ?_
           refine JL.skip (.bool rfl rfl rfl hc1084) rfl ?_
           refine JL.skip (.bool rfl rfl rfl hc1084) rfl ?_
           refine JL.pick_t (b := (!y1080)) rfl hc1084 .none rfl ?_
           obtain rfl := Option.some.inj hF
           exact hJ1083 _ ⟨rfl, rfl, rfl, rfl⟩
          ·skip
           refine JL.loadOwn 1 az_48 rfl rfl rfl (.some rfl rfl rfl hc1084) rfl ?_
           refine JL.fieldAddr fo_55_1 rfl (.some rfl rfl rfl hc1084) rfl ?_
           refine JL.loadOwn 0 az_3 rfl rfl rfl (.some rfl rfl rfl hc1084) rfl ?_
           refine JL.fieldAddr fo_55_2 rfl (.some rfl rfl rfl hc1084) rfl ?_
           refine JL.loadOwn 0 az_3 rfl rfl rfl (.some rfl rfl rfl hc1084) rfl ?_
           obtain ⟨y1085, hy1085, hF⟩ := bind_some hF
           refine JL.callS (c_ref07_IsSlotOf n H1070 w_ w__v0 (SL.mono R_Spare_mono (HSub.trans hs77 (HSub.trans hs551 hs1070)) hw__0) w__v1 (SL.mono R_Make_mono (HSub.trans hs77 (HSub.trans hs551 hs1070)) hw__1) w__v3 (SL.mono R_Trial_mono (HSub.trans hs77 (HSub.trans hs551 hs1070)) hw__3) y1074.Make y1074.Slot y1085 hy1085) rfl en_168 (.some rfl rfl rfl hc1084) rfl ?_
           refine JL.not rfl (.some rfl rfl rfl hc1084) rfl ?_
           refine JL.pick_f (b := (!y1080)) rfl hc1084 .none rfl ?_
           obtain rfl := Option.some.inj hF
           exact hJ1083 _ ⟨rfl, rfl, rfl, rfl⟩
         ·rintro f ⟨hf1, hf7, hf8, hf121⟩
          refine (JL.norm (i := 1) hf1 (JL.norm (i := 7) hf7 (JL.norm (i := 8) hf8 (JL.norm (i := 121) hf121 ?_))))
          refine JL.move .none rfl ?_
          obtain ⟨p1087, hp1087, hF⟩ := bind_some hF
          refine JL.cut 5 (fun f => f 1 = .pointer (some ⟨b1, 0, none⟩) ∧ f 7 = .int .i64 i_1069 ∧ f 127 = .bool p1087) ?_ ?_
          ·intro hJ1088
           rcases ite_some hp1087 with ⟨hc1089, hF⟩ | ⟨hc1089, hF⟩
           ·skip
            refine JL.skip (.bool rfl rfl rfl hc1089) rfl ?_
            refine JL.skip (.bool rfl rfl rfl hc1089) rfl ?_
            refine JL.skip (.bool rfl rfl rfl hc1089) rfl ?_
            refine JL.skip (.bool rfl rfl rfl hc1089) rfl ?_
            refine JL.pick_t (b := p1082) rfl hc1089 .none rfl ?_
            obtain rfl := Option.some.inj hF
            exact hJ1088 _ ⟨rfl, rfl, rfl⟩
           ·skip
            refine JL.fieldAddr fo_55_3 rfl (.some rfl rfl rfl hc1089) rfl ?_
            refine JL.loadOwn 0 az_3 rfl rfl rfl (.some rfl rfl rfl hc1089) rfl ?_
            obtain ⟨y1090, hy1090, hF⟩ := bind_some hF
            refine JL.callS (c_ref07_Within n H1070 y1074.Fits 0 1 y1090 hy1090) rfl en_68 (.some rfl rfl rfl hc1089) rfl ?_
            refine JL.not rfl (.some rfl rfl rfl hc1089) rfl ?_
            refine JL.pick_f (b := p1082) rfl hc1089 .none rfl ?_
            obtain rfl := Option.some.inj hF
            exact hJ1088 _ ⟨rfl, rfl, rfl⟩
          ·rintro f ⟨hf1, hf7, hf127⟩
           refine (JL.norm (i := 1) hf1 (JL.norm (i := 7) hf7 (JL.norm (i := 127) hf127 ?_)))
           refine JL.done hQ (JQ.go ?_)
           rcases ite_some hF with ⟨hc1091, hF⟩ | ⟨hc1091, hF⟩
           ·refine JC.cond_t (b := p1087) rfl hc1091 ?_
            refine JC.seq (JC.region (by rfl) ?_)
            intro hQ
            refine JL.assign .none rfl ?_
            refine JL.done hQ (JQ.go (JC.ret (JQ.ret_block (JQ.ret_then (JQ.ret_then (JQ.ret_block (JQ.ret_join (JQ.ret_then ?_))))))))
            obtain rfl := Option.some.inj hF
            have ehr1071 := hr1071 _ rfl
            subst ehr1071
            have hF := hKr1026
            try dsimp only at hF
            obtain rfl := Option.some.inj hF
            exact JQ.outS rfl (.tmp .nil) rfl
           ·refine JC.cond_f (b := p1087) rfl hc1091 ?_
            refine JC.skip (JQ.normal_block (JQ.go (JC.region (by rfl) ?_)))
            intro hQ
            refine JL.move .none rfl ?_
            refine JL.bin rfl rfl rfl .none rfl ?_
            refine JL.assign .none rfl ?_
            refine JL.done hQ ?_
            obtain rfl := Option.some.inj hF
            refine JQ.mask [false, true] [] ?_
            exact JQ.next rfl ⟨rfl, rfl, rfl, rfl, hs1070⟩
        ·refine JC.cond_f (b := decide (i_1069 < (w_.Table.length : Int))) rfl hc1073 ?_
         refine JC.exit (JQ.exit_then (JQ.exit_then (JQ.exit_block ?_)))
         obtain rfl := Option.some.inj hF
         have ehr1071 := hr1071 _ rfl
         subst ehr1071
         refine JQ.mask [false] [] ?_
         exact JQ.join () ⟨rfl, rfl, hs1070, rfl⟩
       ·rintro _ H1025 f bs gs ⟨rfl, rfl, hs1025, rfl⟩
        have hF := hKr1026
        try dsimp only at hF
        refine JQ.go (JC.seq (JC.region (by rfl) ?_))
        intro hQ
        refine JL.assign .none rfl ?_
        refine JL.done hQ (JQ.go (JC.ret ?_))
        obtain rfl := Option.some.inj hF
        exact JQ.outS rfl (.tmp .nil) rfl
end Go.Proofs.Yteihdclpiekmaaa
end
