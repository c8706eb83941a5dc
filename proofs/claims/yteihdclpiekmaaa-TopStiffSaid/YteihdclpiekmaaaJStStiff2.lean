/-
  A part of the proof of StStiff: the texts StGenT, StGenK0, StMan, StGenK1.
-/
import Derived.Test.YteihdclpiekmaaaJStStiff1
import Derived.Test.YteihdclpiekmaaaRows
section
namespace Go.Proofs.Yteihdclpiekmaaa
open Go Go.RowKit Go.Dec
set_option linter.unusedVariables false
structure Span where
 Low : Int
 High : Int
structure Strip where
 Long : Int
 Pulled : Span
structure Bolt where
 Stretch : Span
 Strips : List Strip
 Wrong : Int
structure Dome where
 Bolts : List Bolt
 Gores : List Int
 Loss : Int
 Rounds : List Span
 Widths : List Int
 Slope : Int
structure Figure where
 Dome : Dome
 Period : Int
 Run : Int
 Near : Int
 Starts : List Int
 Times : List Int
structure cloth_tent where
 Dome : Dome
 can : List (List Int)
structure seams_ring where
 Figure : Figure
 moves : List (List Int)
def R_Span : Rl Span := fun _ cs x => cs = [.int .i64 x.Low, .int .i64 x.High]
theorem R_Span_mono : Mono R_Span := fun _ _ _ _ _ h => h
def R_Strip : Rl Strip := fun _ cs x => cs = [.int .i64 x.Long, .int .i64 x.Pulled.Low, .int .i64 x.Pulled.High]
theorem R_Strip_mono : Mono R_Strip := fun _ _ _ _ _ h => h
def R_Bolt : Rl Bolt := fun H cs x => ∃ v2 : Value, cs = [.int .i64 x.Stretch.Low, .int .i64 x.Stretch.High, v2, .int .i64 x.Wrong] ∧ SL H 3 R_Strip v2 x.Strips
theorem R_Bolt_mono : Mono R_Bolt := by
 rintro H H' h cs x ⟨v2, hcs, h0⟩
 exact ⟨v2, hcs, SL.mono R_Strip_mono h h0⟩
def R_Dome : Rl Dome := fun H cs x => ∃ v0 v1 v3 v4 : Value, cs = [v0, v1, .int .i64 x.Loss, v3, v4, .int .i64 x.Slope] ∧ SL H 4 R_Bolt v0 x.Bolts ∧ SL H 1 RInt v1 x.Gores ∧ SL H 2 R_Span v3 x.Rounds ∧ SL H 1 RInt v4 x.Widths
def R_Figure : Rl Figure := fun H cs x => ∃ v0 v1 v3 v4 v9 v10 : Value, cs = [v0, v1, .int .i64 x.Dome.Loss, v3, v4, .int .i64 x.Dome.Slope, .int .i64 x.Period, .int .i64 x.Run, .int .i64 x.Near, v9, v10] ∧ SL H 4 R_Bolt v0 x.Dome.Bolts ∧ SL H 1 RInt v1 x.Dome.Gores ∧ SL H 2 R_Span v3 x.Dome.Rounds ∧ SL H 1 RInt v4 x.Dome.Widths ∧ SL H 1 RInt v9 x.Starts ∧ SL H 1 RInt v10 x.Times
def R_cloth_tent : Rl cloth_tent := fun H cs x => ∃ v0 v1 v3 v4 v6 : Value, cs = [v0, v1, .int .i64 x.Dome.Loss, v3, v4, .int .i64 x.Dome.Slope, v6] ∧ SL H 4 R_Bolt v0 x.Dome.Bolts ∧ SL H 1 RInt v1 x.Dome.Gores ∧ SL H 2 R_Span v3 x.Dome.Rounds ∧ SL H 1 RInt v4 x.Dome.Widths ∧ SL H 1 (RSl 1 RInt) v6 x.can
def R_seams_ring : Rl seams_ring := fun H cs x => ∃ v0 v1 v3 v4 v9 v10 v11 : Value, cs = [v0, v1, .int .i64 x.Figure.Dome.Loss, v3, v4, .int .i64 x.Figure.Dome.Slope, .int .i64 x.Figure.Period, .int .i64 x.Figure.Run, .int .i64 x.Figure.Near, v9, v10, v11] ∧ SL H 4 R_Bolt v0 x.Figure.Dome.Bolts ∧ SL H 1 RInt v1 x.Figure.Dome.Gores ∧ SL H 2 R_Span v3 x.Figure.Dome.Rounds ∧ SL H 1 RInt v4 x.Figure.Dome.Widths ∧ SL H 1 RInt v9 x.Figure.Starts ∧ SL H 1 RInt v10 x.Figure.Times ∧ SL H 1 (RSl 1 RInt) v11 x.moves
def FN_124 (H : Hp) (v : Value) (f : Int → Option Bool) : Prop := ∃ (fk : Nat) (fc : List Value), v = .func (.func fk) #[] fc.toArray ∧ Ent Try.prog fk ∧ ∀ H', HSub H H' → ∀ (a0_ : Int) (y : Bool), f a0_ = some y → SC Try.prog fk ([.int .i64 a0_] ++ fc) (.bool y) H'
theorem FN_124.mono {H H' : Hp} (h : HSub H H') {v : Value} {f : Int → Option Bool} (hf : FN_124 H v f) : FN_124 H' v f := by
 obtain ⟨fk, fc, h1, h2, h3⟩ := hf
 exact ⟨fk, fc, h1, h2, fun H'' hs => h3 H'' (HSub.trans h hs)⟩
theorem FN_124.one {H : Hp} {v : Value} {f : Int → Option Bool} (hf : FN_124 H v f) : v.oneCell' = true := by
 obtain ⟨fk, fc, rfl, _⟩ := hf; rfl
def FN_133 (H : Hp) (v : Value) (f : Span → Option Bool) : Prop := ∃ (fk : Nat) (fc : List Value), v = .func (.func fk) #[] fc.toArray ∧ Ent Try.prog fk ∧ ∀ H', HSub H H' → ∀ (a0_ : Span) (y : Bool), f a0_ = some y → SC Try.prog fk ([.agg [.int .i64 a0_.Low, .int .i64 a0_.High].toArray] ++ fc) (.bool y) H'
theorem FN_133.mono {H H' : Hp} (h : HSub H H') {v : Value} {f : Span → Option Bool} (hf : FN_133 H v f) : FN_133 H' v f := by
 obtain ⟨fk, fc, h1, h2, h3⟩ := hf
 exact ⟨fk, fc, h1, h2, fun H'' hs => h3 H'' (HSub.trans h hs)⟩
theorem FN_133.one {H : Hp} {v : Value} {f : Span → Option Bool} (hf : FN_133 H v f) : v.oneCell' = true := by
 obtain ⟨fk, fc, rfl, _⟩ := hf; rfl
def FN_219 (H : Hp) (v : Value) (f : Bolt → Option Bool) : Prop := ∃ (fk : Nat) (fc : List Value), v = .func (.func fk) #[] fc.toArray ∧ Ent Try.prog fk ∧ ∀ H', HSub H H' → ∀ (a0_ : Bolt) (a0__v2 : Value) (ha0__2 : SL H' 3 R_Strip a0__v2 a0_.Strips) (y : Bool), f a0_ = some y → SC Try.prog fk ([.agg [.int .i64 a0_.Stretch.Low, .int .i64 a0_.Stretch.High, a0__v2, .int .i64 a0_.Wrong].toArray] ++ fc) (.bool y) H'
theorem FN_219.mono {H H' : Hp} (h : HSub H H') {v : Value} {f : Bolt → Option Bool} (hf : FN_219 H v f) : FN_219 H' v f := by
 obtain ⟨fk, fc, h1, h2, h3⟩ := hf
 exact ⟨fk, fc, h1, h2, fun H'' hs => h3 H'' (HSub.trans h hs)⟩
theorem FN_219.one {H : Hp} {v : Value} {f : Bolt → Option Bool} (hf : FN_219 H v f) : v.oneCell' = true := by
 obtain ⟨fk, fc, rfl, _⟩ := hf; rfl
def FN_245 (H : Hp) (v : Value) (f : Strip → Option Bool) : Prop := ∃ (fk : Nat) (fc : List Value), v = .func (.func fk) #[] fc.toArray ∧ Ent Try.prog fk ∧ ∀ H', HSub H H' → ∀ (a0_ : Strip) (y : Bool), f a0_ = some y → SC Try.prog fk ([.agg [.int .i64 a0_.Long, .int .i64 a0_.Pulled.Low, .int .i64 a0_.Pulled.High].toArray] ++ fc) (.bool y) H'
theorem FN_245.mono {H H' : Hp} (h : HSub H H') {v : Value} {f : Strip → Option Bool} (hf : FN_245 H v f) : FN_245 H' v f := by
 obtain ⟨fk, fc, h1, h2, h3⟩ := hf
 exact ⟨fk, fc, h1, h2, fun H'' hs => h3 H'' (HSub.trans h hs)⟩
theorem FN_245.one {H : Hp} {v : Value} {f : Strip → Option Bool} (hf : FN_245 H v f) : v.oneCell' = true := by
 obtain ⟨fk, fc, rfl, _⟩ := hf; rfl
theorem fo_39_0 : fieldOff Try.prog 39 0 = some 0 := by kernel_rfl
theorem az_3 : aggsz Try.prog 3 = some (false, 1) := by kernel_rfl
theorem fo_39_1 : fieldOff Try.prog 39 1 = some 1 := by kernel_rfl
theorem fo_179_0 : fieldOff Try.prog 179 0 = some 0 := by kernel_rfl
theorem az_39 : aggsz Try.prog 39 = some (true, 2) := by kernel_rfl
theorem en_156 : Ent Try.prog 156 := enters_of Try.func156 (by kernel_rfl) rfl
theorem fo_179_1 : fieldOff Try.prog 179 1 = some 2 := by kernel_rfl
theorem az_177 : aggsz Try.prog 177 = some (false, 1) := by kernel_rfl
theorem ul_177 : Try.prog.underlying 177 = some (.slice 176) := by kernel_rfl
theorem fo_179_2 : fieldOff Try.prog 179 2 = some 3 := by kernel_rfl
theorem en_155 : Ent Try.prog 155 := enters_of Try.func155 (by kernel_rfl) rfl
theorem sl_177 : slT Try.prog 177 = some (176, 3) := by kernel_rfl
theorem fo_176_0 : fieldOff Try.prog 176 0 = some 0 := by kernel_rfl
theorem fo_176_1 : fieldOff Try.prog 176 1 = some 1 := by kernel_rfl
theorem fo_26_0 : fieldOff Try.prog 26 0 = some 0 := by kernel_rfl
theorem az_22 : aggsz Try.prog 22 = some (false, 1) := by kernel_rfl
theorem ul_22 : Try.prog.underlying 22 = some (.slice 179) := by kernel_rfl
theorem fo_26_1 : fieldOff Try.prog 26 1 = some 1 := by kernel_rfl
theorem az_23 : aggsz Try.prog 23 = some (false, 1) := by kernel_rfl
theorem ul_23 : Try.prog.underlying 23 = some (.slice 3) := by kernel_rfl
theorem fo_26_2 : fieldOff Try.prog 26 2 = some 2 := by kernel_rfl
theorem fo_26_3 : fieldOff Try.prog 26 3 = some 3 := by kernel_rfl
theorem az_24 : aggsz Try.prog 24 = some (false, 1) := by kernel_rfl
theorem ul_24 : Try.prog.underlying 24 = some (.slice 39) := by kernel_rfl
theorem fo_26_4 : fieldOff Try.prog 26 4 = some 4 := by kernel_rfl
theorem fo_26_5 : fieldOff Try.prog 26 5 = some 5 := by kernel_rfl
theorem sl_23 : slT Try.prog 23 = some (3, 1) := by kernel_rfl
theorem mo_ : Try.prog.follows .mixedOrders = true := by kernel_rfl
theorem sl_24 : slT Try.prog 24 = some (39, 2) := by kernel_rfl
theorem sl_22 : slT Try.prog 22 = some (179, 4) := by kernel_rfl
theorem az_179 : aggsz Try.prog 179 = some (true, 4) := by kernel_rfl
theorem en_157 : Ent Try.prog 157 := enters_of Try.func157 (by kernel_rfl) rfl
theorem en_13 : Ent Try.prog 13 := enters_of Try.func13 (by kernel_rfl) rfl
theorem en_188 : Ent Try.prog 188 := enters_of Try.func188 (by kernel_rfl) rfl
theorem az_26 : aggsz Try.prog 26 = some (true, 6) := by kernel_rfl
theorem en_103 : Ent Try.prog 103 := enters_of Try.func103 (by kernel_rfl) rfl
theorem en_154 : Ent Try.prog 154 := enters_of Try.func154 (by kernel_rfl) rfl
theorem fo_28_0 : fieldOff Try.prog 28 0 = some 0 := by kernel_rfl
theorem en_102 : Ent Try.prog 102 := enters_of Try.func102 (by kernel_rfl) rfl
theorem fo_28_4 : fieldOff Try.prog 28 4 = some 9 := by kernel_rfl
theorem fo_28_5 : fieldOff Try.prog 28 5 = some 10 := by kernel_rfl
theorem fo_28_1 : fieldOff Try.prog 28 1 = some 6 := by kernel_rfl
theorem fo_28_2 : fieldOff Try.prog 28 2 = some 7 := by kernel_rfl
theorem fo_28_3 : fieldOff Try.prog 28 3 = some 8 := by kernel_rfl
theorem en_104 : Ent Try.prog 104 := enters_of Try.func104 (by kernel_rfl) rfl
theorem az_28 : aggsz Try.prog 28 = some (true, 11) := by kernel_rfl
theorem en_49 : Ent Try.prog 49 := enters_of Try.func49 (by kernel_rfl) rfl
theorem en_50 : Ent Try.prog 50 := enters_of Try.func50 (by kernel_rfl) rfl
theorem ap_23 : apT Try.prog 23 = some (3, 1, 8) := by kernel_rfl
theorem en_159 : Ent Try.prog 159 := enters_of Try.func159 (by kernel_rfl) rfl
theorem en_189 : Ent Try.prog 189 := enters_of Try.func189 (by kernel_rfl) rfl
theorem ap_115 : apT Try.prog 115 = some (23, 1, 24) := by kernel_rfl
theorem ul_115 : Try.prog.underlying 115 = some (.slice 23) := by kernel_rfl
theorem en_158 : Ent Try.prog 158 := enters_of Try.func158 (by kernel_rfl) rfl
theorem en_105 : Ent Try.prog 105 := enters_of Try.func105 (by kernel_rfl) rfl
theorem en_51 : Ent Try.prog 51 := enters_of Try.func51 (by kernel_rfl) rfl
theorem ze_26 : zeroL Try.prog 26 = some [.slice none 0 0, .slice none 0 0, .int .i64 0, .slice none 0 0, .slice none 0 0, .int .i64 0] := by kernel_rfl
theorem en_109 : Ent Try.prog 109 := enters_of Try.func109 (by kernel_rfl) rfl
theorem en_192 : Ent Try.prog 192 := enters_of Try.func192 (by kernel_rfl) rfl
theorem az_124 : aggsz Try.prog 124 = some (false, 1) := by kernel_rfl
theorem en_178 : Ent Try.prog 178 := enters_of Try.func178 (by kernel_rfl) rfl
theorem en_225 : Ent Try.prog 225 := enters_of Try.func225 (by kernel_rfl) rfl
theorem en_140 : Ent Try.prog 140 := enters_of Try.func140 (by kernel_rfl) rfl
theorem az_133 : aggsz Try.prog 133 = some (false, 1) := by kernel_rfl
theorem en_177 : Ent Try.prog 177 := enters_of Try.func177 (by kernel_rfl) rfl
theorem en_226 : Ent Try.prog 226 := enters_of Try.func226 (by kernel_rfl) rfl
theorem en_139 : Ent Try.prog 139 := enters_of Try.func139 (by kernel_rfl) rfl
theorem en_190 : Ent Try.prog 190 := enters_of Try.func190 (by kernel_rfl) rfl
theorem en_194 : Ent Try.prog 194 := enters_of Try.func194 (by kernel_rfl) rfl
theorem en_191 : Ent Try.prog 191 := enters_of Try.func191 (by kernel_rfl) rfl
theorem en_195 : Ent Try.prog 195 := enters_of Try.func195 (by kernel_rfl) rfl
theorem en_193 : Ent Try.prog 193 := enters_of Try.func193 (by kernel_rfl) rfl
theorem az_219 : aggsz Try.prog 219 = some (false, 1) := by kernel_rfl
theorem en_227 : Ent Try.prog 227 := enters_of Try.func227 (by kernel_rfl) rfl
theorem en_197 : Ent Try.prog 197 := enters_of Try.func197 (by kernel_rfl) rfl
theorem en_196 : Ent Try.prog 196 := enters_of Try.func196 (by kernel_rfl) rfl
theorem az_245 : aggsz Try.prog 245 = some (false, 1) := by kernel_rfl
theorem az_176 : aggsz Try.prog 176 = some (true, 3) := by kernel_rfl
theorem en_243 : Ent Try.prog 243 := enters_of Try.func243 (by kernel_rfl) rfl
theorem en_229 : Ent Try.prog 229 := enters_of Try.func229 (by kernel_rfl) rfl
theorem en_228 : Ent Try.prog 228 := enters_of Try.func228 (by kernel_rfl) rfl
theorem en_199 : Ent Try.prog 199 := enters_of Try.func199 (by kernel_rfl) rfl
theorem en_198 : Ent Try.prog 198 := enters_of Try.func198 (by kernel_rfl) rfl
theorem en_160 : Ent Try.prog 160 := enters_of Try.func160 (by kernel_rfl) rfl
theorem en_162 : Ent Try.prog 162 := enters_of Try.func162 (by kernel_rfl) rfl
theorem en_161 : Ent Try.prog 161 := enters_of Try.func161 (by kernel_rfl) rfl
theorem ze_176 : zeroL Try.prog 176 = some [.int .i64 0, .int .i64 0, .int .i64 0] := by kernel_rfl
theorem en_114 : Ent Try.prog 114 := enters_of Try.func114 (by kernel_rfl) rfl
theorem en_106 : Ent Try.prog 106 := enters_of Try.func106 (by kernel_rfl) rfl
theorem ze_179 : zeroL Try.prog 179 = some [.int .i64 0, .int .i64 0, .slice none 0 0, .int .i64 0] := by kernel_rfl
theorem ze_23 : zeroL Try.prog 23 = some [.slice none 0 0] := by kernel_rfl
theorem en_107 : Ent Try.prog 107 := enters_of Try.func107 (by kernel_rfl) rfl
theorem en_108 : Ent Try.prog 108 := enters_of Try.func108 (by kernel_rfl) rfl
theorem en_163 : Ent Try.prog 163 := enters_of Try.func163 (by kernel_rfl) rfl
theorem fo_117_1 : fieldOff Try.prog 117 1 = some 6 := by kernel_rfl
theorem az_115 : aggsz Try.prog 115 = some (false, 1) := by kernel_rfl
theorem ze_39 : zeroL Try.prog 39 = some [.int .i64 0, .int .i64 0] := by kernel_rfl
theorem fo_117_0 : fieldOff Try.prog 117 0 = some 0 := by kernel_rfl
theorem sl_115 : slT Try.prog 115 = some (23, 1) := by kernel_rfl
theorem en_59 : Ent Try.prog 59 := enters_of Try.func59 (by kernel_rfl) rfl
theorem en_54 : Ent Try.prog 54 := enters_of Try.func54 (by kernel_rfl) rfl
theorem en_60 : Ent Try.prog 60 := enters_of Try.func60 (by kernel_rfl) rfl
theorem ze_28 : zeroL Try.prog 28 = some [.slice none 0 0, .slice none 0 0, .int .i64 0, .slice none 0 0, .slice none 0 0, .int .i64 0, .int .i64 0, .int .i64 0, .int .i64 0, .slice none 0 0, .slice none 0 0] := by kernel_rfl
theorem en_52 : Ent Try.prog 52 := enters_of Try.func52 (by kernel_rfl) rfl
theorem en_57 : Ent Try.prog 57 := enters_of Try.func57 (by kernel_rfl) rfl
theorem en_164 : Ent Try.prog 164 := enters_of Try.func164 (by kernel_rfl) rfl
theorem en_55 : Ent Try.prog 55 := enters_of Try.func55 (by kernel_rfl) rfl
theorem en_110 : Ent Try.prog 110 := enters_of Try.func110 (by kernel_rfl) rfl
theorem en_12 : Ent Try.prog 12 := enters_of Try.func12 (by kernel_rfl) rfl
theorem fo_184_1 : fieldOff Try.prog 184 1 = some 11 := by kernel_rfl
theorem fo_184_0 : fieldOff Try.prog 184 0 = some 0 := by kernel_rfl
theorem en_112 : Ent Try.prog 112 := enters_of Try.func112 (by kernel_rfl) rfl
theorem en_165 : Ent Try.prog 165 := enters_of Try.func165 (by kernel_rfl) rfl
theorem en_111 : Ent Try.prog 111 := enters_of Try.func111 (by kernel_rfl) rfl
theorem en_116 : Ent Try.prog 116 := enters_of Try.func116 (by kernel_rfl) rfl
theorem mp_186 : mpT Try.prog 186 = some (3, 3) := by kernel_rfl
theorem kt_3 : KT Try.prog 3 1 ekI := KT.int (by kernel_rfl)
theorem en_56 : Ent Try.prog 56 := enters_of Try.func56 (by kernel_rfl) rfl
theorem en_62 : Ent Try.prog 62 := enters_of Try.func62 (by kernel_rfl) rfl
theorem en_15 : Ent Try.prog 15 := enters_of Try.func15 (by kernel_rfl) rfl
theorem en_53 : Ent Try.prog 53 := enters_of Try.func53 (by kernel_rfl) rfl
theorem en_17 : Ent Try.prog 17 := enters_of Try.func17 (by kernel_rfl) rfl
theorem eqa_39 (a0 a1 b0 b1 : Int) (w : World) : (Op.equal 39 (.agg [.int .i64 a0, .int .i64 a1].toArray) (.agg [.int .i64 b0, .int .i64 b1].toArray)).run Try.prog w = .ok ((a0 == b0) && (a1 == b1)) w := by
 have h := run_equalIn_struct (P := Try.prog) w 9999 39 #[.int .i64 a0, .int .i64 a1] #[.int .i64 b0, .int .i64 b1] (by kernel_rfl) (by kernel_rfl)
 have h2 : (Op.eqFields 9999 #[.int .i64 a0, .int .i64 a1] #[.int .i64 b0, .int .i64 b1] (Try.prog.fieldsOf 39).toList).run Try.prog w = .ok ((a0 == b0) && (a1 == b1)) w := by
  cases e0 : (a0 == b0)
  ·simp [go_sem, Program.fieldsOf, e0]
  cases e1 : (a1 == b1)
  ·simp [go_sem, Program.fieldsOf, e0, e1]
  simp [go_sem, Program.fieldsOf, e0, e1]
 exact h.trans h2
theorem eqg_39 : Try.prog.eqGuardType Try.prog.depth 39 = false := by kernel_rfl
theorem en_113 : Ent Try.prog 113 := enters_of Try.func113 (by kernel_rfl) rfl
theorem en_58 : Ent Try.prog 58 := enters_of Try.func58 (by kernel_rfl) rfl
theorem en_115 : Ent Try.prog 115 := enters_of Try.func115 (by kernel_rfl) rfl
theorem en_61 : Ent Try.prog 61 := enters_of Try.func61 (by kernel_rfl) rfl
theorem en_9 : Ent Try.prog 9 := enters_of Try.func9 (by kernel_rfl) rfl
theorem en_10 : Ent Try.prog 10 := enters_of Try.func10 (by kernel_rfl) rfl
theorem en_11 : Ent Try.prog 11 := enters_of Try.func11 (by kernel_rfl) rfl
theorem en_14 : Ent Try.prog 14 := enters_of Try.func14 (by kernel_rfl) rfl
theorem en_16 : Ent Try.prog 16 := enters_of Try.func16 (by kernel_rfl) rfl
theorem ub_4 : Try.prog.underlying 4 = some .bool := by kernel_rfl
end Go.Proofs.Yteihdclpiekmaaa
end
section
set_option maxRecDepth 100000
set_option maxHeartbeats 40000000
namespace Go.Proofs.Yteihdclpiekmaaa
open Go Go.RowKit Go.Dec
set_option linter.unusedVariables false
-- 155 ferrule/ferruleref02.within
def F_ref02_within (n : Nat) (n_ : Int) (low : Int) (high : Int) : Option Bool :=
 some ((decide (low ≤ n_)) && (decide (n_ ≤ high)))
theorem c_ref02_within (n : Nat) (H : Hp) (n_ : Int) (low : Int) (high : Int) (y : Bool) (hF : F_ref02_within n n_ low high = some y) : SC Try.prog 155 [.int .i64 n_, .int .i64 low, .int .i64 high] (.bool y) H := by
 rw [F_ref02_within] at hF
 refine SC.of (N := 15) Try.func155 rfl rfl rfl fun w => ?_
 refine JC.seq (JC.region (by rfl) ?_)
 intro hQ
 refine JL.assign .none rfl ?_
 refine JL.done hQ (JQ.go (JC.seq (JC.region (by rfl) ?_)))
 intro hQ
 refine JL.move .none rfl ?_
 refine JL.move .none rfl ?_
 refine JL.bin rfl rfl rfl .none rfl ?_
 refine JL.move .none rfl ?_
 refine JL.cut 4 (fun f => f 14 = .bool ((decide (low ≤ n_)) && (decide (n_ ≤ high)))) ?_ ?_
 ·intro hJ1
  rcases bcases (decide (low ≤ n_)) with hc2 | hc2
  ·skip
   refine JL.move (.some rfl rfl rfl hc2) rfl ?_
   refine JL.move (.some rfl rfl rfl hc2) rfl ?_
   refine JL.bin rfl rfl rfl (.some rfl rfl rfl hc2) rfl ?_
   refine JL.pick_t (b := decide (low ≤ n_)) rfl hc2 .none rfl ?_
   exact hJ1 _ (and_t hc2 rfl)
  ·skip
   refine JL.skip (.bool rfl rfl rfl hc2) rfl ?_
   refine JL.skip (.bool rfl rfl rfl hc2) rfl ?_
   refine JL.skip (.bool rfl rfl rfl hc2) rfl ?_
   refine JL.pick_f (b := decide (low ≤ n_)) rfl hc2 .none rfl ?_
   exact hJ1 _ (and_f hc2 rfl)
 ·rintro f hf14
  refine (JL.norm (i := 14) hf14 ?_)
  refine JL.assign .none rfl ?_
  refine JL.done hQ (JQ.go (JC.ret ?_))
  obtain rfl := Option.some.inj hF
  exact JQ.outS rfl (.tmp .nil) rfl
-- 156 ferrule/ferruleref02.isSpan
def F_ref02_isSpan (n : Nat) (s : Span) (most : Int) : Option Bool :=
 some (((decide (0 ≤ s.Low)) && (decide (s.Low ≤ s.High))) && (decide (s.High ≤ most)))
theorem c_ref02_isSpan (n : Nat) (H : Hp) (s : Span) (most : Int) (y : Bool) (hF : F_ref02_isSpan n s most = some y) : SC Try.prog 156 [.agg [.int .i64 s.Low, .int .i64 s.High].toArray, .int .i64 most] (.bool y) H := by
 rw [F_ref02_isSpan] at hF
 refine SC.of (N := 21) Try.func156 rfl rfl rfl fun w => ?_
 refine JC.seq (JC.region (by rfl) ?_)
 intro hQ
 refine JL.box (cs := [.int .i64 s.Low, .int .i64 s.High]) rfl .none rfl ?_
 intro b1
 refine JL.assign .none rfl ?_
 refine JL.done hQ (JQ.go (JC.seq (JC.region (by rfl) ?_)))
 intro hQ
 refine JL.fieldAddr fo_39_0 rfl .none rfl ?_
 refine JL.loadOwn 0 az_3 rfl rfl rfl .none rfl ?_
 refine JL.bin rfl rfl rfl .none rfl ?_
 refine JL.move .none rfl ?_
 refine JL.cut 6 (fun f => f 1 = .int .i64 most ∧ f 2 = .pointer (some ⟨b1, 0, none⟩) ∧ f 14 = .bool ((decide (0 ≤ s.Low)) && (decide (s.Low ≤ s.High)))) ?_ ?_
 ·intro hJ2
  rcases bcases (decide (0 ≤ s.Low)) with hc3 | hc3
  ·skip
   refine JL.fieldAddr fo_39_0 rfl (.some rfl rfl rfl hc3) rfl ?_
   refine JL.loadOwn 0 az_3 rfl rfl rfl (.some rfl rfl rfl hc3) rfl ?_
   refine JL.fieldAddr fo_39_1 rfl (.some rfl rfl rfl hc3) rfl ?_
   refine JL.loadOwn 0 az_3 rfl rfl rfl (.some rfl rfl rfl hc3) rfl ?_
   refine JL.bin rfl rfl rfl (.some rfl rfl rfl hc3) rfl ?_
   refine JL.pick_t (b := decide (0 ≤ s.Low)) rfl hc3 .none rfl ?_
   exact hJ2 _ ⟨rfl, rfl, and_t hc3 rfl⟩
  ·skip
   refine JL.skip (.bool rfl rfl rfl hc3) rfl ?_
   refine JL.skip (.bool rfl rfl rfl hc3) rfl ?_
   refine JL.skip (.bool rfl rfl rfl hc3) rfl ?_
   refine JL.skip (.bool rfl rfl rfl hc3) rfl ?_
   refine JL.skip (.bool rfl rfl rfl hc3) rfl ?_
   refine JL.pick_f (b := decide (0 ≤ s.Low)) rfl hc3 .none rfl ?_
   exact hJ2 _ ⟨rfl, rfl, and_f hc3 rfl⟩
 ·rintro f ⟨hf1, hf2, hf14⟩
  refine (JL.norm (i := 1) hf1 (JL.norm (i := 2) hf2 (JL.norm (i := 14) hf14 ?_)))
  refine JL.move .none rfl ?_
  refine JL.cut 5 (fun f => f 20 = .bool (((decide (0 ≤ s.Low)) && (decide (s.Low ≤ s.High))) && (decide (s.High ≤ most)))) ?_ ?_
  ·intro hJ4
   rcases bcases ((decide (0 ≤ s.Low)) && (decide (s.Low ≤ s.High))) with hc5 | hc5
   ·skip
    refine JL.fieldAddr fo_39_1 rfl (.some rfl rfl rfl hc5) rfl ?_
    refine JL.loadOwn 0 az_3 rfl rfl rfl (.some rfl rfl rfl hc5) rfl ?_
    refine JL.move (.some rfl rfl rfl hc5) rfl ?_
    refine JL.bin rfl rfl rfl (.some rfl rfl rfl hc5) rfl ?_
    refine JL.pick_t (b := ((decide (0 ≤ s.Low)) && (decide (s.Low ≤ s.High)))) rfl hc5 .none rfl ?_
    exact hJ4 _ (and_t hc5 rfl)
   ·skip
    refine JL.skip (.bool rfl rfl rfl hc5) rfl ?_
    refine JL.skip (.bool rfl rfl rfl hc5) rfl ?_
    refine JL.skip (.bool rfl rfl rfl hc5) rfl ?_
    refine JL.skip (.bool rfl rfl rfl hc5) rfl ?_
    refine JL.pick_f (b := ((decide (0 ≤ s.Low)) && (decide (s.Low ≤ s.High)))) rfl hc5 .none rfl ?_
    exact hJ4 _ (and_f hc5 rfl)
  ·rintro f hf20
   refine (JL.norm (i := 20) hf20 ?_)
   refine JL.assign .none rfl ?_
   refine JL.done hQ (JQ.go (JC.ret ?_))
   obtain rfl := Option.some.inj hF
   exact JQ.outS rfl (.tmp .nil) rfl
-- 157 ferrule/ferruleref02.isBolt
def F_ref02_isBolt_s1 (n : Nat) (b : Bolt) : Int → Option (Int ⊕ (Bool ⊕ Unit))
 | i_140 => if decide (i_140 < (b.Strips.length : Int)) = true then ((geti b.Strips i_140).bind fun y145 => (F_ref02_within n y145.Long 1 2000).bind fun y150 => (if (!y150) = true then (some true) else ((geti b.Strips i_140).bind fun y160 => (F_ref02_isSpan n y160.Pulled 4000).bind fun y165 => some (!y165)) : Option Bool).bind fun p157 => if p157 = true then (some (Sum.inr (Sum.inl false))) else (some (Sum.inl (w64 (i_140 + 1))))) else (some (Sum.inr (Sum.inr ())))
def F_ref02_isBolt (n : Nat) (b : Bolt) : Option Bool :=
 (F_ref02_isSpan n b.Stretch 60).bind fun y2 => (if ((!y2) || (decide (8 < (b.Strips.length : Int)))) = true then (some true) else ((F_ref02_within n b.Wrong 0 2).bind fun y9 => some (!y9)) : Option Bool).bind fun p6 => if p6 = true then (some false) else ((loopO n (F_ref02_isBolt_s1 n b) 0).bind fun r89 => match r89 with | .inl o => some o | .inr _ => some true)
theorem c_ref02_isBolt (n : Nat) (H : Hp) (b : Bolt) (b_v2 : Value) (hb_2 : SL H 3 R_Strip b_v2 b.Strips) (y : Bool) (hF : F_ref02_isBolt n b = some y) : SC Try.prog 157 [.agg [.int .i64 b.Stretch.Low, .int .i64 b.Stretch.High, b_v2, .int .i64 b.Wrong].toArray] (.bool y) H := by
 rw [F_ref02_isBolt] at hF
 refine SC.of (N := 45) Try.func157 rfl rfl rfl fun w => ?_
 refine JC.seq (JC.region (by rfl) ?_)
 intro hQ
 refine JL.box (cs := [.int .i64 b.Stretch.Low, .int .i64 b.Stretch.High, b_v2, .int .i64 b.Wrong]) rfl .none rfl ?_
 intro b1
 refine JL.assign .none rfl ?_
 refine JL.done hQ (JQ.go (JC.seq (JC.seq (JC.region (by rfl) ?_))))
 intro hQ
 refine JL.fieldAddr fo_179_0 rfl .none rfl ?_
 refine JL.loadOwn 0 az_39 rfl rfl rfl .none rfl ?_
 obtain ⟨y2, hy2, hF⟩ := bind_some hF
 refine JL.callS (c_ref02_isSpan n H b.Stretch 60 y2 hy2) rfl en_156 .none rfl ?_
 refine JL.not rfl .none rfl ?_
 refine JL.move .none rfl ?_
 refine JL.cut 5 (fun f => f 1 = .pointer (some ⟨b1, 0, none⟩) ∧ f 13 = .bool ((!y2) || (decide (8 < (b.Strips.length : Int))))) ?_ ?_
 ·intro hJ3
  rcases bcases (!y2) with hc4 | hc4
  ·skip
   refine JL.skip (.bool rfl rfl rfl hc4) rfl ?_
   refine JL.skip (.bool rfl rfl rfl hc4) rfl ?_
   refine JL.skip (.bool rfl rfl rfl hc4) rfl ?_
   refine JL.skip (.bool rfl rfl rfl hc4) rfl ?_
   refine JL.pick_t (b := (!y2)) rfl hc4 .none rfl ?_
   exact hJ3 _ ⟨rfl, or_t hc4 rfl⟩
  ·skip
   refine JL.fieldAddr fo_179_1 rfl (.some rfl rfl rfl hc4) rfl ?_
   refine JL.loadOwn 0 az_177 rfl rfl rfl (.some rfl rfl rfl hc4) rfl ?_
   refine JL.lenSL (R := R_Strip) ul_177 hb_2 (.some rfl rfl rfl hc4) rfl ?_
   refine JL.bin rfl rfl rfl (.some rfl rfl rfl hc4) rfl ?_
   refine JL.pick_f (b := (!y2)) rfl hc4 .none rfl ?_
   exact hJ3 _ ⟨rfl, or_f hc4 rfl⟩
 ·rintro f ⟨hf1, hf13⟩
  refine (JL.norm (i := 1) hf1 (JL.norm (i := 13) hf13 ?_))
  refine JL.move .none rfl ?_
  obtain ⟨p6, hp6, hF⟩ := bind_some hF
  refine JL.cut 5 (fun f => f 1 = .pointer (some ⟨b1, 0, none⟩) ∧ f 19 = .bool p6) ?_ ?_
  ·intro hJ7
   rcases ite_some hp6 with ⟨hc8, hF⟩ | ⟨hc8, hF⟩
   ·skip
    refine JL.skip (.bool rfl rfl rfl hc8) rfl ?_
    refine JL.skip (.bool rfl rfl rfl hc8) rfl ?_
    refine JL.skip (.bool rfl rfl rfl hc8) rfl ?_
    refine JL.skip (.bool rfl rfl rfl hc8) rfl ?_
    refine JL.pick_t (b := ((!y2) || (decide (8 < (b.Strips.length : Int))))) rfl hc8 .none rfl ?_
    obtain rfl := Option.some.inj hF
    exact hJ7 _ ⟨rfl, rfl⟩
   ·skip
    refine JL.fieldAddr fo_179_2 rfl (.some rfl rfl rfl hc8) rfl ?_
    refine JL.loadOwn 0 az_3 rfl rfl rfl (.some rfl rfl rfl hc8) rfl ?_
    obtain ⟨y9, hy9, hF⟩ := bind_some hF
    refine JL.callS (c_ref02_within n H b.Wrong 0 2 y9 hy9) rfl en_155 (.some rfl rfl rfl hc8) rfl ?_
    refine JL.not rfl (.some rfl rfl rfl hc8) rfl ?_
    refine JL.pick_f (b := ((!y2) || (decide (8 < (b.Strips.length : Int))))) rfl hc8 .none rfl ?_
    obtain rfl := Option.some.inj hF
    exact hJ7 _ ⟨rfl, rfl⟩
  ·rintro f ⟨hf1, hf19⟩
   refine (JL.norm (i := 1) hf1 (JL.norm (i := 19) hf19 ?_))
   refine JL.done hQ (JQ.go ?_)
   rcases ite_some hF with ⟨hc10, hF⟩ | ⟨hc10, hF⟩
   ·refine JC.cond_t (b := p6) rfl hc10 ?_
    refine JC.seq (JC.region (by rfl) ?_)
    intro hQ
    refine JL.assign .none rfl ?_
    refine JL.done hQ (JQ.go (JC.ret (JQ.ret_then ?_)))
    obtain rfl := Option.some.inj hF
    exact JQ.outS rfl (.tmp .nil) rfl
   ·refine JC.cond_f (b := p6) rfl hc10 ?_
    refine JC.skip (JQ.go (JC.seq (JC.seq (JC.region (by rfl) ?_))))
    intro hQ
    refine JL.assign .none rfl ?_
    refine JL.done hQ (JQ.go ?_)
    obtain ⟨r89, hlr89, hKr89⟩ := bind_some hF
    refine JC.join (fun (_ : Unit) H88 f bs gs => bs = [] ∧ gs = [] ∧ HSub H H88 ∧ Sum.inr () = r89) ?_ ?_
    ·skip
     refine JC.block (JC.loop hlr89 (fun (i_140 : Int) H141 f bs gs => f 1 = .pointer (some ⟨b1, 0, none⟩) ∧ f 3 = .int .i64 i_140 ∧ bs = [(b1, .cells [.int .i64 b.Stretch.Low, .int .i64 b.Stretch.High, b_v2, .int .i64 b.Wrong].toArray 179)] ∧ gs = [] ∧ HSub H H141) ⟨rfl, rfl, rfl, rfl, (HSub.refl _)⟩ ?_)
     rintro i_140 x143 H141 f bs gs ⟨hf1, hf3, rfl, rfl, hs141⟩ hF hr142
     rw [F_ref02_isBolt_s1] at hF
     refine (JC.norm (i := 1) hf1 (JC.norm (i := 3) hf3 ?_))
     refine JC.seq (JC.seq (JC.region (by rfl) ?_))
     intro hQ
     refine JL.move .none rfl ?_
     refine JL.fieldAddr fo_179_1 rfl .none rfl ?_
     refine JL.loadOwn 0 az_177 rfl rfl rfl .none rfl ?_
     refine JL.lenSL (R := R_Strip) ul_177 (SL.mono R_Strip_mono hs141 hb_2) .none rfl ?_
     refine JL.bin rfl rfl rfl .none rfl ?_
     refine JL.done hQ (JQ.go ?_)
     rcases ite_some hF with ⟨hc144, hF⟩ | ⟨hc144, hF⟩
     ·refine JC.cond_t (b := decide (i_140 < (b.Strips.length : Int))) rfl hc144 ?_
      refine JC.skip (JQ.go (JC.seq (JC.block (JC.seq (JC.region (by rfl) ?_)))))
      intro hQ
      refine JL.fieldAddr fo_179_1 rfl .none rfl ?_
      refine JL.loadOwn 0 az_177 rfl rfl rfl .none rfl ?_
      refine JL.move .none rfl ?_
      obtain ⟨y145, hy145, hF⟩ := bind_some hF
      refine JL.indexSL (R := R_Strip) sl_177 (SL.mono R_Strip_mono hs141 hb_2) rfl hy145 .none rfl ?_
      rintro b146 o147 cs148 hc149 - rfl
      refine JL.fieldAddr fo_176_0 rfl .none rfl ?_
      refine JL.loadH 0 az_3 rfl hc149 rfl .none rfl ?_
      obtain ⟨y150, hy150, hF⟩ := bind_some hF
      refine JL.callS (c_ref02_within n H141 y145.Long 1 2000 y150 hy150) rfl en_155 .none rfl ?_
      refine JL.not rfl .none rfl ?_
      refine JL.move .none rfl ?_
      obtain ⟨p157, hp157, hF⟩ := bind_some hF
      refine JL.cut 9 (fun f => f 1 = .pointer (some ⟨b1, 0, none⟩) ∧ f 3 = .int .i64 i_140 ∧ f 44 = .bool p157) ?_ ?_
      ·intro hJ158
       rcases ite_some hp157 with ⟨hc159, hF⟩ | ⟨hc159, hF⟩
       ·skip
        refine JL.skip (.bool rfl rfl rfl hc159) rfl ?_
        refine JL.skip (.bool rfl rfl rfl hc159) rfl ?_
        refine JL.skip (.bool rfl rfl rfl hc159) rfl ?_
        refine JL.skip (.bool rfl rfl rfl hc159) rfl ?_
        refine JL.skip (.bool rfl rfl rfl hc159) rfl ?_
        refine JL.skip (.bool rfl rfl rfl hc159) rfl ?_
        refine JL.skip (.bool rfl rfl rfl hc159) rfl ?_
        refine JL.skip (.bool rfl rfl rfl hc159) rfl ?_
        refine JL.pick_t (b := (!y150)) rfl hc159 .none rfl ?_
        obtain rfl := Option.some.inj hF
        exact hJ158 _ ⟨rfl, rfl, rfl⟩
       ·skip
        refine JL.fieldAddr fo_179_1 rfl (.some rfl rfl rfl hc159) rfl ?_
        refine JL.loadOwn 0 az_177 rfl rfl rfl (.some rfl rfl rfl hc159) rfl ?_
        refine JL.move (.some rfl rfl rfl hc159) rfl ?_
        obtain ⟨y160, hy160, hF⟩ := bind_some hF
        refine JL.indexSL (R := R_Strip) sl_177 (SL.mono R_Strip_mono hs141 hb_2) rfl hy160 (.some rfl rfl rfl hc159) rfl ?_
        rintro b161 o162 cs163 hc164 - rfl
        refine JL.fieldAddr fo_176_1 rfl (.some rfl rfl rfl hc159) rfl ?_
        refine JL.loadH 1 az_39 rfl hc164 rfl (.some rfl rfl rfl hc159) rfl ?_
        obtain ⟨y165, hy165, hF⟩ := bind_some hF
        refine JL.callS (c_ref02_isSpan n H141 y160.Pulled 4000 y165 hy165) rfl en_156 (.some rfl rfl rfl hc159) rfl ?_
        refine JL.not rfl (.some rfl rfl rfl hc159) rfl ?_
        refine JL.pick_f (b := (!y150)) rfl hc159 .none rfl ?_
        obtain rfl := Option.some.inj hF
        exact hJ158 _ ⟨rfl, rfl, rfl⟩
      ·rintro f ⟨hf1, hf3, hf44⟩
       refine (JL.norm (i := 1) hf1 (JL.norm (i := 3) hf3 (JL.norm (i := 44) hf44 ?_)))
       refine JL.done hQ (JQ.go ?_)
       rcases ite_some hF with ⟨hc166, hF⟩ | ⟨hc166, hF⟩
       ·refine JC.cond_t (b := p157) rfl hc166 ?_
        refine JC.seq (JC.region (by rfl) ?_)
        intro hQ
        refine JL.assign .none rfl ?_
        refine JL.done hQ (JQ.go (JC.ret (JQ.ret_block (JQ.ret_then (JQ.ret_then (JQ.ret_block (JQ.ret_join (JQ.ret_then ?_))))))))
        obtain rfl := Option.some.inj hF
        have ehr142 := hr142 _ rfl
        subst ehr142
        have hF := hKr89
        try dsimp only at hF
        obtain rfl := Option.some.inj hF
        exact JQ.outS rfl (.tmp .nil) rfl
       ·refine JC.cond_f (b := p157) rfl hc166 ?_
        refine JC.skip (JQ.normal_block (JQ.go (JC.region (by rfl) ?_)))
        intro hQ
        refine JL.move .none rfl ?_
        refine JL.bin rfl rfl rfl .none rfl ?_
        refine JL.assign .none rfl ?_
        refine JL.done hQ ?_
        obtain rfl := Option.some.inj hF
        exact JQ.next rfl ⟨rfl, rfl, rfl, rfl, hs141⟩
     ·refine JC.cond_f (b := decide (i_140 < (b.Strips.length : Int))) rfl hc144 ?_
      refine JC.exit (JQ.exit_then (JQ.exit_then (JQ.exit_block ?_)))
      obtain rfl := Option.some.inj hF
      have ehr142 := hr142 _ rfl
      subst ehr142
      refine JQ.mask [false] [] ?_
      exact JQ.join () ⟨rfl, rfl, hs141, rfl⟩
    ·rintro _ H88 f bs gs ⟨rfl, rfl, hs88, rfl⟩
     have hF := hKr89
     try dsimp only at hF
     refine JQ.go (JC.seq (JC.region (by rfl) ?_))
     intro hQ
     refine JL.assign .none rfl ?_
     refine JL.done hQ (JQ.go (JC.ret ?_))
     obtain rfl := Option.some.inj hF
     exact JQ.outS rfl (.tmp .nil) rfl
-- 103 ferrule/ferruleref02.Check
def F_ref02_Check_s1 (n : Nat) (d : Dome) : Int → Option (Int ⊕ (Int ⊕ Unit))
 | i_110 => if decide (i_110 < (d.Gores.length : Int)) = true then ((geti d.Gores i_110).bind fun y121 => (F_ref02_within n y121 0 (w64 ((d.Bolts.length : Int) - 1))).bind fun y126 => if (!y126) = true then (some (Sum.inr (Sum.inl 20))) else (some (Sum.inl (w64 (i_110 + 1))))) else (some (Sum.inr (Sum.inr ())))
def F_ref02_Check_s2 (n : Nat) (d : Dome) : Int → Option (Int ⊕ (Int ⊕ Unit))
 | i_362 => if decide (i_362 < (d.Rounds.length : Int)) = true then ((geti d.Rounds i_362).bind fun y388 => (F_ref02_isSpan n y388 40000).bind fun y393 => (if (!y393) = true then (some true) else ((geti d.Widths i_362).bind fun y403 => (F_ref02_within n y403 (w64 (2 * d.Loss)) 2000).bind fun y408 => some (!y408)) : Option Bool).bind fun p400 => if p400 = true then (some (Sum.inr (Sum.inl 20))) else (some (Sum.inl (w64 (i_362 + 1))))) else (some (Sum.inr (Sum.inr ())))
def F_ref02_Check_s3 (n : Nat) (d : Dome) : Int → Option (Int ⊕ (Int ⊕ Unit))
 | i_464 => if decide (i_464 < (d.Bolts.length : Int)) = true then ((geti d.Bolts i_464).bind fun y469 => (F_ref02_isBolt n y469).bind fun y474 => if (!y474) = true then (some (Sum.inr (Sum.inl 21))) else (some (Sum.inl (w64 (i_464 + 1))))) else (some (Sum.inr (Sum.inr ())))
def F_ref02_Check (n : Nat) (d : Dome) : Option Int :=
 (F_ref02_within n (d.Bolts.length : Int) 1 4).bind fun y2 => (if (!y2) = true then (some true) else ((F_ref02_within n (d.Gores.length : Int) 3 16).bind fun y7 => some (!y7)) : Option Bool).bind fun p4 => (if p4 = true then (some true) else ((F_ref02_within n d.Loss 0 20).bind fun y12 => some (!y12)) : Option Bool).bind fun p9 => (if p9 = true then (some true) else ((F_ref02_within n (d.Rounds.length : Int) 1 12).bind fun y17 => some (!y17)) : Option Bool).bind fun p14 => (if (p14 || ((d.Widths.length : Int) != (d.Rounds.length : Int))) = true then (some true) else ((F_ref02_within n d.Slope 0 500).bind fun y24 => some (!y24)) : Option Bool).bind fun p21 => if p21 = true then (some 20) else ((loopO n (F_ref02_Check_s1 n d) 0).bind fun r77 => match r77 with | .inl o => some o | .inr _ => (loopO n (F_ref02_Check_s2 n d) 0).bind fun r269 => match r269 with | .inl o => some o | .inr _ => (loopO n (F_ref02_Check_s3 n d) 0).bind fun r443 => match r443 with | .inl o => some o | .inr _ => some 0)
theorem c_ref02_Check (n : Nat) (H : Hp) (d : Dome) (d_v0 : Value) (hd_0 : SL H 4 R_Bolt d_v0 d.Bolts) (d_v1 : Value) (hd_1 : SL H 1 RInt d_v1 d.Gores) (d_v3 : Value) (hd_3 : SL H 2 R_Span d_v3 d.Rounds) (d_v4 : Value) (hd_4 : SL H 1 RInt d_v4 d.Widths) (y : Int) (hF : F_ref02_Check n d = some y) : SC Try.prog 103 [.agg [d_v0, d_v1, .int .i64 d.Loss, d_v3, d_v4, .int .i64 d.Slope].toArray] (.int .i64 y) H := by
 rw [F_ref02_Check] at hF
 refine SC.of (N := 104) Try.func103 rfl rfl rfl fun w => ?_
 refine JC.seq (JC.region (by rfl) ?_)
 intro hQ
 refine JL.box (cs := [d_v0, d_v1, .int .i64 d.Loss, d_v3, d_v4, .int .i64 d.Slope]) rfl .none rfl ?_
 intro b1
 refine JL.assign .none rfl ?_
 refine JL.done hQ (JQ.go (JC.seq (JC.seq (JC.region (by rfl) ?_))))
 intro hQ
 refine JL.fieldAddr fo_26_0 rfl .none rfl ?_
 refine JL.loadOwn 0 az_22 rfl rfl rfl .none rfl ?_
 refine JL.lenSL (R := R_Bolt) ul_22 hd_0 .none rfl ?_
 obtain ⟨y2, hy2, hF⟩ := bind_some hF
 refine JL.callS (c_ref02_within n H (d.Bolts.length : Int) 1 4 y2 hy2) rfl en_155 .none rfl ?_
 refine JL.not rfl .none rfl ?_
 refine JL.move .none rfl ?_
 obtain ⟨p4, hp4, hF⟩ := bind_some hF
 refine JL.cut 6 (fun f => f 1 = .pointer (some ⟨b1, 0, none⟩) ∧ f 17 = .bool p4) ?_ ?_
 ·intro hJ5
  rcases ite_some hp4 with ⟨hc6, hF⟩ | ⟨hc6, hF⟩
  ·skip
   refine JL.skip (.bool rfl rfl rfl hc6) rfl ?_
   refine JL.skip (.bool rfl rfl rfl hc6) rfl ?_
   refine JL.skip (.bool rfl rfl rfl hc6) rfl ?_
   refine JL.skip (.bool rfl rfl rfl hc6) rfl ?_
   refine JL.skip (.bool rfl rfl rfl hc6) rfl ?_
   refine JL.pick_t (b := (!y2)) rfl hc6 .none rfl ?_
   obtain rfl := Option.some.inj hF
   exact hJ5 _ ⟨rfl, rfl⟩
  ·skip
   refine JL.fieldAddr fo_26_1 rfl (.some rfl rfl rfl hc6) rfl ?_
   refine JL.loadOwn 0 az_23 rfl rfl rfl (.some rfl rfl rfl hc6) rfl ?_
   refine JL.lenSL (R := RInt) ul_23 hd_1 (.some rfl rfl rfl hc6) rfl ?_
   obtain ⟨y7, hy7, hF⟩ := bind_some hF
   refine JL.callS (c_ref02_within n H (d.Gores.length : Int) 3 16 y7 hy7) rfl en_155 (.some rfl rfl rfl hc6) rfl ?_
   refine JL.not rfl (.some rfl rfl rfl hc6) rfl ?_
   refine JL.pick_f (b := (!y2)) rfl hc6 .none rfl ?_
   obtain rfl := Option.some.inj hF
   exact hJ5 _ ⟨rfl, rfl⟩
 ·rintro f ⟨hf1, hf17⟩
  refine (JL.norm (i := 1) hf1 (JL.norm (i := 17) hf17 ?_))
  refine JL.move .none rfl ?_
  obtain ⟨p9, hp9, hF⟩ := bind_some hF
  refine JL.cut 5 (fun f => f 1 = .pointer (some ⟨b1, 0, none⟩) ∧ f 23 = .bool p9) ?_ ?_
  ·intro hJ10
   rcases ite_some hp9 with ⟨hc11, hF⟩ | ⟨hc11, hF⟩
   ·skip
    refine JL.skip (.bool rfl rfl rfl hc11) rfl ?_
    refine JL.skip (.bool rfl rfl rfl hc11) rfl ?_
    refine JL.skip (.bool rfl rfl rfl hc11) rfl ?_
    refine JL.skip (.bool rfl rfl rfl hc11) rfl ?_
    refine JL.pick_t (b := p4) rfl hc11 .none rfl ?_
    obtain rfl := Option.some.inj hF
    exact hJ10 _ ⟨rfl, rfl⟩
   ·skip
    refine JL.fieldAddr fo_26_2 rfl (.some rfl rfl rfl hc11) rfl ?_
    refine JL.loadOwn 0 az_3 rfl rfl rfl (.some rfl rfl rfl hc11) rfl ?_
    obtain ⟨y12, hy12, hF⟩ := bind_some hF
    refine JL.callS (c_ref02_within n H d.Loss 0 20 y12 hy12) rfl en_155 (.some rfl rfl rfl hc11) rfl ?_
    refine JL.not rfl (.some rfl rfl rfl hc11) rfl ?_
    refine JL.pick_f (b := p4) rfl hc11 .none rfl ?_
    obtain rfl := Option.some.inj hF
    exact hJ10 _ ⟨rfl, rfl⟩
  ·rintro f ⟨hf1, hf23⟩
   refine (JL.norm (i := 1) hf1 (JL.norm (i := 23) hf23 ?_))
   refine JL.move .none rfl ?_
   obtain ⟨p14, hp14, hF⟩ := bind_some hF
   refine JL.cut 6 (fun f => f 1 = .pointer (some ⟨b1, 0, none⟩) ∧ f 30 = .bool p14) ?_ ?_
   ·intro hJ15
    rcases ite_some hp14 with ⟨hc16, hF⟩ | ⟨hc16, hF⟩
    ·skip
     refine JL.skip (.bool rfl rfl rfl hc16) rfl ?_
     refine JL.skip (.bool rfl rfl rfl hc16) rfl ?_
     refine JL.skip (.bool rfl rfl rfl hc16) rfl ?_
     refine JL.skip (.bool rfl rfl rfl hc16) rfl ?_
     refine JL.skip (.bool rfl rfl rfl hc16) rfl ?_
     refine JL.pick_t (b := p9) rfl hc16 .none rfl ?_
     obtain rfl := Option.some.inj hF
     exact hJ15 _ ⟨rfl, rfl⟩
    ·skip
     refine JL.fieldAddr fo_26_3 rfl (.some rfl rfl rfl hc16) rfl ?_
     refine JL.loadOwn 0 az_24 rfl rfl rfl (.some rfl rfl rfl hc16) rfl ?_
     refine JL.lenSL (R := R_Span) ul_24 hd_3 (.some rfl rfl rfl hc16) rfl ?_
     obtain ⟨y17, hy17, hF⟩ := bind_some hF
     refine JL.callS (c_ref02_within n H (d.Rounds.length : Int) 1 12 y17 hy17) rfl en_155 (.some rfl rfl rfl hc16) rfl ?_
     refine JL.not rfl (.some rfl rfl rfl hc16) rfl ?_
     refine JL.pick_f (b := p9) rfl hc16 .none rfl ?_
     obtain rfl := Option.some.inj hF
     exact hJ15 _ ⟨rfl, rfl⟩
   ·rintro f ⟨hf1, hf30⟩
    refine (JL.norm (i := 1) hf1 (JL.norm (i := 30) hf30 ?_))
    refine JL.move .none rfl ?_
    refine JL.cut 8 (fun f => f 1 = .pointer (some ⟨b1, 0, none⟩) ∧ f 39 = .bool (p14 || ((d.Widths.length : Int) != (d.Rounds.length : Int)))) ?_ ?_
    ·intro hJ18
     rcases bcases p14 with hc19 | hc19
     ·skip
      refine JL.skip (.bool rfl rfl rfl hc19) rfl ?_
      refine JL.skip (.bool rfl rfl rfl hc19) rfl ?_
      refine JL.skip (.bool rfl rfl rfl hc19) rfl ?_
      refine JL.skip (.bool rfl rfl rfl hc19) rfl ?_
      refine JL.skip (.bool rfl rfl rfl hc19) rfl ?_
      refine JL.skip (.bool rfl rfl rfl hc19) rfl ?_
      refine JL.skip (.bool rfl rfl rfl hc19) rfl ?_
      refine JL.pick_t (b := p14) rfl hc19 .none rfl ?_
      exact hJ18 _ ⟨rfl, or_t hc19 rfl⟩
     ·skip
      refine JL.fieldAddr fo_26_4 rfl (.some rfl rfl rfl hc19) rfl ?_
      refine JL.loadOwn 0 az_23 rfl rfl rfl (.some rfl rfl rfl hc19) rfl ?_
      refine JL.lenSL (R := RInt) ul_23 hd_4 (.some rfl rfl rfl hc19) rfl ?_
      refine JL.fieldAddr fo_26_3 rfl (.some rfl rfl rfl hc19) rfl ?_
      refine JL.loadOwn 0 az_24 rfl rfl rfl (.some rfl rfl rfl hc19) rfl ?_
      refine JL.lenSL (R := R_Span) ul_24 hd_3 (.some rfl rfl rfl hc19) rfl ?_
      refine JL.bin rfl rfl rfl (.some rfl rfl rfl hc19) rfl ?_
      refine JL.pick_f (b := p14) rfl hc19 .none rfl ?_
      exact hJ18 _ ⟨rfl, or_f hc19 rfl⟩
    ·rintro f ⟨hf1, hf39⟩
     refine (JL.norm (i := 1) hf1 (JL.norm (i := 39) hf39 ?_))
     refine JL.move .none rfl ?_
     obtain ⟨p21, hp21, hF⟩ := bind_some hF
     refine JL.cut 5 (fun f => f 1 = .pointer (some ⟨b1, 0, none⟩) ∧ f 45 = .bool p21) ?_ ?_
     ·intro hJ22
      rcases ite_some hp21 with ⟨hc23, hF⟩ | ⟨hc23, hF⟩
      ·skip
       refine JL.skip (.bool rfl rfl rfl hc23) rfl ?_
       refine JL.skip (.bool rfl rfl rfl hc23) rfl ?_
       refine JL.skip (.bool rfl rfl rfl hc23) rfl ?_
       refine JL.skip (.bool rfl rfl rfl hc23) rfl ?_
       refine JL.pick_t (b := (p14 || ((d.Widths.length : Int) != (d.Rounds.length : Int)))) rfl hc23 .none rfl ?_
       obtain rfl := Option.some.inj hF
       exact hJ22 _ ⟨rfl, rfl⟩
      ·skip
       refine JL.fieldAddr fo_26_5 rfl (.some rfl rfl rfl hc23) rfl ?_
       refine JL.loadOwn 0 az_3 rfl rfl rfl (.some rfl rfl rfl hc23) rfl ?_
       obtain ⟨y24, hy24, hF⟩ := bind_some hF
       refine JL.callS (c_ref02_within n H d.Slope 0 500 y24 hy24) rfl en_155 (.some rfl rfl rfl hc23) rfl ?_
       refine JL.not rfl (.some rfl rfl rfl hc23) rfl ?_
       refine JL.pick_f (b := (p14 || ((d.Widths.length : Int) != (d.Rounds.length : Int)))) rfl hc23 .none rfl ?_
       obtain rfl := Option.some.inj hF
       exact hJ22 _ ⟨rfl, rfl⟩
     ·rintro f ⟨hf1, hf45⟩
      refine (JL.norm (i := 1) hf1 (JL.norm (i := 45) hf45 ?_))
      refine JL.done hQ (JQ.go ?_)
      rcases ite_some hF with ⟨hc25, hF⟩ | ⟨hc25, hF⟩
      ·refine JC.cond_t (b := p21) rfl hc25 ?_
       refine JC.seq (JC.region (by rfl) ?_)
       intro hQ
       refine JL.assign .none rfl ?_
       refine JL.done hQ (JQ.go (JC.ret (JQ.ret_then ?_)))
       obtain rfl := Option.some.inj hF
       exact JQ.outS rfl (.tmp .nil) rfl
      ·refine JC.cond_f (b := p21) rfl hc25 ?_
       refine JC.skip (JQ.go (JC.seq (JC.seq (JC.region (by rfl) ?_))))
       intro hQ
       refine JL.assign .none rfl ?_
       refine JL.done hQ (JQ.go ?_)
       obtain ⟨r77, hlr77, hKr77⟩ := bind_some hF
       refine JC.join (fun (_ : Unit) H76 f bs gs => f 1 = .pointer (some ⟨b1, 0, none⟩) ∧ bs = [(b1, .cells [d_v0, d_v1, .int .i64 d.Loss, d_v3, d_v4, .int .i64 d.Slope].toArray 26)] ∧ gs = [] ∧ HSub H H76 ∧ Sum.inr () = r77) ?_ ?_
       ·skip
        refine JC.block (JC.loop hlr77 (fun (i_110 : Int) H111 f bs gs => f 1 = .pointer (some ⟨b1, 0, none⟩) ∧ f 3 = .int .i64 i_110 ∧ bs = [(b1, .cells [d_v0, d_v1, .int .i64 d.Loss, d_v3, d_v4, .int .i64 d.Slope].toArray 26)] ∧ gs = [] ∧ HSub H H111) ⟨rfl, rfl, rfl, rfl, (HSub.refl _)⟩ ?_)
        rintro i_110 x113 H111 f bs gs ⟨hf1, hf3, rfl, rfl, hs111⟩ hF hr112
        rw [F_ref02_Check_s1] at hF
        refine (JC.norm (i := 1) hf1 (JC.norm (i := 3) hf3 ?_))
        refine JC.seq (JC.seq (JC.region (by rfl) ?_))
        intro hQ
        refine JL.move .none rfl ?_
        refine JL.fieldAddr fo_26_1 rfl .none rfl ?_
        refine JL.loadOwn 0 az_23 rfl rfl rfl .none rfl ?_
        refine JL.lenSL (R := RInt) ul_23 (SL.mono RInt.mono hs111 hd_1) .none rfl ?_
        refine JL.bin rfl rfl rfl .none rfl ?_
        refine JL.done hQ (JQ.go ?_)
        rcases ite_some hF with ⟨hc114, hF⟩ | ⟨hc114, hF⟩
        ·refine JC.cond_t (b := decide (i_110 < (d.Gores.length : Int))) rfl hc114 ?_
         refine JC.skip (JQ.go (JC.seq (JC.block (JC.seq (JC.draw (by rfl) mo_ (by kernel_rfl) ?_)))))
         intro hQ
         refine JL.fieldAddr fo_26_1 rfl .none rfl ?_
         refine JL.loadOwn 0 az_23 rfl rfl rfl .none rfl ?_
         refine JL.move .none rfl ?_
         obtain ⟨y121, hy121, hF⟩ := bind_some hF
         refine JL.indexSL (R := RInt) sl_23 (SL.mono RInt.mono hs111 hd_1) rfl hy121 .none rfl ?_
         rintro b122 o123 cs124 hc125 - rfl
         refine JL.loadH 0 az_3 rfl hc125 rfl .none rfl ?_
         refine JL.fieldAddr fo_26_0 rfl .none rfl ?_
         refine JL.loadOwn 0 az_22 rfl rfl rfl .none rfl ?_
         refine JL.lenSL (R := R_Bolt) ul_22 (SL.mono R_Bolt_mono hs111 hd_0) .none rfl ?_
         refine JL.bin rfl rfl rfl .none rfl ?_
         obtain ⟨y126, hy126, hF⟩ := bind_some hF
         refine JL.callS (c_ref02_within n H111 y121 0 (w64 ((d.Bolts.length : Int) - 1)) y126 hy126) rfl en_155 .none rfl ?_
         refine JL.not rfl .none rfl ?_
         refine JL.doneQ hQ ?_
         refine JQ.go (JC.fresh (fun f => f 1 = .pointer (some ⟨b1, 0, none⟩) ∧ f 3 = .int .i64 i_110 ∧ f 63 = .bool (!y126)) ⟨rfl, rfl, rfl⟩ ?_)
         rintro f ⟨hf1, hf3, hf63⟩
         refine (JC.norm (i := 1) hf1 (JC.norm (i := 3) hf3 (JC.norm (i := 63) hf63 ?_)))
         rcases ite_some hF with ⟨hc127, hF⟩ | ⟨hc127, hF⟩
         ·refine JC.cond_t (b := (!y126)) rfl hc127 ?_
          refine JC.seq (JC.region (by rfl) ?_)
          intro hQ
          refine JL.assign .none rfl ?_
          refine JL.done hQ (JQ.go (JC.ret (JQ.ret_block (JQ.ret_then (JQ.ret_then (JQ.ret_block (JQ.ret_join (JQ.ret_then ?_))))))))
          obtain rfl := Option.some.inj hF
          have ehr112 := hr112 _ rfl
          subst ehr112
          have hF := hKr77
          try dsimp only at hF
          obtain rfl := Option.some.inj hF
          exact JQ.outS rfl (.tmp .nil) rfl
         ·refine JC.cond_f (b := (!y126)) rfl hc127 ?_
          refine JC.skip (JQ.normal_block (JQ.go (JC.region (by rfl) ?_)))
          intro hQ
          refine JL.move .none rfl ?_
          refine JL.bin rfl rfl rfl .none rfl ?_
          refine JL.assign .none rfl ?_
          refine JL.done hQ ?_
          obtain rfl := Option.some.inj hF
          exact JQ.next rfl ⟨rfl, rfl, rfl, rfl, hs111⟩
        ·refine JC.cond_f (b := decide (i_110 < (d.Gores.length : Int))) rfl hc114 ?_
         refine JC.exit (JQ.exit_then (JQ.exit_then (JQ.exit_block ?_)))
         obtain rfl := Option.some.inj hF
         have ehr112 := hr112 _ rfl
         subst ehr112
         exact JQ.join () ⟨rfl, rfl, rfl, hs111, rfl⟩
       ·rintro _ H76 f bs gs ⟨hf1, rfl, rfl, hs76, rfl⟩
        have hF := hKr77
        try dsimp only at hF
        refine (JQ.norm (i := 1) hf1 ?_)
        refine JQ.go (JC.seq (JC.seq (JC.region (by rfl) ?_)))
        intro hQ
        refine JL.assign .none rfl ?_
        refine JL.done hQ (JQ.go ?_)
        obtain ⟨r269, hlr269, hKr269⟩ := bind_some hF
        refine JC.join (fun (_ : Unit) H268 f bs gs => f 1 = .pointer (some ⟨b1, 0, none⟩) ∧ bs = [(b1, .cells [d_v0, d_v1, .int .i64 d.Loss, d_v3, d_v4, .int .i64 d.Slope].toArray 26)] ∧ gs = [] ∧ HSub H76 H268 ∧ Sum.inr () = r269) ?_ ?_
        ·skip
         refine JC.block (JC.loop hlr269 (fun (i_362 : Int) H363 f bs gs => f 1 = .pointer (some ⟨b1, 0, none⟩) ∧ f 4 = .int .i64 i_362 ∧ bs = [(b1, .cells [d_v0, d_v1, .int .i64 d.Loss, d_v3, d_v4, .int .i64 d.Slope].toArray 26)] ∧ gs = [] ∧ HSub H76 H363) ⟨rfl, rfl, rfl, rfl, (HSub.refl _)⟩ ?_)
         rintro i_362 x365 H363 f bs gs ⟨hf1, hf4, rfl, rfl, hs363⟩ hF hr364
         rw [F_ref02_Check_s2] at hF
         refine (JC.norm (i := 1) hf1 (JC.norm (i := 4) hf4 ?_))
         refine JC.seq (JC.seq (JC.region (by rfl) ?_))
         intro hQ
         refine JL.move .none rfl ?_
         refine JL.fieldAddr fo_26_3 rfl .none rfl ?_
         refine JL.loadOwn 0 az_24 rfl rfl rfl .none rfl ?_
         refine JL.lenSL (R := R_Span) ul_24 (SL.mono R_Span_mono (HSub.trans hs76 hs363) hd_3) .none rfl ?_
         refine JL.bin rfl rfl rfl .none rfl ?_
         refine JL.done hQ (JQ.go ?_)
         rcases ite_some hF with ⟨hc366, hF⟩ | ⟨hc366, hF⟩
         ·refine JC.cond_t (b := decide (i_362 < (d.Rounds.length : Int))) rfl hc366 ?_
          refine JC.skip (JQ.go (JC.seq (JC.block (JC.seq (JC.draw (by rfl) mo_ (by kernel_rfl) ?_)))))
          intro hQ
          refine JL.fieldAddr fo_26_3 rfl .none rfl ?_
          refine JL.loadOwn 0 az_24 rfl rfl rfl .none rfl ?_
          refine JL.move .none rfl ?_
          obtain ⟨y388, hy388, hF⟩ := bind_some hF
          refine JL.indexSL (R := R_Span) sl_24 (SL.mono R_Span_mono (HSub.trans hs76 hs363) hd_3) rfl hy388 .none rfl ?_
          rintro b389 o390 cs391 hc392 - rfl
          refine JL.loadH 0 az_39 rfl hc392 rfl .none rfl ?_
          obtain ⟨y393, hy393, hF⟩ := bind_some hF
          refine JL.callS (c_ref02_isSpan n H363 y388 40000 y393 hy393) rfl en_156 .none rfl ?_
          refine JL.not rfl .none rfl ?_
          refine JL.move .none rfl ?_
          obtain ⟨p400, hp400, hF⟩ := bind_some hF
          refine JL.cut 11 (fun f => f 1 = .pointer (some ⟨b1, 0, none⟩) ∧ f 4 = .int .i64 i_362 ∧ f 89 = .bool p400) ?_ ?_
          ·intro hJ401
           rcases ite_some hp400 with ⟨hc402, hF⟩ | ⟨hc402, hF⟩
           ·skip
            refine JL.skip (.bool rfl rfl rfl hc402) rfl ?_
            refine JL.skip (.bool rfl rfl rfl hc402) rfl ?_
            refine JL.skip (.bool rfl rfl rfl hc402) rfl ?_
            refine JL.skip (.bool rfl rfl rfl hc402) rfl ?_
            refine JL.skip (.bool rfl rfl rfl hc402) rfl ?_
            refine JL.skip (.bool rfl rfl rfl hc402) rfl ?_
            refine JL.skip (.bool rfl rfl rfl hc402) rfl ?_
            refine JL.skip (.bool rfl rfl rfl hc402) rfl ?_
            refine JL.skip (.bool rfl rfl rfl hc402) rfl ?_
            refine JL.skip (.bool rfl rfl rfl hc402) rfl ?_
            refine JL.pick_t (b := (!y393)) rfl hc402 .none rfl ?_
            obtain rfl := Option.some.inj hF
            exact hJ401 _ ⟨rfl, rfl, rfl⟩
           ·skip
            refine JL.fieldAddr fo_26_4 rfl (.some rfl rfl rfl hc402) rfl ?_
            refine JL.loadOwn 0 az_23 rfl rfl rfl (.some rfl rfl rfl hc402) rfl ?_
            refine JL.move (.some rfl rfl rfl hc402) rfl ?_
            obtain ⟨y403, hy403, hF⟩ := bind_some hF
            refine JL.indexSL (R := RInt) sl_23 (SL.mono RInt.mono (HSub.trans hs76 hs363) hd_4) rfl hy403 (.some rfl rfl rfl hc402) rfl ?_
            rintro b404 o405 cs406 hc407 - rfl
            refine JL.loadH 0 az_3 rfl hc407 rfl (.some rfl rfl rfl hc402) rfl ?_
            refine JL.fieldAddr fo_26_2 rfl (.some rfl rfl rfl hc402) rfl ?_
            refine JL.loadOwn 0 az_3 rfl rfl rfl (.some rfl rfl rfl hc402) rfl ?_
            refine JL.bin rfl rfl rfl (.some rfl rfl rfl hc402) rfl ?_
            obtain ⟨y408, hy408, hF⟩ := bind_some hF
            refine JL.callS (c_ref02_within n H363 y403 (w64 (2 * d.Loss)) 2000 y408 hy408) rfl en_155 (.some rfl rfl rfl hc402) rfl ?_
            refine JL.not rfl (.some rfl rfl rfl hc402) rfl ?_
            refine JL.pick_f (b := (!y393)) rfl hc402 .none rfl ?_
            obtain rfl := Option.some.inj hF
            exact hJ401 _ ⟨rfl, rfl, rfl⟩
          ·rintro f ⟨hf1, hf4, hf89⟩
           refine (JL.norm (i := 1) hf1 (JL.norm (i := 4) hf4 (JL.norm (i := 89) hf89 ?_)))
           refine JL.doneQ hQ ?_
           refine JQ.go ?_
           rcases ite_some hF with ⟨hc409, hF⟩ | ⟨hc409, hF⟩
           ·refine JC.cond_t (b := p400) rfl hc409 ?_
            refine JC.seq (JC.region (by rfl) ?_)
            intro hQ
            refine JL.assign .none rfl ?_
            refine JL.done hQ (JQ.go (JC.ret (JQ.ret_block (JQ.ret_then (JQ.ret_then (JQ.ret_block (JQ.ret_join (JQ.ret_then ?_))))))))
            obtain rfl := Option.some.inj hF
            have ehr364 := hr364 _ rfl
            subst ehr364
            have hF := hKr269
            try dsimp only at hF
            obtain rfl := Option.some.inj hF
            exact JQ.outS rfl (.tmp .nil) rfl
           ·refine JC.cond_f (b := p400) rfl hc409 ?_
            refine JC.skip (JQ.normal_block (JQ.go (JC.region (by rfl) ?_)))
            intro hQ
            refine JL.move .none rfl ?_
            refine JL.bin rfl rfl rfl .none rfl ?_
            refine JL.assign .none rfl ?_
            refine JL.done hQ ?_
            obtain rfl := Option.some.inj hF
            exact JQ.next rfl ⟨rfl, rfl, rfl, rfl, hs363⟩
         ·refine JC.cond_f (b := decide (i_362 < (d.Rounds.length : Int))) rfl hc366 ?_
          refine JC.exit (JQ.exit_then (JQ.exit_then (JQ.exit_block ?_)))
          obtain rfl := Option.some.inj hF
          have ehr364 := hr364 _ rfl
          subst ehr364
          exact JQ.join () ⟨rfl, rfl, rfl, hs363, rfl⟩
        ·rintro _ H268 f bs gs ⟨hf1, rfl, rfl, hs268, rfl⟩
         have hF := hKr269
         try dsimp only at hF
         refine (JQ.norm (i := 1) hf1 ?_)
         refine JQ.go (JC.seq (JC.seq (JC.region (by rfl) ?_)))
         intro hQ
         refine JL.assign .none rfl ?_
         refine JL.done hQ (JQ.go ?_)
         obtain ⟨r443, hlr443, hKr443⟩ := bind_some hF
         refine JC.join (fun (_ : Unit) H442 f bs gs => bs = [] ∧ gs = [] ∧ HSub H268 H442 ∧ Sum.inr () = r443) ?_ ?_
         ·skip
          refine JC.block (JC.loop hlr443 (fun (i_464 : Int) H465 f bs gs => f 1 = .pointer (some ⟨b1, 0, none⟩) ∧ f 5 = .int .i64 i_464 ∧ bs = [(b1, .cells [d_v0, d_v1, .int .i64 d.Loss, d_v3, d_v4, .int .i64 d.Slope].toArray 26)] ∧ gs = [] ∧ HSub H268 H465) ⟨rfl, rfl, rfl, rfl, (HSub.refl _)⟩ ?_)
          rintro i_464 x467 H465 f bs gs ⟨hf1, hf5, rfl, rfl, hs465⟩ hF hr466
          rw [F_ref02_Check_s3] at hF
          refine (JC.norm (i := 1) hf1 (JC.norm (i := 5) hf5 ?_))
          refine JC.seq (JC.seq (JC.region (by rfl) ?_))
          intro hQ
          refine JL.move .none rfl ?_
          refine JL.fieldAddr fo_26_0 rfl .none rfl ?_
          refine JL.loadOwn 0 az_22 rfl rfl rfl .none rfl ?_
          refine JL.lenSL (R := R_Bolt) ul_22 (SL.mono R_Bolt_mono (HSub.trans hs76 (HSub.trans hs268 hs465)) hd_0) .none rfl ?_
          refine JL.bin rfl rfl rfl .none rfl ?_
          refine JL.done hQ (JQ.go ?_)
          rcases ite_some hF with ⟨hc468, hF⟩ | ⟨hc468, hF⟩
          ·refine JC.cond_t (b := decide (i_464 < (d.Bolts.length : Int))) rfl hc468 ?_
           refine JC.skip (JQ.go (JC.seq (JC.block (JC.seq (JC.region (by rfl) ?_)))))
           intro hQ
           refine JL.fieldAddr fo_26_0 rfl .none rfl ?_
           refine JL.loadOwn 0 az_22 rfl rfl rfl .none rfl ?_
           refine JL.move .none rfl ?_
           obtain ⟨y469, hy469, hF⟩ := bind_some hF
           refine JL.indexSL (R := R_Bolt) sl_22 (SL.mono R_Bolt_mono (HSub.trans hs76 (HSub.trans hs268 hs465)) hd_0) rfl hy469 .none rfl ?_
           rintro b470 o471 cs472 hc473 - ⟨y469_v2, rfl, hy469_2⟩
           refine JL.loadH 0 az_179 rfl hc473 rfl .none rfl ?_
           obtain ⟨y474, hy474, hF⟩ := bind_some hF
           refine JL.callS (c_ref02_isBolt n H465 y469 y469_v2 hy469_2 y474 hy474) rfl en_157 .none rfl ?_
           refine JL.not rfl .none rfl ?_
           refine JL.done hQ (JQ.go (JC.fresh (fun f => f 1 = .pointer (some ⟨b1, 0, none⟩) ∧ f 5 = .int .i64 i_464 ∧ f 103 = .bool (!y474)) ⟨rfl, rfl, rfl⟩ ?_))
           rintro f ⟨hf1, hf5, hf103⟩
           refine (JC.norm (i := 1) hf1 (JC.norm (i := 5) hf5 (JC.norm (i := 103) hf103 ?_)))
           rcases ite_some hF with ⟨hc475, hF⟩ | ⟨hc475, hF⟩
           ·refine JC.cond_t (b := (!y474)) rfl hc475 ?_
            refine JC.seq (JC.region (by rfl) ?_)
            intro hQ
            refine JL.assign .none rfl ?_
            refine JL.done hQ (JQ.go (JC.ret (JQ.ret_block (JQ.ret_then (JQ.ret_then (JQ.ret_block (JQ.ret_join (JQ.ret_then ?_))))))))
            obtain rfl := Option.some.inj hF
            have ehr466 := hr466 _ rfl
            subst ehr466
            have hF := hKr443
            try dsimp only at hF
            obtain rfl := Option.some.inj hF
            exact JQ.outS rfl (.tmp .nil) rfl
           ·refine JC.cond_f (b := (!y474)) rfl hc475 ?_
            refine JC.skip (JQ.normal_block (JQ.go (JC.region (by rfl) ?_)))
            intro hQ
            refine JL.move .none rfl ?_
            refine JL.bin rfl rfl rfl .none rfl ?_
            refine JL.assign .none rfl ?_
            refine JL.done hQ ?_
            obtain rfl := Option.some.inj hF
            exact JQ.next rfl ⟨rfl, rfl, rfl, rfl, hs465⟩
          ·refine JC.cond_f (b := decide (i_464 < (d.Bolts.length : Int))) rfl hc468 ?_
           refine JC.exit (JQ.exit_then (JQ.exit_then (JQ.exit_block ?_)))
           obtain rfl := Option.some.inj hF
           have ehr466 := hr466 _ rfl
           subst ehr466
           refine JQ.mask [false] [] ?_
           exact JQ.join () ⟨rfl, rfl, hs465, rfl⟩
         ·rintro _ H442 f bs gs ⟨rfl, rfl, hs442, rfl⟩
          have hF := hKr443
          try dsimp only at hF
          refine JQ.go (JC.seq (JC.region (by rfl) ?_))
          intro hQ
          refine JL.assign .none rfl ?_
          refine JL.done hQ (JQ.go (JC.ret ?_))
          obtain rfl := Option.some.inj hF
          exact JQ.outS rfl (.tmp .nil) rfl
-- 13 ferrule/ferruleref02.Pull
def F_ref02_Pull (n : Nat) (long : Int) (s : Int) : Option Int :=
 some (w64 ((w64 (long * (w64 (1000 + s)))).tdiv 1000))
theorem c_ref02_Pull (n : Nat) (H : Hp) (long : Int) (s : Int) (y : Int) (hF : F_ref02_Pull n long s = some y) : SC Try.prog 13 [.int .i64 long, .int .i64 s] (.int .i64 y) H := by
 rw [F_ref02_Pull] at hF
 refine SC.of (N := 10) Try.func13 rfl rfl rfl fun w => ?_
 refine JC.seq (JC.region (by rfl) ?_)
 intro hQ
 refine JL.assign .none rfl ?_
 refine JL.done hQ (JQ.go (JC.seq (JC.region (by rfl) ?_)))
 intro hQ
 refine JL.move .none rfl ?_
 refine JL.move .none rfl ?_
 refine JL.bin rfl rfl rfl .none rfl ?_
 refine JL.bin rfl rfl rfl .none rfl ?_
 refine JL.div rfl rfl (by decide) rfl .none rfl ?_
 refine JL.assign .none rfl ?_
 refine JL.done hQ (JQ.go (JC.ret ?_))
 obtain rfl := Option.some.inj hF
 exact JQ.outS rfl (.tmp .nil) rfl
-- 188 ferrule/ferruleref02.False
def F_ref02_False_s1 (n : Nat) (b : Bolt) (s : Int) : Int × Int → Option ((Int × Int) ⊕ Int)
 | (n_222, i_223) => if decide (i_223 < (b.Strips.length : Int)) = true then ((geti b.Strips i_223).bind fun y245 => (F_ref02_Pull n y245.Long s).bind fun y250 => (geti b.Strips i_223).bind fun y251 => (geti b.Strips i_223).bind fun y256 => (F_ref02_within n y250 y251.Pulled.Low y256.Pulled.High).bind fun y261 => (if (!y261) = true then (some (w64 (n_222 + 1))) else (some n_222)).bind fun n_263 => some (Sum.inl (n_263, (w64 (i_223 + 1))))) else (some (Sum.inr n_222))
def F_ref02_False (n : Nat) (b : Bolt) (s : Int) : Option Int :=
 (loopO n (F_ref02_False_s1 n b s) (0, 0)).bind fun n_133 => some n_133
theorem c_ref02_False (n : Nat) (H : Hp) (b : Bolt) (b_v2 : Value) (hb_2 : SL H 3 R_Strip b_v2 b.Strips) (s : Int) (y : Int) (hF : F_ref02_False n b s = some y) : SC Try.prog 188 [.agg [.int .i64 b.Stretch.Low, .int .i64 b.Stretch.High, b_v2, .int .i64 b.Wrong].toArray, .int .i64 s] (.int .i64 y) H := by
 rw [F_ref02_False] at hF
 refine SC.of (N := 41) Try.func188 rfl rfl rfl fun w => ?_
 refine JC.seq (JC.region (by rfl) ?_)
 intro hQ
 refine JL.box (cs := [.int .i64 b.Stretch.Low, .int .i64 b.Stretch.High, b_v2, .int .i64 b.Wrong]) rfl .none rfl ?_
 intro b1
 refine JL.assign .none rfl ?_
 refine JL.done hQ (JQ.go (JC.seq (JC.region (by rfl) ?_)))
 intro hQ
 refine JL.assign .none rfl ?_
 refine JL.done hQ (JQ.go (JC.seq (JC.seq (JC.region (by rfl) ?_))))
 intro hQ
 refine JL.assign .none rfl ?_
 refine JL.done hQ (JQ.go ?_)
 obtain ⟨r135, hlr135, hKr135⟩ := bind_some hF
 refine JC.join (fun (n_133 : Int) H134 f bs gs => f 5 = .int .i64 n_133 ∧ bs = [] ∧ gs = [] ∧ HSub H H134 ∧ n_133 = r135) ?_ ?_
 ·skip
  refine JC.block (JC.loop hlr135 (fun (x : Int × Int) H224 f bs gs => match x with | (n_222, i_223) => f 1 = .int .i64 s ∧ f 2 = .pointer (some ⟨b1, 0, none⟩) ∧ f 5 = .int .i64 n_222 ∧ f 6 = .int .i64 i_223 ∧ bs = [(b1, .cells [.int .i64 b.Stretch.Low, .int .i64 b.Stretch.High, b_v2, .int .i64 b.Wrong].toArray 179)] ∧ gs = [] ∧ HSub H H224) ⟨rfl, rfl, rfl, rfl, rfl, rfl, (HSub.refl _)⟩ ?_)
  rintro ⟨n_222, i_223⟩ x226 H224 f bs gs ⟨hf1, hf2, hf5, hf6, rfl, rfl, hs224⟩ hF hr225
  rw [F_ref02_False_s1] at hF
  refine (JC.norm (i := 1) hf1 (JC.norm (i := 2) hf2 (JC.norm (i := 5) hf5 (JC.norm (i := 6) hf6 ?_))))
  refine JC.seq (JC.seq (JC.region (by rfl) ?_))
  intro hQ
  refine JL.move .none rfl ?_
  refine JL.fieldAddr fo_179_1 rfl .none rfl ?_
  refine JL.loadOwn 0 az_177 rfl rfl rfl .none rfl ?_
  refine JL.lenSL (R := R_Strip) ul_177 (SL.mono R_Strip_mono hs224 hb_2) .none rfl ?_
  refine JL.bin rfl rfl rfl .none rfl ?_
  refine JL.done hQ (JQ.go ?_)
  rcases ite_some hF with ⟨hc227, hF⟩ | ⟨hc227, hF⟩
  ·refine JC.cond_t (b := decide (i_223 < (b.Strips.length : Int))) rfl hc227 ?_
   refine JC.skip (JQ.go (JC.seq (JC.block (JC.seq (JC.draw (by rfl) mo_ (by kernel_rfl) ?_)))))
   intro hQ
   refine JL.fieldAddr fo_179_1 rfl .none rfl ?_
   refine JL.loadOwn 0 az_177 rfl rfl rfl .none rfl ?_
   refine JL.move .none rfl ?_
   obtain ⟨y245, hy245, hF⟩ := bind_some hF
   refine JL.indexSL (R := R_Strip) sl_177 (SL.mono R_Strip_mono hs224 hb_2) rfl hy245 .none rfl ?_
   rintro b246 o247 cs248 hc249 - rfl
   refine JL.fieldAddr fo_176_0 rfl .none rfl ?_
   refine JL.loadH 0 az_3 rfl hc249 rfl .none rfl ?_
   refine JL.move .none rfl ?_
   obtain ⟨y250, hy250, hF⟩ := bind_some hF
   refine JL.callS (c_ref02_Pull n H224 y245.Long s y250 hy250) rfl en_13 .none rfl ?_
   refine JL.fieldAddr fo_179_1 rfl .none rfl ?_
   refine JL.loadOwn 0 az_177 rfl rfl rfl .none rfl ?_
   refine JL.move .none rfl ?_
   obtain ⟨y251, hy251, hF⟩ := bind_some hF
   refine JL.indexSL (R := R_Strip) sl_177 (SL.mono R_Strip_mono hs224 hb_2) rfl hy251 .none rfl ?_
   rintro b252 o253 cs254 hc255 - rfl
   refine JL.fieldAddr fo_176_1 rfl .none rfl ?_
   refine JL.fieldAddr fo_39_0 rfl .none rfl ?_
   refine JL.loadH 1 az_3 rfl hc255 rfl .none rfl ?_
   refine JL.fieldAddr fo_179_1 rfl .none rfl ?_
   refine JL.loadOwn 0 az_177 rfl rfl rfl .none rfl ?_
   refine JL.move .none rfl ?_
   obtain ⟨y256, hy256, hF⟩ := bind_some hF
   refine JL.indexSL (R := R_Strip) sl_177 (SL.mono R_Strip_mono hs224 hb_2) rfl hy256 .none rfl ?_
   rintro b257 o258 cs259 hc260 - rfl
   refine JL.fieldAddr fo_176_1 rfl .none rfl ?_
   refine JL.fieldAddr fo_39_1 rfl .none rfl ?_
   refine JL.loadH 2 az_3 rfl hc260 rfl .none rfl ?_
   obtain ⟨y261, hy261, hF⟩ := bind_some hF
   refine JL.callS (c_ref02_within n H224 y250 y251.Pulled.Low y256.Pulled.High y261 hy261) rfl en_155 .none rfl ?_
   refine JL.not rfl .none rfl ?_
   refine JL.doneQ hQ ?_
   refine JQ.go (JC.fresh (fun f => f 1 = .int .i64 s ∧ f 2 = .pointer (some ⟨b1, 0, none⟩) ∧ f 5 = .int .i64 n_222 ∧ f 6 = .int .i64 i_223 ∧ f 37 = .bool (!y261)) ⟨rfl, rfl, rfl, rfl, rfl⟩ ?_)
   rintro f ⟨hf1, hf2, hf5, hf6, hf37⟩
   refine (JC.norm (i := 1) hf1 (JC.norm (i := 2) hf2 (JC.norm (i := 5) hf5 (JC.norm (i := 6) hf6 (JC.norm (i := 37) hf37 ?_)))))
   obtain ⟨r265, hlr265, hKr265⟩ := bind_some hF
   refine JC.join (fun (n_263 : Int) H264 f bs gs => f 1 = .int .i64 s ∧ f 2 = .pointer (some ⟨b1, 0, none⟩) ∧ f 5 = .int .i64 n_263 ∧ f 6 = .int .i64 i_223 ∧ bs = [(b1, .cells [.int .i64 b.Stretch.Low, .int .i64 b.Stretch.High, b_v2, .int .i64 b.Wrong].toArray 179)] ∧ gs = [] ∧ HSub H224 H264 ∧ n_263 = r265) ?_ ?_
   ·have hF := hlr265
    rcases ite_some hF with ⟨hc266, hF⟩ | ⟨hc266, hF⟩
    ·refine JC.cond_t (b := (!y261)) rfl hc266 ?_
     refine JC.region (by rfl) ?_
     intro hQ
     refine JL.move .none rfl ?_
     refine JL.bin rfl rfl rfl .none rfl ?_
     refine JL.assign .none rfl ?_
     refine JL.done hQ ?_
     obtain rfl := Option.some.inj hF
     exact JQ.join (w64 (n_222 + 1)) ⟨rfl, rfl, rfl, rfl, rfl, rfl, (HSub.refl _), rfl⟩
    ·refine JC.cond_f (b := (!y261)) rfl hc266 ?_
     refine JC.skip ?_
     obtain rfl := Option.some.inj hF
     exact JQ.join n_222 ⟨rfl, rfl, rfl, rfl, rfl, rfl, (HSub.refl _), rfl⟩
   ·rintro n_263 H264 f bs gs ⟨hf1, hf2, hf5, hf6, rfl, rfl, hs264, rfl⟩
    have hF := hKr265
    try dsimp only at hF
    refine (JQ.norm (i := 1) hf1 (JQ.norm (i := 2) hf2 (JQ.norm (i := 5) hf5 (JQ.norm (i := 6) hf6 ?_))))
    refine JQ.normal_block (JQ.go (JC.region (by rfl) ?_))
    intro hQ
    refine JL.move .none rfl ?_
    refine JL.bin rfl rfl rfl .none rfl ?_
    refine JL.assign .none rfl ?_
    refine JL.done hQ ?_
    obtain rfl := Option.some.inj hF
    exact JQ.next rfl ⟨rfl, rfl, rfl, rfl, rfl, rfl, (HSub.trans hs224 hs264)⟩
  ·refine JC.cond_f (b := decide (i_223 < (b.Strips.length : Int))) rfl hc227 ?_
   refine JC.exit (JQ.exit_then (JQ.exit_then (JQ.exit_block ?_)))
   obtain rfl := Option.some.inj hF
   have ehr225 := hr225 _ rfl
   subst ehr225
   refine JQ.mask [false] [] ?_
   exact JQ.join n_222 ⟨rfl, rfl, rfl, hs224, rfl⟩
 ·rintro n_133 H134 f bs gs ⟨hf5, rfl, rfl, hs134, rfl⟩
  have hF := hKr135
  try dsimp only at hF
  refine (JQ.norm (i := 5) hf5 ?_)
  refine JQ.go (JC.seq (JC.region (by rfl) ?_))
  intro hQ
  refine JL.move .none rfl ?_
  refine JL.assign .none rfl ?_
  refine JL.done hQ (JQ.go (JC.ret ?_))
  obtain rfl := Option.some.inj hF
  exact JQ.outS rfl (.tmp .nil) rfl
end Go.Proofs.Yteihdclpiekmaaa
end
section
set_option maxRecDepth 100000
set_option maxHeartbeats 40000000
namespace Go.Proofs.Yteihdclpiekmaaa
open Go Go.RowKit Go.Dec
set_option linter.unusedVariables false
theorem mz_az3 : aggsz Try.prog 3 = some (false, 1) := by kernel_rfl
theorem mz_foB0 : fieldOff Try.prog 179 0 = some 0 := by kernel_rfl
theorem mz_foS0 : fieldOff Try.prog 39 0 = some 0 := by kernel_rfl
theorem mz_foS1 : fieldOff Try.prog 39 1 = some 1 := by kernel_rfl
def I_cloth_numbers_1_s {σ ρ : Type} (f0 : Bolt) (cs : σ → Int → Option (σ ⊕ ρ)) : Int × σ → Option ((Int × σ) ⊕ (σ ⊕ ρ))
  | (r, s) => if decide (r ≤ f0.Stretch.High) = true then ((cs s r).bind fun y => match y with | .inl s' => some (.inl (w64 (r + 1), s')) | .inr e => some (.inr (.inr e))) else some (.inr (.inl s))
def I_cloth_numbers_1 {σ ρ : Type} (n : Nat) (f0 : Bolt) (cs : σ → Int → Option (σ ⊕ ρ)) (s : σ) : Option (σ ⊕ ρ) :=
  loopO n (I_cloth_numbers_1_s f0 cs) (f0.Stretch.Low, s)
set_option maxRecDepth 100000 in
set_option maxHeartbeats 4000000 in
theorem it_cloth_numbers_1 (n : Nat) (H : Hp) (c_0 : Bolt) (c_0_v0 : Value) (hc_0_0 : SL H 3 R_Strip c_0_v0 c_0.Strips) (c_0_b : Nat) (c_0_c : Cells H c_0_b 0 [.int .i64 c_0.Stretch.Low, .int .i64 c_0.Stretch.High, c_0_v0, .int .i64 c_0.Wrong]) :
    IT Try.prog 163 [.pointer (some ⟨c_0_b, 0, none⟩)] H (VPlain fun (x : Int) => .int .i64 x) (fun _ _ cs s => I_cloth_numbers_1 n c_0 cs s) := by
  refine IT.of (N := 18) Try.func163 rfl rfl rfl rfl fun σ ρ B A Ax cs l s0 y hF hY H1 fr gs Q hs1 hA hout => ?_
  unfold I_cloth_numbers_1 at hF
  refine JC.seq ?_
  refine JC.region (by rfl) ?_
  intro hQ
  refine JL.fieldAddr mz_foB0 rfl .none rfl ?_
  refine JL.fieldAddr mz_foS0 rfl .none rfl ?_
  refine JL.loadH 0 mz_az3 rfl (Cells.mono hs1 c_0_c) rfl .none rfl ?_
  refine JL.assign .none rfl ?_
  refine JL.done hQ ?_
  refine JQ.go ?_
  refine JC.block ?_
  refine JC.loop hF (fun (z : Int × σ) Hz f bs gs => match z with | (r, s) => f 0 = .func (.yield l) #[] #[] ∧ f 1 = .pointer (some ⟨c_0_b, 0, none⟩) ∧ f 3 = .int .i64 r ∧ A s Hz bs gs ∧ HSub H1 Hz) ⟨rfl, rfl, rfl, hA, HSub.refl _⟩ ?_
  rintro ⟨r, s⟩ x H2 f bs gs2 ⟨hf0, hf1, hf3, hA2, hs2⟩ hF hr
  rw [I_cloth_numbers_1_s] at hF
  refine (JC.norm (i := 0) hf0 (JC.norm (i := 1) hf1 (JC.norm (i := 3) hf3 ?_)))
  refine JC.seq ?_
  refine JC.seq ?_
  refine JC.region (by rfl) ?_
  intro hQ
  refine JL.move .none rfl ?_
  refine JL.fieldAddr mz_foB0 rfl .none rfl ?_
  refine JL.fieldAddr mz_foS1 rfl .none rfl ?_
  refine JL.loadH 1 mz_az3 rfl (Cells.mono (hs1.trans hs2) c_0_c) rfl .none rfl ?_
  refine JL.bin rfl rfl rfl .none rfl ?_
  refine JL.done hQ ?_
  refine JQ.go ?_
  rcases ite_some hF with ⟨hc, hF⟩ | ⟨hc, hF⟩
  · refine JC.cond_t (b := decide (r ≤ c_0.Stretch.High)) rfl hc ?_
    refine JC.skip ?_
    refine JQ.go ?_
    refine JC.seq ?_
    refine JC.block ?_
    refine JC.seq ?_
    obtain ⟨y0, hy0, hF⟩ := bind_some hF
    refine JC.regionY _ 2 rfl rfl (by rfl) ?_
    intro hQ
    refine JL.move .none rfl ?_
    refine JL.move .none rfl ?_
    refine JL.atYield (A := A) (Ax := Ax) (y := y0) (tl := []) hQ (by rfl) rfl rfl rfl rfl (fun w hw => hY s r y0 _ [] [] H2 bs gs2 w hA2 hy0 ⟨rfl, rfl⟩ hw) ?_ ?_
    · rintro s' H3 fr3 gs3 rfl hs3 hA3
      refine JL.not rfl .none rfl ?_
      refine JL.done hQ ?_
      refine JQ.go ?_
      refine JC.cond_f (b := !true) rfl rfl ?_
      refine JC.skip ?_
      refine JQ.normal_block ?_
      refine JQ.go ?_
      refine JC.region (by rfl) ?_
      intro hQ
      refine JL.move .none rfl ?_
      refine JL.bin rfl rfl rfl .none rfl ?_
      refine JL.assign .none rfl ?_
      refine JL.done hQ ?_
      obtain rfl := Option.some.inj hF
      exact JQ.next rfl ⟨rfl, rfl, rfl, hA3, hs2.trans hs3⟩
    · rintro e H3 fr3 gs3 rfl hs3 hA3
      refine JL.not rfl .none rfl ?_
      refine JL.done hQ ?_
      refine JQ.go ?_
      refine JC.cond_t (b := !false) rfl rfl ?_
      refine JC.ret ?_
      refine JQ.ret_block ?_
      refine JQ.ret_then ?_
      refine JQ.ret_then ?_
      refine JQ.ret_block ?_
      obtain rfl := Option.some.inj hF
      have e2 := hr _ rfl
      subst e2
      exact (hout H3 _ [] fr3 gs3 (hs2.trans hs3) hA3).1
  · refine JC.cond_f (b := decide (r ≤ c_0.Stretch.High)) rfl hc ?_
    refine JC.exit ?_
    refine JQ.exit_then ?_
    refine JQ.exit_then ?_
    refine JQ.exit_block ?_
    obtain rfl := Option.some.inj hF
    have e2 := hr _ rfl
    subst e2
    exact (hout H2 _ [] bs gs2 hs2 hA2).2
end Go.Proofs.Yteihdclpiekmaaa
end
section
set_option maxRecDepth 100000
set_option maxHeartbeats 40000000
namespace Go.Proofs.Yteihdclpiekmaaa
open Go Go.RowKit Go.Dec
set_option linter.unusedVariables false
-- 154 ferrule/ferruleref02.Can
def F_ref02_Can (n : Nat) (b : Bolt) (s : Int) : Option Bool :=
 (F_ref02_within n s b.Stretch.Low b.Stretch.High).bind fun y8 => (if y8 = true then ((F_ref02_False n b s).bind fun y13 => some (decide (y13 ≤ b.Wrong))) else (some false) : Option Bool).bind fun p10 => some p10
theorem c_ref02_Can (n : Nat) (H : Hp) (b : Bolt) (b_v2 : Value) (hb_2 : SL H 3 R_Strip b_v2 b.Strips) (s : Int) (y : Bool) (hF : F_ref02_Can n b s = some y) : SC Try.prog 154 [.agg [.int .i64 b.Stretch.Low, .int .i64 b.Stretch.High, b_v2, .int .i64 b.Wrong].toArray, .int .i64 s] (.bool y) H := by
 rw [F_ref02_Can] at hF
 refine SC.of (N := 21) Try.func154 rfl rfl rfl fun w => ?_
 refine JC.seq (JC.region (by rfl) ?_)
 intro hQ
 refine JL.box (cs := [.int .i64 b.Stretch.Low, .int .i64 b.Stretch.High, b_v2, .int .i64 b.Wrong]) rfl .none rfl ?_
 intro b1
 refine JL.assign .none rfl ?_
 refine JL.done hQ (JQ.go (JC.seq (JC.draw (by rfl) mo_ (by kernel_rfl) ?_)))
 intro hQ
 refine JL.move .none rfl ?_
 refine JL.fieldAddr fo_179_0 rfl .none rfl ?_
 refine JL.fieldAddr fo_39_0 rfl .none rfl ?_
 refine JL.loadOwn 0 az_3 rfl rfl rfl .none rfl ?_
 refine JL.fieldAddr fo_179_0 rfl .none rfl ?_
 refine JL.fieldAddr fo_39_1 rfl .none rfl ?_
 refine JL.loadOwn 0 az_3 rfl rfl rfl .none rfl ?_
 obtain ⟨y8, hy8, hF⟩ := bind_some hF
 refine JL.callS (c_ref02_within n H s b.Stretch.Low b.Stretch.High y8 hy8) rfl en_155 .none rfl ?_
 refine JL.move .none rfl ?_
 obtain ⟨p10, hp10, hF⟩ := bind_some hF
 refine JL.cut 7 (fun f => f 20 = .bool p10) ?_ ?_
 ·intro hJ11
  rcases ite_some hp10 with ⟨hc12, hF⟩ | ⟨hc12, hF⟩
  ·skip
   refine JL.loadOwn 0 az_179 rfl rfl rfl (.some rfl rfl rfl hc12) rfl ?_
   refine JL.move (.some rfl rfl rfl hc12) rfl ?_
   obtain ⟨y13, hy13, hF⟩ := bind_some hF
   refine JL.callS (c_ref02_False n H b b_v2 hb_2 s y13 hy13) rfl en_188 (.some rfl rfl rfl hc12) rfl ?_
   refine JL.fieldAddr fo_179_2 rfl (.some rfl rfl rfl hc12) rfl ?_
   refine JL.loadOwn 0 az_3 rfl rfl rfl (.some rfl rfl rfl hc12) rfl ?_
   refine JL.bin rfl rfl rfl (.some rfl rfl rfl hc12) rfl ?_
   refine JL.pick_t (b := y8) rfl hc12 .none rfl ?_
   obtain rfl := Option.some.inj hF
   exact hJ11 _ (rfl)
  ·skip
   refine JL.skip (.bool rfl rfl rfl hc12) rfl ?_
   refine JL.skip (.bool rfl rfl rfl hc12) rfl ?_
   refine JL.skip (.bool rfl rfl rfl hc12) rfl ?_
   refine JL.skip (.bool rfl rfl rfl hc12) rfl ?_
   refine JL.skip (.bool rfl rfl rfl hc12) rfl ?_
   refine JL.skip (.bool rfl rfl rfl hc12) rfl ?_
   refine JL.pick_f (b := y8) rfl hc12 .none rfl ?_
   obtain rfl := Option.some.inj hF
   exact hJ11 _ (rfl)
 ·rintro f hf20
  refine (JL.norm (i := 20) hf20 ?_)
  refine JL.assign .none rfl ?_
  refine JL.doneQ hQ ?_
  refine JQ.go (JC.ret ?_)
  obtain rfl := Option.some.inj hF
  exact JQ.outS rfl (.tmp .nil) rfl
-- 102 ferrule/ferrulelaw02.Far
def F_law02_Far_s1 (n : Nat) (d : Dome) : Int → Option (Int ⊕ (Bool ⊕ Unit))
 | i_58 => if decide (i_58 < (d.Bolts.length : Int)) = true then ((geti d.Bolts i_58).bind fun y63 => if decide (60 < (y63.Strips.length : Int)) = true then (some (Sum.inr (Sum.inl true))) else (some (Sum.inl (w64 (i_58 + 1))))) else (some (Sum.inr (Sum.inr ())))
def F_law02_Far_s3 (n : Nat) (d : Dome) (i_757 : Int) : Int × Int → Option ((Int × Int) ⊕ Int)
 | (n_872, s_873) => (geti d.Bolts i_757).bind fun y877 => if decide (s_873 ≤ y877.Stretch.High) = true then ((geti d.Bolts i_757).bind fun y883 => (F_ref02_Can n y883 s_873).bind fun y888 => (if y888 = true then (some (w64 (n_872 + 1))) else (some n_872)).bind fun n_890 => some (Sum.inl (n_890, (w64 (s_873 + 1))))) else (some (Sum.inr n_872))
def F_law02_Far_s2 (n : Nat) (d : Dome) : Int × Int → Option ((Int × Int) ⊕ Int)
 | (many_756, i_757) => if decide (i_757 < (d.Bolts.length : Int)) = true then ((geti d.Bolts i_757).bind fun y762 => (loopO n (F_law02_Far_s3 n d i_757) (0, y762.Stretch.Low)).bind fun n_829 => some (Sum.inl ((w64 (many_756 * n_829)), (w64 (i_757 + 1))))) else (some (Sum.inr many_756))
def F_law02_Far (n : Nat) (d : Dome) : Option Bool :=
 if ((((decide (20 < (d.Bolts.length : Int))) || (decide (60 < (d.Gores.length : Int)))) || (decide (60 < (d.Rounds.length : Int)))) || (decide (60 < (d.Widths.length : Int)))) = true then (some true) else ((loopO n (F_law02_Far_s1 n d) 0).bind fun r39 => match r39 with | .inl o => some o | .inr _ => (F_ref02_Check n d).bind fun y69 => if (y69 != 0) = true then (some false) else ((loopO n (F_law02_Far_s2 n d) (1, 0)).bind fun many_481 => some (((decide (49 < many_481)) || (decide (8 < (d.Gores.length : Int)))) || (decide (4 < (d.Rounds.length : Int))))))
theorem c_law02_Far (n : Nat) (H : Hp) (d : Dome) (d_v0 : Value) (hd_0 : SL H 4 R_Bolt d_v0 d.Bolts) (d_v1 : Value) (hd_1 : SL H 1 RInt d_v1 d.Gores) (d_v3 : Value) (hd_3 : SL H 2 R_Span d_v3 d.Rounds) (d_v4 : Value) (hd_4 : SL H 1 RInt d_v4 d.Widths) (y : Bool) (hF : F_law02_Far n d = some y) : SC Try.prog 102 [.agg [d_v0, d_v1, .int .i64 d.Loss, d_v3, d_v4, .int .i64 d.Slope].toArray] (.bool y) H := by
 rw [F_law02_Far] at hF
 refine SC.of (N := 99) Try.func102 rfl rfl rfl fun w => ?_
 refine JC.seq (JC.region (by rfl) ?_)
 intro hQ
 refine JL.box (cs := [d_v0, d_v1, .int .i64 d.Loss, d_v3, d_v4, .int .i64 d.Slope]) rfl .none rfl ?_
 intro b1
 refine JL.assign .none rfl ?_
 refine JL.done hQ (JQ.go (JC.seq (JC.seq (JC.region (by rfl) ?_))))
 intro hQ
 refine JL.fieldAddr fo_26_0 rfl .none rfl ?_
 refine JL.loadOwn 0 az_22 rfl rfl rfl .none rfl ?_
 refine JL.lenSL (R := R_Bolt) ul_22 hd_0 .none rfl ?_
 refine JL.bin rfl rfl rfl .none rfl ?_
 refine JL.move .none rfl ?_
 refine JL.cut 5 (fun f => f 1 = .pointer (some ⟨b1, 0, none⟩) ∧ f 17 = .bool ((decide (20 < (d.Bolts.length : Int))) || (decide (60 < (d.Gores.length : Int))))) ?_ ?_
 ·intro hJ2
  rcases bcases (decide (20 < (d.Bolts.length : Int))) with hc3 | hc3
  ·skip
   refine JL.skip (.bool rfl rfl rfl hc3) rfl ?_
   refine JL.skip (.bool rfl rfl rfl hc3) rfl ?_
   refine JL.skip (.bool rfl rfl rfl hc3) rfl ?_
   refine JL.skip (.bool rfl rfl rfl hc3) rfl ?_
   refine JL.pick_t (b := decide (20 < (d.Bolts.length : Int))) rfl hc3 .none rfl ?_
   exact hJ2 _ ⟨rfl, or_t hc3 rfl⟩
  ·skip
   refine JL.fieldAddr fo_26_1 rfl (.some rfl rfl rfl hc3) rfl ?_
   refine JL.loadOwn 0 az_23 rfl rfl rfl (.some rfl rfl rfl hc3) rfl ?_
   refine JL.lenSL (R := RInt) ul_23 hd_1 (.some rfl rfl rfl hc3) rfl ?_
   refine JL.bin rfl rfl rfl (.some rfl rfl rfl hc3) rfl ?_
   refine JL.pick_f (b := decide (20 < (d.Bolts.length : Int))) rfl hc3 .none rfl ?_
   exact hJ2 _ ⟨rfl, or_f hc3 rfl⟩
 ·rintro f ⟨hf1, hf17⟩
  refine (JL.norm (i := 1) hf1 (JL.norm (i := 17) hf17 ?_))
  refine JL.move .none rfl ?_
  refine JL.cut 5 (fun f => f 1 = .pointer (some ⟨b1, 0, none⟩) ∧ f 23 = .bool (((decide (20 < (d.Bolts.length : Int))) || (decide (60 < (d.Gores.length : Int)))) || (decide (60 < (d.Rounds.length : Int))))) ?_ ?_
  ·intro hJ4
   rcases bcases ((decide (20 < (d.Bolts.length : Int))) || (decide (60 < (d.Gores.length : Int)))) with hc5 | hc5
   ·skip
    refine JL.skip (.bool rfl rfl rfl hc5) rfl ?_
    refine JL.skip (.bool rfl rfl rfl hc5) rfl ?_
    refine JL.skip (.bool rfl rfl rfl hc5) rfl ?_
    refine JL.skip (.bool rfl rfl rfl hc5) rfl ?_
    refine JL.pick_t (b := ((decide (20 < (d.Bolts.length : Int))) || (decide (60 < (d.Gores.length : Int))))) rfl hc5 .none rfl ?_
    exact hJ4 _ ⟨rfl, or_t hc5 rfl⟩
   ·skip
    refine JL.fieldAddr fo_26_3 rfl (.some rfl rfl rfl hc5) rfl ?_
    refine JL.loadOwn 0 az_24 rfl rfl rfl (.some rfl rfl rfl hc5) rfl ?_
    refine JL.lenSL (R := R_Span) ul_24 hd_3 (.some rfl rfl rfl hc5) rfl ?_
    refine JL.bin rfl rfl rfl (.some rfl rfl rfl hc5) rfl ?_
    refine JL.pick_f (b := ((decide (20 < (d.Bolts.length : Int))) || (decide (60 < (d.Gores.length : Int))))) rfl hc5 .none rfl ?_
    exact hJ4 _ ⟨rfl, or_f hc5 rfl⟩
  ·rintro f ⟨hf1, hf23⟩
   refine (JL.norm (i := 1) hf1 (JL.norm (i := 23) hf23 ?_))
   refine JL.move .none rfl ?_
   refine JL.cut 5 (fun f => f 1 = .pointer (some ⟨b1, 0, none⟩) ∧ f 29 = .bool ((((decide (20 < (d.Bolts.length : Int))) || (decide (60 < (d.Gores.length : Int)))) || (decide (60 < (d.Rounds.length : Int)))) || (decide (60 < (d.Widths.length : Int))))) ?_ ?_
   ·intro hJ6
    rcases bcases (((decide (20 < (d.Bolts.length : Int))) || (decide (60 < (d.Gores.length : Int)))) || (decide (60 < (d.Rounds.length : Int)))) with hc7 | hc7
    ·skip
     refine JL.skip (.bool rfl rfl rfl hc7) rfl ?_
     refine JL.skip (.bool rfl rfl rfl hc7) rfl ?_
     refine JL.skip (.bool rfl rfl rfl hc7) rfl ?_
     refine JL.skip (.bool rfl rfl rfl hc7) rfl ?_
     refine JL.pick_t (b := (((decide (20 < (d.Bolts.length : Int))) || (decide (60 < (d.Gores.length : Int)))) || (decide (60 < (d.Rounds.length : Int))))) rfl hc7 .none rfl ?_
     exact hJ6 _ ⟨rfl, or_t hc7 rfl⟩
    ·skip
     refine JL.fieldAddr fo_26_4 rfl (.some rfl rfl rfl hc7) rfl ?_
     refine JL.loadOwn 0 az_23 rfl rfl rfl (.some rfl rfl rfl hc7) rfl ?_
     refine JL.lenSL (R := RInt) ul_23 hd_4 (.some rfl rfl rfl hc7) rfl ?_
     refine JL.bin rfl rfl rfl (.some rfl rfl rfl hc7) rfl ?_
     refine JL.pick_f (b := (((decide (20 < (d.Bolts.length : Int))) || (decide (60 < (d.Gores.length : Int)))) || (decide (60 < (d.Rounds.length : Int))))) rfl hc7 .none rfl ?_
     exact hJ6 _ ⟨rfl, or_f hc7 rfl⟩
   ·rintro f ⟨hf1, hf29⟩
    refine (JL.norm (i := 1) hf1 (JL.norm (i := 29) hf29 ?_))
    refine JL.done hQ (JQ.go ?_)
    rcases ite_some hF with ⟨hc8, hF⟩ | ⟨hc8, hF⟩
    ·refine JC.cond_t (b := ((((decide (20 < (d.Bolts.length : Int))) || (decide (60 < (d.Gores.length : Int)))) || (decide (60 < (d.Rounds.length : Int)))) || (decide (60 < (d.Widths.length : Int))))) rfl hc8 ?_
     refine JC.seq (JC.region (by rfl) ?_)
     intro hQ
     refine JL.assign .none rfl ?_
     refine JL.done hQ (JQ.go (JC.ret (JQ.ret_then ?_)))
     obtain rfl := Option.some.inj hF
     exact JQ.outS rfl (.tmp .nil) rfl
    ·refine JC.cond_f (b := ((((decide (20 < (d.Bolts.length : Int))) || (decide (60 < (d.Gores.length : Int)))) || (decide (60 < (d.Rounds.length : Int)))) || (decide (60 < (d.Widths.length : Int))))) rfl hc8 ?_
     refine JC.skip (JQ.go (JC.seq (JC.seq (JC.region (by rfl) ?_))))
     intro hQ
     refine JL.assign .none rfl ?_
     refine JL.done hQ (JQ.go ?_)
     obtain ⟨r39, hlr39, hKr39⟩ := bind_some hF
     refine JC.join (fun (_ : Unit) H38 f bs gs => f 1 = .pointer (some ⟨b1, 0, none⟩) ∧ bs = [(b1, .cells [d_v0, d_v1, .int .i64 d.Loss, d_v3, d_v4, .int .i64 d.Slope].toArray 26)] ∧ gs = [] ∧ HSub H H38 ∧ Sum.inr () = r39) ?_ ?_
     ·skip
      refine JC.block (JC.loop hlr39 (fun (i_58 : Int) H59 f bs gs => f 1 = .pointer (some ⟨b1, 0, none⟩) ∧ f 3 = .int .i64 i_58 ∧ bs = [(b1, .cells [d_v0, d_v1, .int .i64 d.Loss, d_v3, d_v4, .int .i64 d.Slope].toArray 26)] ∧ gs = [] ∧ HSub H H59) ⟨rfl, rfl, rfl, rfl, (HSub.refl _)⟩ ?_)
      rintro i_58 x61 H59 f bs gs ⟨hf1, hf3, rfl, rfl, hs59⟩ hF hr60
      rw [F_law02_Far_s1] at hF
      refine (JC.norm (i := 1) hf1 (JC.norm (i := 3) hf3 ?_))
      refine JC.seq (JC.seq (JC.region (by rfl) ?_))
      intro hQ
      refine JL.move .none rfl ?_
      refine JL.fieldAddr fo_26_0 rfl .none rfl ?_
      refine JL.loadOwn 0 az_22 rfl rfl rfl .none rfl ?_
      refine JL.lenSL (R := R_Bolt) ul_22 (SL.mono R_Bolt_mono hs59 hd_0) .none rfl ?_
      refine JL.bin rfl rfl rfl .none rfl ?_
      refine JL.done hQ (JQ.go ?_)
      rcases ite_some hF with ⟨hc62, hF⟩ | ⟨hc62, hF⟩
      ·refine JC.cond_t (b := decide (i_58 < (d.Bolts.length : Int))) rfl hc62 ?_
       refine JC.skip (JQ.go (JC.seq (JC.block (JC.seq (JC.region (by rfl) ?_)))))
       intro hQ
       refine JL.fieldAddr fo_26_0 rfl .none rfl ?_
       refine JL.loadOwn 0 az_22 rfl rfl rfl .none rfl ?_
       refine JL.move .none rfl ?_
       obtain ⟨y63, hy63, hF⟩ := bind_some hF
       refine JL.indexSL (R := R_Bolt) sl_22 (SL.mono R_Bolt_mono hs59 hd_0) rfl hy63 .none rfl ?_
       rintro b64 o65 cs66 hc67 - ⟨y63_v2, rfl, hy63_2⟩
       refine JL.fieldAddr fo_179_1 rfl .none rfl ?_
       refine JL.loadH 2 az_177 rfl hc67 rfl .none rfl ?_
       refine JL.lenSL (R := R_Strip) ul_177 hy63_2 .none rfl ?_
       refine JL.bin rfl rfl rfl .none rfl ?_
       refine JL.done hQ (JQ.go (JC.fresh (fun f => f 1 = .pointer (some ⟨b1, 0, none⟩) ∧ f 3 = .int .i64 i_58 ∧ f 44 = .bool (decide (60 < (y63.Strips.length : Int)))) ⟨rfl, rfl, rfl⟩ ?_))
       rintro f ⟨hf1, hf3, hf44⟩
       refine (JC.norm (i := 1) hf1 (JC.norm (i := 3) hf3 (JC.norm (i := 44) hf44 ?_)))
       rcases ite_some hF with ⟨hc68, hF⟩ | ⟨hc68, hF⟩
       ·refine JC.cond_t (b := decide (60 < (y63.Strips.length : Int))) rfl hc68 ?_
        refine JC.seq (JC.region (by rfl) ?_)
        intro hQ
        refine JL.assign .none rfl ?_
        refine JL.done hQ (JQ.go (JC.ret (JQ.ret_block (JQ.ret_then (JQ.ret_then (JQ.ret_block (JQ.ret_join (JQ.ret_then ?_))))))))
        obtain rfl := Option.some.inj hF
        have ehr60 := hr60 _ rfl
        subst ehr60
        have hF := hKr39
        try dsimp only at hF
        obtain rfl := Option.some.inj hF
        exact JQ.outS rfl (.tmp .nil) rfl
       ·refine JC.cond_f (b := decide (60 < (y63.Strips.length : Int))) rfl hc68 ?_
        refine JC.skip (JQ.normal_block (JQ.go (JC.region (by rfl) ?_)))
        intro hQ
        refine JL.move .none rfl ?_
        refine JL.bin rfl rfl rfl .none rfl ?_
        refine JL.assign .none rfl ?_
        refine JL.done hQ ?_
        obtain rfl := Option.some.inj hF
        exact JQ.next rfl ⟨rfl, rfl, rfl, rfl, hs59⟩
      ·refine JC.cond_f (b := decide (i_58 < (d.Bolts.length : Int))) rfl hc62 ?_
       refine JC.exit (JQ.exit_then (JQ.exit_then (JQ.exit_block ?_)))
       obtain rfl := Option.some.inj hF
       have ehr60 := hr60 _ rfl
       subst ehr60
       exact JQ.join () ⟨rfl, rfl, rfl, hs59, rfl⟩
     ·rintro _ H38 f bs gs ⟨hf1, rfl, rfl, hs38, rfl⟩
      have hF := hKr39
      try dsimp only at hF
      refine (JQ.norm (i := 1) hf1 ?_)
      refine JQ.go (JC.seq (JC.seq (JC.region (by rfl) ?_)))
      intro hQ
      refine JL.loadOwn 0 az_26 rfl rfl rfl .none rfl ?_
      obtain ⟨y69, hy69, hF⟩ := bind_some hF
      refine JL.callS (c_ref02_Check n H38 d d_v0 (SL.mono R_Bolt_mono hs38 hd_0) d_v1 (SL.mono RInt.mono hs38 hd_1) d_v3 (SL.mono R_Span_mono hs38 hd_3) d_v4 (SL.mono RInt.mono hs38 hd_4) y69 hy69) rfl en_103 .none rfl ?_
      refine JL.bin rfl rfl rfl .none rfl ?_
      refine JL.done hQ (JQ.go ?_)
      rcases ite_some hF with ⟨hc70, hF⟩ | ⟨hc70, hF⟩
      ·refine JC.cond_t (b := (y69 != 0)) rfl hc70 ?_
       refine JC.seq (JC.region (by rfl) ?_)
       intro hQ
       refine JL.assign .none rfl ?_
       refine JL.done hQ (JQ.go (JC.ret (JQ.ret_then ?_)))
       obtain rfl := Option.some.inj hF
       exact JQ.outS rfl (.tmp .nil) rfl
      ·refine JC.cond_f (b := (y69 != 0)) rfl hc70 ?_
       refine JC.skip (JQ.go (JC.seq (JC.region (by rfl) ?_)))
       intro hQ
       refine JL.assign .none rfl ?_
       refine JL.done hQ (JQ.go (JC.seq (JC.seq (JC.region (by rfl) ?_))))
       intro hQ
       refine JL.assign .none rfl ?_
       refine JL.done hQ (JQ.go ?_)
       obtain ⟨r483, hlr483, hKr483⟩ := bind_some hF
       refine JC.join (fun (many_481 : Int) H482 f bs gs => f 1 = .pointer (some ⟨b1, 0, none⟩) ∧ f 4 = .int .i64 many_481 ∧ bs = [(b1, .cells [d_v0, d_v1, .int .i64 d.Loss, d_v3, d_v4, .int .i64 d.Slope].toArray 26)] ∧ gs = [] ∧ HSub H38 H482 ∧ many_481 = r483) ?_ ?_
       ·skip
        refine JC.block (JC.loop hlr483 (fun (x : Int × Int) H758 f bs gs => match x with | (many_756, i_757) => f 1 = .pointer (some ⟨b1, 0, none⟩) ∧ f 4 = .int .i64 many_756 ∧ f 5 = .int .i64 i_757 ∧ bs = [(b1, .cells [d_v0, d_v1, .int .i64 d.Loss, d_v3, d_v4, .int .i64 d.Slope].toArray 26)] ∧ gs = [] ∧ HSub H38 H758) ⟨rfl, rfl, rfl, rfl, rfl, (HSub.refl _)⟩ ?_)
        rintro ⟨many_756, i_757⟩ x760 H758 f bs gs ⟨hf1, hf4, hf5, rfl, rfl, hs758⟩ hF hr759
        rw [F_law02_Far_s2] at hF
        refine (JC.norm (i := 1) hf1 (JC.norm (i := 4) hf4 (JC.norm (i := 5) hf5 ?_)))
        refine JC.seq (JC.seq (JC.region (by rfl) ?_))
        intro hQ
        refine JL.move .none rfl ?_
        refine JL.fieldAddr fo_26_0 rfl .none rfl ?_
        refine JL.loadOwn 0 az_22 rfl rfl rfl .none rfl ?_
        refine JL.lenSL (R := R_Bolt) ul_22 (SL.mono R_Bolt_mono (HSub.trans hs38 hs758) hd_0) .none rfl ?_
        refine JL.bin rfl rfl rfl .none rfl ?_
        refine JL.done hQ (JQ.go ?_)
        rcases ite_some hF with ⟨hc761, hF⟩ | ⟨hc761, hF⟩
        ·refine JC.cond_t (b := decide (i_757 < (d.Bolts.length : Int))) rfl hc761 ?_
         refine JC.skip (JQ.go (JC.seq (JC.block (JC.seq (JC.region (by rfl) ?_)))))
         intro hQ
         refine JL.assign .none rfl ?_
         refine JL.done hQ (JQ.go (JC.seq (JC.seq (JC.region (by rfl) ?_))))
         intro hQ
         refine JL.fieldAddr fo_26_0 rfl .none rfl ?_
         refine JL.loadOwn 0 az_22 rfl rfl rfl .none rfl ?_
         refine JL.move .none rfl ?_
         obtain ⟨y762, hy762, hF⟩ := bind_some hF
         refine JL.indexSL (R := R_Bolt) sl_22 (SL.mono R_Bolt_mono (HSub.trans hs38 hs758) hd_0) rfl hy762 .none rfl ?_
         rintro b763 o764 cs765 hc766 - ⟨y762_v2, rfl, hy762_2⟩
         refine JL.fieldAddr fo_179_0 rfl .none rfl ?_
         refine JL.fieldAddr fo_39_0 rfl .none rfl ?_
         refine JL.loadH 0 az_3 rfl hc766 rfl .none rfl ?_
         refine JL.assign .none rfl ?_
         refine JL.done hQ (JQ.go (JC.fresh (fun f => f 1 = .pointer (some ⟨b1, 0, none⟩) ∧ f 4 = .int .i64 many_756 ∧ f 5 = .int .i64 i_757 ∧ f 6 = .int .i64 0 ∧ f 7 = .int .i64 y762.Stretch.Low) ⟨rfl, rfl, rfl, rfl, rfl⟩ ?_))
         rintro f ⟨hf1, hf4, hf5, hf6, hf7⟩
         refine (JC.norm (i := 1) hf1 (JC.norm (i := 4) hf4 (JC.norm (i := 5) hf5 (JC.norm (i := 6) hf6 (JC.norm (i := 7) hf7 ?_)))))
         obtain ⟨r831, hlr831, hKr831⟩ := bind_some hF
         refine JC.join (fun (n_829 : Int) H830 f bs gs => f 1 = .pointer (some ⟨b1, 0, none⟩) ∧ f 4 = .int .i64 many_756 ∧ f 5 = .int .i64 i_757 ∧ f 6 = .int .i64 n_829 ∧ bs = [(b1, .cells [d_v0, d_v1, .int .i64 d.Loss, d_v3, d_v4, .int .i64 d.Slope].toArray 26)] ∧ gs = [] ∧ HSub H758 H830 ∧ n_829 = r831) ?_ ?_
         ·skip
          refine JC.block (JC.loop hlr831 (fun (x : Int × Int) H874 f bs gs => match x with | (n_872, s_873) => f 1 = .pointer (some ⟨b1, 0, none⟩) ∧ f 4 = .int .i64 many_756 ∧ f 5 = .int .i64 i_757 ∧ f 6 = .int .i64 n_872 ∧ f 7 = .int .i64 s_873 ∧ bs = [(b1, .cells [d_v0, d_v1, .int .i64 d.Loss, d_v3, d_v4, .int .i64 d.Slope].toArray 26)] ∧ gs = [] ∧ HSub H758 H874) ⟨rfl, rfl, rfl, rfl, rfl, rfl, rfl, (HSub.refl _)⟩ ?_)
          rintro ⟨n_872, s_873⟩ x876 H874 f bs gs ⟨hf1, hf4, hf5, hf6, hf7, rfl, rfl, hs874⟩ hF hr875
          rw [F_law02_Far_s3] at hF
          refine (JC.norm (i := 1) hf1 (JC.norm (i := 4) hf4 (JC.norm (i := 5) hf5 (JC.norm (i := 6) hf6 (JC.norm (i := 7) hf7 ?_)))))
          refine JC.seq (JC.seq (JC.region (by rfl) ?_))
          intro hQ
          refine JL.move .none rfl ?_
          refine JL.fieldAddr fo_26_0 rfl .none rfl ?_
          refine JL.loadOwn 0 az_22 rfl rfl rfl .none rfl ?_
          refine JL.move .none rfl ?_
          obtain ⟨y877, hy877, hF⟩ := bind_some hF
          refine JL.indexSL (R := R_Bolt) sl_22 (SL.mono R_Bolt_mono (HSub.trans hs38 (HSub.trans hs758 hs874)) hd_0) rfl hy877 .none rfl ?_
          rintro b878 o879 cs880 hc881 - ⟨y877_v2, rfl, hy877_2⟩
          refine JL.fieldAddr fo_179_0 rfl .none rfl ?_
          refine JL.fieldAddr fo_39_1 rfl .none rfl ?_
          refine JL.loadH 1 az_3 rfl hc881 rfl .none rfl ?_
          refine JL.bin rfl rfl rfl .none rfl ?_
          refine JL.done hQ (JQ.go (JC.fresh (fun f => f 1 = .pointer (some ⟨b1, 0, none⟩) ∧ f 4 = .int .i64 many_756 ∧ f 5 = .int .i64 i_757 ∧ f 6 = .int .i64 n_872 ∧ f 7 = .int .i64 s_873 ∧ f 70 = .bool (decide (s_873 ≤ y877.Stretch.High))) ⟨rfl, rfl, rfl, rfl, rfl, rfl⟩ ?_))
          rintro f ⟨hf1, hf4, hf5, hf6, hf7, hf70⟩
          refine (JC.norm (i := 1) hf1 (JC.norm (i := 4) hf4 (JC.norm (i := 5) hf5 (JC.norm (i := 6) hf6 (JC.norm (i := 7) hf7 (JC.norm (i := 70) hf70 ?_))))))
          rcases ite_some hF with ⟨hc882, hF⟩ | ⟨hc882, hF⟩
          ·refine JC.cond_t (b := decide (s_873 ≤ y877.Stretch.High)) rfl hc882 ?_
           refine JC.skip (JQ.go (JC.seq (JC.block (JC.seq (JC.region (by rfl) ?_)))))
           intro hQ
           refine JL.fieldAddr fo_26_0 rfl .none rfl ?_
           refine JL.loadOwn 0 az_22 rfl rfl rfl .none rfl ?_
           refine JL.move .none rfl ?_
           obtain ⟨y883, hy883, hF⟩ := bind_some hF
           refine JL.indexSL (R := R_Bolt) sl_22 (SL.mono R_Bolt_mono (HSub.trans hs38 (HSub.trans hs758 hs874)) hd_0) rfl hy883 .none rfl ?_
           rintro b884 o885 cs886 hc887 - ⟨y883_v2, rfl, hy883_2⟩
           refine JL.loadH 0 az_179 rfl hc887 rfl .none rfl ?_
           refine JL.move .none rfl ?_
           obtain ⟨y888, hy888, hF⟩ := bind_some hF
           refine JL.callS (c_ref02_Can n H874 y883 y883_v2 hy883_2 s_873 y888 hy888) rfl en_154 .none rfl ?_
           refine JL.done hQ (JQ.go ?_)
           obtain ⟨r892, hlr892, hKr892⟩ := bind_some hF
           refine JC.join (fun (n_890 : Int) H891 f bs gs => f 1 = .pointer (some ⟨b1, 0, none⟩) ∧ f 4 = .int .i64 many_756 ∧ f 5 = .int .i64 i_757 ∧ f 6 = .int .i64 n_890 ∧ f 7 = .int .i64 s_873 ∧ bs = [(b1, .cells [d_v0, d_v1, .int .i64 d.Loss, d_v3, d_v4, .int .i64 d.Slope].toArray 26)] ∧ gs = [] ∧ HSub H874 H891 ∧ n_890 = r892) ?_ ?_
           ·have hF := hlr892
            rcases ite_some hF with ⟨hc893, hF⟩ | ⟨hc893, hF⟩
            ·refine JC.cond_t (b := y888) rfl hc893 ?_
             refine JC.region (by rfl) ?_
             intro hQ
             refine JL.move .none rfl ?_
             refine JL.bin rfl rfl rfl .none rfl ?_
             refine JL.assign .none rfl ?_
             refine JL.done hQ ?_
             obtain rfl := Option.some.inj hF
             exact JQ.join (w64 (n_872 + 1)) ⟨rfl, rfl, rfl, rfl, rfl, rfl, rfl, (HSub.refl _), rfl⟩
            ·refine JC.cond_f (b := y888) rfl hc893 ?_
             refine JC.skip ?_
             obtain rfl := Option.some.inj hF
             exact JQ.join n_872 ⟨rfl, rfl, rfl, rfl, rfl, rfl, rfl, (HSub.refl _), rfl⟩
           ·rintro n_890 H891 f bs gs ⟨hf1, hf4, hf5, hf6, hf7, rfl, rfl, hs891, rfl⟩
            have hF := hKr892
            try dsimp only at hF
            refine (JQ.norm (i := 1) hf1 (JQ.norm (i := 4) hf4 (JQ.norm (i := 5) hf5 (JQ.norm (i := 6) hf6 (JQ.norm (i := 7) hf7 ?_)))))
            refine JQ.normal_block (JQ.go (JC.region (by rfl) ?_))
            intro hQ
            refine JL.move .none rfl ?_
            refine JL.bin rfl rfl rfl .none rfl ?_
            refine JL.assign .none rfl ?_
            refine JL.done hQ ?_
            obtain rfl := Option.some.inj hF
            exact JQ.next rfl ⟨rfl, rfl, rfl, rfl, rfl, rfl, rfl, (HSub.trans hs874 hs891)⟩
          ·refine JC.cond_f (b := decide (s_873 ≤ y877.Stretch.High)) rfl hc882 ?_
           refine JC.exit (JQ.exit_then (JQ.exit_then (JQ.exit_block ?_)))
           obtain rfl := Option.some.inj hF
           have ehr875 := hr875 _ rfl
           subst ehr875
           exact JQ.join n_872 ⟨rfl, rfl, rfl, rfl, rfl, rfl, hs874, rfl⟩
         ·rintro n_829 H830 f bs gs ⟨hf1, hf4, hf5, hf6, rfl, rfl, hs830, rfl⟩
          have hF := hKr831
          try dsimp only at hF
          refine (JQ.norm (i := 1) hf1 (JQ.norm (i := 4) hf4 (JQ.norm (i := 5) hf5 (JQ.norm (i := 6) hf6 ?_))))
          refine JQ.go (JC.region (by rfl) ?_)
          intro hQ
          refine JL.move .none rfl ?_
          refine JL.move .none rfl ?_
          refine JL.bin rfl rfl rfl .none rfl ?_
          refine JL.assign .none rfl ?_
          refine JL.done hQ (JQ.normal_block (JQ.go (JC.region (by rfl) ?_)))
          intro hQ
          refine JL.move .none rfl ?_
          refine JL.bin rfl rfl rfl .none rfl ?_
          refine JL.assign .none rfl ?_
          refine JL.done hQ ?_
          obtain rfl := Option.some.inj hF
          exact JQ.next rfl ⟨rfl, rfl, rfl, rfl, rfl, (HSub.trans hs758 hs830)⟩
        ·refine JC.cond_f (b := decide (i_757 < (d.Bolts.length : Int))) rfl hc761 ?_
         refine JC.exit (JQ.exit_then (JQ.exit_then (JQ.exit_block ?_)))
         obtain rfl := Option.some.inj hF
         have ehr759 := hr759 _ rfl
         subst ehr759
         exact JQ.join many_756 ⟨rfl, rfl, rfl, rfl, hs758, rfl⟩
       ·rintro many_481 H482 f bs gs ⟨hf1, hf4, rfl, rfl, hs482, rfl⟩
        have hF := hKr483
        try dsimp only at hF
        refine (JQ.norm (i := 1) hf1 (JQ.norm (i := 4) hf4 ?_))
        refine JQ.go (JC.seq (JC.region (by rfl) ?_))
        intro hQ
        refine JL.move .none rfl ?_
        refine JL.bin rfl rfl rfl .none rfl ?_
        refine JL.move .none rfl ?_
        refine JL.cut 5 (fun f => f 1 = .pointer (some ⟨b1, 0, none⟩) ∧ f 92 = .bool ((decide (49 < many_481)) || (decide (8 < (d.Gores.length : Int))))) ?_ ?_
        ·intro hJ894
         rcases bcases (decide (49 < many_481)) with hc895 | hc895
         ·skip
          refine JL.skip (.bool rfl rfl rfl hc895) rfl ?_
          refine JL.skip (.bool rfl rfl rfl hc895) rfl ?_
          refine JL.skip (.bool rfl rfl rfl hc895) rfl ?_
          refine JL.skip (.bool rfl rfl rfl hc895) rfl ?_
          refine JL.pick_t (b := decide (49 < many_481)) rfl hc895 .none rfl ?_
          exact hJ894 _ ⟨rfl, or_t hc895 rfl⟩
         ·skip
          refine JL.fieldAddr fo_26_1 rfl (.some rfl rfl rfl hc895) rfl ?_
          refine JL.loadOwn 0 az_23 rfl rfl rfl (.some rfl rfl rfl hc895) rfl ?_
          refine JL.lenSL (R := RInt) ul_23 (SL.mono RInt.mono (HSub.trans hs38 hs482) hd_1) (.some rfl rfl rfl hc895) rfl ?_
          refine JL.bin rfl rfl rfl (.some rfl rfl rfl hc895) rfl ?_
          refine JL.pick_f (b := decide (49 < many_481)) rfl hc895 .none rfl ?_
          exact hJ894 _ ⟨rfl, or_f hc895 rfl⟩
        ·rintro f ⟨hf1, hf92⟩
         refine (JL.norm (i := 1) hf1 (JL.norm (i := 92) hf92 ?_))
         refine JL.move .none rfl ?_
         refine JL.cut 5 (fun f => f 98 = .bool (((decide (49 < many_481)) || (decide (8 < (d.Gores.length : Int)))) || (decide (4 < (d.Rounds.length : Int))))) ?_ ?_
         ·intro hJ896
          rcases bcases ((decide (49 < many_481)) || (decide (8 < (d.Gores.length : Int)))) with hc897 | hc897
          ·skip
           refine JL.skip (.bool rfl rfl rfl hc897) rfl ?_
           refine JL.skip (.bool rfl rfl rfl hc897) rfl ?_
           refine JL.skip (.bool rfl rfl rfl hc897) rfl ?_
           refine JL.skip (.bool rfl rfl rfl hc897) rfl ?_
           refine JL.pick_t (b := ((decide (49 < many_481)) || (decide (8 < (d.Gores.length : Int))))) rfl hc897 .none rfl ?_
           exact hJ896 _ (or_t hc897 rfl)
          ·skip
           refine JL.fieldAddr fo_26_3 rfl (.some rfl rfl rfl hc897) rfl ?_
           refine JL.loadOwn 0 az_24 rfl rfl rfl (.some rfl rfl rfl hc897) rfl ?_
           refine JL.lenSL (R := R_Span) ul_24 (SL.mono R_Span_mono (HSub.trans hs38 hs482) hd_3) (.some rfl rfl rfl hc897) rfl ?_
           refine JL.bin rfl rfl rfl (.some rfl rfl rfl hc897) rfl ?_
           refine JL.pick_f (b := ((decide (49 < many_481)) || (decide (8 < (d.Gores.length : Int))))) rfl hc897 .none rfl ?_
           exact hJ896 _ (or_f hc897 rfl)
         ·rintro f hf98
          refine (JL.norm (i := 98) hf98 ?_)
          refine JL.assign .none rfl ?_
          refine JL.done hQ (JQ.go (JC.ret ?_))
          obtain rfl := Option.some.inj hF
          exact JQ.outS rfl (.tmp .nil) rfl
-- 49 ferrule/ferrulelaw04.FarRing
def F_law04_FarRing (n : Nat) (f_ : Figure) : Option Bool :=
 (F_law02_Far n f_.Dome).bind fun y2 => some ((y2 || (decide (60 < (f_.Starts.length : Int)))) || (decide (60 < (f_.Times.length : Int))))
theorem c_law04_FarRing (n : Nat) (H : Hp) (f_ : Figure) (f__v0 : Value) (hf__0 : SL H 4 R_Bolt f__v0 f_.Dome.Bolts) (f__v1 : Value) (hf__1 : SL H 1 RInt f__v1 f_.Dome.Gores) (f__v3 : Value) (hf__3 : SL H 2 R_Span f__v3 f_.Dome.Rounds) (f__v4 : Value) (hf__4 : SL H 1 RInt f__v4 f_.Dome.Widths) (f__v9 : Value) (hf__9 : SL H 1 RInt f__v9 f_.Starts) (f__v10 : Value) (hf__10 : SL H 1 RInt f__v10 f_.Times) (y : Bool) (hF : F_law04_FarRing n f_ = some y) : SC Try.prog 49 [.agg [f__v0, f__v1, .int .i64 f_.Dome.Loss, f__v3, f__v4, .int .i64 f_.Dome.Slope, .int .i64 f_.Period, .int .i64 f_.Run, .int .i64 f_.Near, f__v9, f__v10].toArray] (.bool y) H := by
 rw [F_law04_FarRing] at hF
 refine SC.of (N := 18) Try.func49 rfl rfl rfl fun w => ?_
 refine JC.seq (JC.region (by rfl) ?_)
 intro hQ
 refine JL.box (cs := [f__v0, f__v1, .int .i64 f_.Dome.Loss, f__v3, f__v4, .int .i64 f_.Dome.Slope, .int .i64 f_.Period, .int .i64 f_.Run, .int .i64 f_.Near, f__v9, f__v10]) rfl .none rfl ?_
 intro b1
 refine JL.assign .none rfl ?_
 refine JL.done hQ (JQ.go (JC.seq (JC.region (by rfl) ?_)))
 intro hQ
 refine JL.fieldAddr fo_28_0 rfl .none rfl ?_
 refine JL.loadOwn 0 az_26 rfl rfl rfl .none rfl ?_
 obtain ⟨y2, hy2, hF⟩ := bind_some hF
 refine JL.callS (c_law02_Far n H f_.Dome f__v0 hf__0 f__v1 hf__1 f__v3 hf__3 f__v4 hf__4 y2 hy2) rfl en_102 .none rfl ?_
 refine JL.move .none rfl ?_
 refine JL.cut 5 (fun f => f 1 = .pointer (some ⟨b1, 0, none⟩) ∧ f 11 = .bool (y2 || (decide (60 < (f_.Starts.length : Int))))) ?_ ?_
 ·intro hJ3
  rcases bcases y2 with hc4 | hc4
  ·skip
   refine JL.skip (.bool rfl rfl rfl hc4) rfl ?_
   refine JL.skip (.bool rfl rfl rfl hc4) rfl ?_
   refine JL.skip (.bool rfl rfl rfl hc4) rfl ?_
   refine JL.skip (.bool rfl rfl rfl hc4) rfl ?_
   refine JL.pick_t (b := y2) rfl hc4 .none rfl ?_
   exact hJ3 _ ⟨rfl, or_t hc4 rfl⟩
  ·skip
   refine JL.fieldAddr fo_28_4 rfl (.some rfl rfl rfl hc4) rfl ?_
   refine JL.loadOwn 0 az_23 rfl rfl rfl (.some rfl rfl rfl hc4) rfl ?_
   refine JL.lenSL (R := RInt) ul_23 hf__9 (.some rfl rfl rfl hc4) rfl ?_
   refine JL.bin rfl rfl rfl (.some rfl rfl rfl hc4) rfl ?_
   refine JL.pick_f (b := y2) rfl hc4 .none rfl ?_
   exact hJ3 _ ⟨rfl, or_f hc4 rfl⟩
 ·rintro f ⟨hf1, hf11⟩
  refine (JL.norm (i := 1) hf1 (JL.norm (i := 11) hf11 ?_))
  refine JL.move .none rfl ?_
  refine JL.cut 5 (fun f => f 17 = .bool ((y2 || (decide (60 < (f_.Starts.length : Int)))) || (decide (60 < (f_.Times.length : Int))))) ?_ ?_
  ·intro hJ5
   rcases bcases (y2 || (decide (60 < (f_.Starts.length : Int)))) with hc6 | hc6
   ·skip
    refine JL.skip (.bool rfl rfl rfl hc6) rfl ?_
    refine JL.skip (.bool rfl rfl rfl hc6) rfl ?_
    refine JL.skip (.bool rfl rfl rfl hc6) rfl ?_
    refine JL.skip (.bool rfl rfl rfl hc6) rfl ?_
    refine JL.pick_t (b := (y2 || (decide (60 < (f_.Starts.length : Int))))) rfl hc6 .none rfl ?_
    exact hJ5 _ (or_t hc6 rfl)
   ·skip
    refine JL.fieldAddr fo_28_5 rfl (.some rfl rfl rfl hc6) rfl ?_
    refine JL.loadOwn 0 az_23 rfl rfl rfl (.some rfl rfl rfl hc6) rfl ?_
    refine JL.lenSL (R := RInt) ul_23 hf__10 (.some rfl rfl rfl hc6) rfl ?_
    refine JL.bin rfl rfl rfl (.some rfl rfl rfl hc6) rfl ?_
    refine JL.pick_f (b := (y2 || (decide (60 < (f_.Starts.length : Int))))) rfl hc6 .none rfl ?_
    exact hJ5 _ (or_f hc6 rfl)
  ·rintro f hf17
   refine (JL.norm (i := 17) hf17 ?_)
   refine JL.assign .none rfl ?_
   refine JL.done hQ (JQ.go (JC.ret ?_))
   obtain rfl := Option.some.inj hF
   exact JQ.outS rfl (.tmp .nil) rfl
-- 104 ferrule/ferruleref04.all
def F_ref04_all_s1 (n : Nat) (l : List Int) (low : Int) (high : Int) : Int → Option (Int ⊕ (Bool ⊕ Unit))
 | i_115 => if decide (i_115 < (l.length : Int)) = true then ((geti l i_115).bind fun y120 => (if decide (y120 < low) = true then (some true) else ((geti l i_115).bind fun y133 => some (decide (high < y133))) : Option Bool).bind fun p130 => if p130 = true then (some (Sum.inr (Sum.inl false))) else (some (Sum.inl (w64 (i_115 + 1))))) else (some (Sum.inr (Sum.inr ())))
def F_ref04_all (n : Nat) (l : List Int) (many : Int) (low : Int) (high : Int) : Option Bool :=
 (loopO n (F_ref04_all_s1 n l low high) 0).bind fun r70 => match r70 with | .inl o => some o | .inr _ => some ((l.length : Int) == many)
theorem c_ref04_all (n : Nat) (H : Hp) (l : List Int) (l_v0 : Value) (hl_0 : SL H 1 RInt l_v0 l) (many : Int) (low : Int) (high : Int) (y : Bool) (hF : F_ref04_all n l many low high = some y) : SC Try.prog 104 [l_v0, .int .i64 many, .int .i64 low, .int .i64 high] (.bool y) H := by
 rw [F_ref04_all] at hF
 refine SC.of (N := 34) Try.func104 rfl rfl rfl fun w => ?_
 refine JC.seq (JC.region (by rfl) ?_)
 intro hQ
 refine JL.assign .none rfl ?_
 refine JL.done hQ (JQ.go (JC.seq (JC.seq (JC.region (by rfl) ?_))))
 intro hQ
 refine JL.assign .none rfl ?_
 refine JL.done hQ (JQ.go ?_)
 obtain ⟨r70, hlr70, hKr70⟩ := bind_some hF
 refine JC.join (fun (_ : Unit) H69 f bs gs => f 0 = l_v0 ∧ f 1 = .int .i64 many ∧ bs = [] ∧ gs = [] ∧ HSub H H69 ∧ Sum.inr () = r70) ?_ ?_
 ·skip
  refine JC.block (JC.loop hlr70 (fun (i_115 : Int) H116 f bs gs => f 0 = l_v0 ∧ f 1 = .int .i64 many ∧ f 2 = .int .i64 low ∧ f 3 = .int .i64 high ∧ f 9 = .int .i64 i_115 ∧ bs = [] ∧ gs = [] ∧ HSub H H116) ⟨rfl, rfl, rfl, rfl, rfl, rfl, rfl, (HSub.refl _)⟩ ?_)
  rintro i_115 x118 H116 f bs gs ⟨hf0, hf1, hf2, hf3, hf9, rfl, rfl, hs116⟩ hF hr117
  rw [F_ref04_all_s1] at hF
  refine (JC.norm (i := 0) hf0 (JC.norm (i := 1) hf1 (JC.norm (i := 2) hf2 (JC.norm (i := 3) hf3 (JC.norm (i := 9) hf9 ?_)))))
  refine JC.seq (JC.seq (JC.region (by rfl) ?_))
  intro hQ
  refine JL.move .none rfl ?_
  refine JL.move .none rfl ?_
  refine JL.lenSL (R := RInt) ul_23 (SL.mono RInt.mono hs116 hl_0) .none rfl ?_
  refine JL.bin rfl rfl rfl .none rfl ?_
  refine JL.done hQ (JQ.go ?_)
  rcases ite_some hF with ⟨hc119, hF⟩ | ⟨hc119, hF⟩
  ·refine JC.cond_t (b := decide (i_115 < (l.length : Int))) rfl hc119 ?_
   refine JC.skip (JQ.go (JC.seq (JC.block (JC.seq (JC.region (by rfl) ?_)))))
   intro hQ
   refine JL.move .none rfl ?_
   refine JL.move .none rfl ?_
   obtain ⟨y120, hy120, hF⟩ := bind_some hF
   refine JL.indexSL (R := RInt) sl_23 (SL.mono RInt.mono hs116 hl_0) rfl hy120 .none rfl ?_
   rintro b121 o122 cs123 hc124 - rfl
   refine JL.loadH 0 az_3 rfl hc124 rfl .none rfl ?_
   refine JL.move .none rfl ?_
   refine JL.bin rfl rfl rfl .none rfl ?_
   refine JL.move .none rfl ?_
   obtain ⟨p130, hp130, hF⟩ := bind_some hF
   refine JL.cut 7 (fun f => f 0 = l_v0 ∧ f 1 = .int .i64 many ∧ f 2 = .int .i64 low ∧ f 3 = .int .i64 high ∧ f 9 = .int .i64 i_115 ∧ f 29 = .bool p130) ?_ ?_
   ·intro hJ131
    rcases ite_some hp130 with ⟨hc132, hF⟩ | ⟨hc132, hF⟩
    ·skip
     refine JL.skip (.bool rfl rfl rfl hc132) rfl ?_
     refine JL.skip (.bool rfl rfl rfl hc132) rfl ?_
     refine JL.skip (.bool rfl rfl rfl hc132) rfl ?_
     refine JL.skip (.bool rfl rfl rfl hc132) rfl ?_
     refine JL.skip (.bool rfl rfl rfl hc132) rfl ?_
     refine JL.skip (.bool rfl rfl rfl hc132) rfl ?_
     refine JL.pick_t (b := decide (y120 < low)) rfl hc132 .none rfl ?_
     obtain rfl := Option.some.inj hF
     exact hJ131 _ ⟨rfl, rfl, rfl, rfl, rfl, rfl⟩
    ·skip
     refine JL.move (.some rfl rfl rfl hc132) rfl ?_
     refine JL.move (.some rfl rfl rfl hc132) rfl ?_
     obtain ⟨y133, hy133, hF⟩ := bind_some hF
     refine JL.indexSL (R := RInt) sl_23 (SL.mono RInt.mono hs116 hl_0) rfl hy133 (.some rfl rfl rfl hc132) rfl ?_
     rintro b134 o135 cs136 hc137 - rfl
     refine JL.loadH 0 az_3 rfl hc137 rfl (.some rfl rfl rfl hc132) rfl ?_
     refine JL.move (.some rfl rfl rfl hc132) rfl ?_
     refine JL.bin rfl rfl rfl (.some rfl rfl rfl hc132) rfl ?_
     refine JL.pick_f (b := decide (y120 < low)) rfl hc132 .none rfl ?_
     obtain rfl := Option.some.inj hF
     exact hJ131 _ ⟨rfl, rfl, rfl, rfl, rfl, rfl⟩
   ·rintro f ⟨hf0, hf1, hf2, hf3, hf9, hf29⟩
    refine (JL.norm (i := 0) hf0 (JL.norm (i := 1) hf1 (JL.norm (i := 2) hf2 (JL.norm (i := 3) hf3 (JL.norm (i := 9) hf9 (JL.norm (i := 29) hf29 ?_))))))
    refine JL.done hQ (JQ.go ?_)
    rcases ite_some hF with ⟨hc138, hF⟩ | ⟨hc138, hF⟩
    ·refine JC.cond_t (b := p130) rfl hc138 ?_
     refine JC.seq (JC.region (by rfl) ?_)
     intro hQ
     refine JL.assign .none rfl ?_
     refine JL.done hQ (JQ.go (JC.ret (JQ.ret_block (JQ.ret_then (JQ.ret_then (JQ.ret_block (JQ.ret_join (JQ.ret_then ?_))))))))
     obtain rfl := Option.some.inj hF
     have ehr117 := hr117 _ rfl
     subst ehr117
     have hF := hKr70
     try dsimp only at hF
     obtain rfl := Option.some.inj hF
     exact JQ.outS rfl (.tmp .nil) rfl
    ·refine JC.cond_f (b := p130) rfl hc138 ?_
     refine JC.skip (JQ.normal_block (JQ.go (JC.region (by rfl) ?_)))
     intro hQ
     refine JL.move .none rfl ?_
     refine JL.bin rfl rfl rfl .none rfl ?_
     refine JL.assign .none rfl ?_
     refine JL.done hQ ?_
     obtain rfl := Option.some.inj hF
     exact JQ.next rfl ⟨rfl, rfl, rfl, rfl, rfl, rfl, rfl, hs116⟩
  ·refine JC.cond_f (b := decide (i_115 < (l.length : Int))) rfl hc119 ?_
   refine JC.exit (JQ.exit_then (JQ.exit_then (JQ.exit_block ?_)))
   obtain rfl := Option.some.inj hF
   have ehr117 := hr117 _ rfl
   subst ehr117
   exact JQ.join () ⟨rfl, rfl, rfl, rfl, hs116, rfl⟩
 ·rintro _ H69 f bs gs ⟨hf0, hf1, rfl, rfl, hs69, rfl⟩
  have hF := hKr70
  try dsimp only at hF
  refine (JQ.norm (i := 0) hf0 (JQ.norm (i := 1) hf1 ?_))
  refine JQ.go (JC.seq (JC.region (by rfl) ?_))
  intro hQ
  refine JL.move .none rfl ?_
  refine JL.lenSL (R := RInt) ul_23 (SL.mono RInt.mono hs69 hl_0) .none rfl ?_
  refine JL.move .none rfl ?_
  refine JL.bin rfl rfl rfl .none rfl ?_
  refine JL.assign .none rfl ?_
  refine JL.done hQ (JQ.go (JC.ret ?_))
  obtain rfl := Option.some.inj hF
  exact JQ.outS rfl (.tmp .nil) rfl
end Go.Proofs.Yteihdclpiekmaaa
end
