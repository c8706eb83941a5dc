/-
  Printed by a program: functions of the translation as plain functions, and their contracts.
-/
import Derived.Test.YtcpnnfdhafbemaaRows
import Derived.Test.YtcpnnfdhafbemaaEngT
namespace Go.Proofs.Ytcpnnfdhafbemaa
open Go Go.RowKit Go.Dec
set_option linter.unusedVariables false
structure gusts_blown where
  lift : Int
  ribs : List Int
  shares : List Int
structure Gust where
  Force : Int
  At : Int
structure Span where
  Low : Int
  High : Int
structure Frac where
  Num : Int
  Den : Int
structure Section where
  Arm : Span
  Stretch : Span
  Base : Int
  Gear : Frac
structure Frame where
  Sections : List Section
  Low : Int
  High : Int
  Ease : Frac
  Rod : Int
  Case : Int
structure Canopy where
  Frame : Frame
  Ribs : List Span
  Shares : List Int
structure frames_sides where
  arm : Int
  stretch : Int
structure ref01_Pair where
  Arm : Int
  Stretch : Int
structure ref05_Truth where
  Lift : Int
  Strengths : List Int
structure law05_Stronger where
  Rib : Int
  By : Int
  Force : Int
structure law05_Better where
  Rib : Int
  Low : Int
  High : Int
structure law05_Left where
  Place : Int
  At : Int
structure law05_Real where
  Pair : ref01_Pair
  Strengths : List Int
  Gust : Int
def R_gusts_blown : Rl gusts_blown := fun H cs x => ∃ v1 v2 : Value, cs = [.int .i64 x.lift, v1, v2] ∧ SL H 1 RInt v1 x.ribs ∧ SL H 1 RInt v2 x.shares
theorem R_gusts_blown_mono : Mono R_gusts_blown := by
  rintro H H' h cs x ⟨v1, v2, hcs, h0, h1⟩
  exact ⟨v1, v2, hcs, SL.mono RInt.mono h h0, SL.mono RInt.mono h h1⟩
theorem R_gusts_blown_one : ∀ (H : Hp) (cs : List Value) (x : gusts_blown), R_gusts_blown H cs x → AllOne cs := by
  rintro H cs x ⟨v1, v2, rfl, h0, h1⟩
  exact (one_cons rfl (one_cons h0.one (one_cons h1.one one_nil)))
def R_Gust : Rl Gust := fun _ cs x => cs = [.int .i64 x.Force, .int .i64 x.At]
theorem R_Gust_mono : Mono R_Gust := fun _ _ _ _ _ h => h
theorem R_Gust_one : ∀ (H : Hp) (cs : List Value) (x : Gust), R_Gust H cs x → AllOne cs := by
  rintro H cs x rfl
  exact (one_cons rfl (one_cons rfl one_nil))
def R_Span : Rl Span := fun _ cs x => cs = [.int .i64 x.Low, .int .i64 x.High]
theorem R_Span_mono : Mono R_Span := fun _ _ _ _ _ h => h
theorem R_Span_one : ∀ (H : Hp) (cs : List Value) (x : Span), R_Span H cs x → AllOne cs := by
  rintro H cs x rfl
  exact (one_cons rfl (one_cons rfl one_nil))
def R_Frac : Rl Frac := fun _ cs x => cs = [.int .i64 x.Num, .int .i64 x.Den]
theorem R_Frac_mono : Mono R_Frac := fun _ _ _ _ _ h => h
theorem R_Frac_one : ∀ (H : Hp) (cs : List Value) (x : Frac), R_Frac H cs x → AllOne cs := by
  rintro H cs x rfl
  exact (one_cons rfl (one_cons rfl one_nil))
def R_Section : Rl Section := fun _ cs x => cs = [.int .i64 x.Arm.Low, .int .i64 x.Arm.High, .int .i64 x.Stretch.Low, .int .i64 x.Stretch.High, .int .i64 x.Base, .int .i64 x.Gear.Num, .int .i64 x.Gear.Den]
theorem R_Section_mono : Mono R_Section := fun _ _ _ _ _ h => h
theorem R_Section_one : ∀ (H : Hp) (cs : List Value) (x : Section), R_Section H cs x → AllOne cs := by
  rintro H cs x rfl
  exact (one_cons rfl (one_cons rfl (one_cons rfl (one_cons rfl (one_cons rfl (one_cons rfl (one_cons rfl one_nil)))))))
def R_Frame : Rl Frame := fun H cs x => ∃ v0 : Value, cs = [v0, .int .i64 x.Low, .int .i64 x.High, .int .i64 x.Ease.Num, .int .i64 x.Ease.Den, .int .i64 x.Rod, .int .i64 x.Case] ∧ SL H 7 R_Section v0 x.Sections
theorem R_Frame_mono : Mono R_Frame := by
  rintro H H' h cs x ⟨v0, hcs, h0⟩
  exact ⟨v0, hcs, SL.mono R_Section_mono h h0⟩
theorem R_Frame_one : ∀ (H : Hp) (cs : List Value) (x : Frame), R_Frame H cs x → AllOne cs := by
  rintro H cs x ⟨v0, rfl, h0⟩
  exact (one_cons h0.one (one_cons rfl (one_cons rfl (one_cons rfl (one_cons rfl (one_cons rfl (one_cons rfl one_nil)))))))
def R_Canopy : Rl Canopy := fun H cs x => ∃ v0 v7 v8 : Value, cs = [v0, .int .i64 x.Frame.Low, .int .i64 x.Frame.High, .int .i64 x.Frame.Ease.Num, .int .i64 x.Frame.Ease.Den, .int .i64 x.Frame.Rod, .int .i64 x.Frame.Case, v7, v8] ∧ SL H 7 R_Section v0 x.Frame.Sections ∧ SL H 2 R_Span v7 x.Ribs ∧ SL H 1 RInt v8 x.Shares
theorem R_Canopy_mono : Mono R_Canopy := by
  rintro H H' h cs x ⟨v0, v7, v8, hcs, h0, h1, h2⟩
  exact ⟨v0, v7, v8, hcs, SL.mono R_Section_mono h h0, SL.mono R_Span_mono h h1, SL.mono RInt.mono h h2⟩
theorem R_Canopy_one : ∀ (H : Hp) (cs : List Value) (x : Canopy), R_Canopy H cs x → AllOne cs := by
  rintro H cs x ⟨v0, v7, v8, rfl, h0, h1, h2⟩
  exact (one_cons h0.one (one_cons rfl (one_cons rfl (one_cons rfl (one_cons rfl (one_cons rfl (one_cons rfl (one_cons h1.one (one_cons h2.one one_nil)))))))))
def R_frames_sides : Rl frames_sides := fun _ cs x => cs = [.int .i64 x.arm, .int .i64 x.stretch]
theorem R_frames_sides_mono : Mono R_frames_sides := fun _ _ _ _ _ h => h
theorem R_frames_sides_one : ∀ (H : Hp) (cs : List Value) (x : frames_sides), R_frames_sides H cs x → AllOne cs := by
  rintro H cs x rfl
  exact (one_cons rfl (one_cons rfl one_nil))
def R_ref01_Pair : Rl ref01_Pair := fun _ cs x => cs = [.int .i64 x.Arm, .int .i64 x.Stretch]
theorem R_ref01_Pair_mono : Mono R_ref01_Pair := fun _ _ _ _ _ h => h
theorem R_ref01_Pair_one : ∀ (H : Hp) (cs : List Value) (x : ref01_Pair), R_ref01_Pair H cs x → AllOne cs := by
  rintro H cs x rfl
  exact (one_cons rfl (one_cons rfl one_nil))
def R_ref05_Truth : Rl ref05_Truth := fun H cs x => ∃ v1 : Value, cs = [.int .i64 x.Lift, v1] ∧ SL H 1 RInt v1 x.Strengths
theorem R_ref05_Truth_mono : Mono R_ref05_Truth := by
  rintro H H' h cs x ⟨v1, hcs, h0⟩
  exact ⟨v1, hcs, SL.mono RInt.mono h h0⟩
theorem R_ref05_Truth_one : ∀ (H : Hp) (cs : List Value) (x : ref05_Truth), R_ref05_Truth H cs x → AllOne cs := by
  rintro H cs x ⟨v1, rfl, h0⟩
  exact (one_cons rfl (one_cons h0.one one_nil))
def R_law05_Stronger : Rl law05_Stronger := fun _ cs x => cs = [.int .i64 x.Rib, .int .i64 x.By, .int .i64 x.Force]
theorem R_law05_Stronger_mono : Mono R_law05_Stronger := fun _ _ _ _ _ h => h
theorem R_law05_Stronger_one : ∀ (H : Hp) (cs : List Value) (x : law05_Stronger), R_law05_Stronger H cs x → AllOne cs := by
  rintro H cs x rfl
  exact (one_cons rfl (one_cons rfl (one_cons rfl one_nil)))
def R_law05_Better : Rl law05_Better := fun _ cs x => cs = [.int .i64 x.Rib, .int .i64 x.Low, .int .i64 x.High]
theorem R_law05_Better_mono : Mono R_law05_Better := fun _ _ _ _ _ h => h
theorem R_law05_Better_one : ∀ (H : Hp) (cs : List Value) (x : law05_Better), R_law05_Better H cs x → AllOne cs := by
  rintro H cs x rfl
  exact (one_cons rfl (one_cons rfl (one_cons rfl one_nil)))
def R_law05_Left : Rl law05_Left := fun _ cs x => cs = [.int .i64 x.Place, .int .i64 x.At]
theorem R_law05_Left_mono : Mono R_law05_Left := fun _ _ _ _ _ h => h
theorem R_law05_Left_one : ∀ (H : Hp) (cs : List Value) (x : law05_Left), R_law05_Left H cs x → AllOne cs := by
  rintro H cs x rfl
  exact (one_cons rfl (one_cons rfl one_nil))
def R_law05_Real : Rl law05_Real := fun H cs x => ∃ v2 : Value, cs = [.int .i64 x.Pair.Arm, .int .i64 x.Pair.Stretch, v2, .int .i64 x.Gust] ∧ SL H 1 RInt v2 x.Strengths
theorem R_law05_Real_mono : Mono R_law05_Real := by
  rintro H H' h cs x ⟨v2, hcs, h0⟩
  exact ⟨v2, hcs, SL.mono RInt.mono h h0⟩
theorem R_law05_Real_one : ∀ (H : Hp) (cs : List Value) (x : law05_Real), R_law05_Real H cs x → AllOne cs := by
  rintro H cs x ⟨v2, rfl, h0⟩
  exact (one_cons rfl (one_cons rfl (one_cons h0.one (one_cons rfl one_nil))))
theorem fo_87_2 : fieldOff Try.prog 87 2 = some 2 := by kernel_rfl
theorem az_28 : aggsz Try.prog 28 = some (false, 1) := by kernel_rfl
theorem ul_28 : Try.prog.underlying 28 = some (.slice 3) := by kernel_rfl
theorem fo_32_0 : fieldOff Try.prog 32 0 = some 0 := by kernel_rfl
theorem az_3 : aggsz Try.prog 3 = some (false, 1) := by kernel_rfl
theorem fo_87_0 : fieldOff Try.prog 87 0 = some 0 := by kernel_rfl
theorem fo_32_1 : fieldOff Try.prog 32 1 = some 1 := by kernel_rfl
theorem sl_28 : slT Try.prog 28 = some (3, 1) := by kernel_rfl
theorem mo_ : Try.prog.follows .mixedOrders = true := by kernel_rfl
theorem az_87 : aggsz Try.prog 87 = some (true, 3) := by kernel_rfl
theorem az_32 : aggsz Try.prog 32 = some (true, 2) := by kernel_rfl
theorem en_58 : Ent Try.prog 58 := enters_of Try.func58 (by kernel_rfl) rfl
theorem fo_87_1 : fieldOff Try.prog 87 1 = some 1 := by kernel_rfl
theorem ar_144 : arrT Try.prog 144 = some (3, 2) := by kernel_rfl
theorem fo_30_0 : fieldOff Try.prog 30 0 = some 0 := by kernel_rfl
theorem fo_26_0 : fieldOff Try.prog 26 0 = some 0 := by kernel_rfl
theorem az_22 : aggsz Try.prog 22 = some (false, 1) := by kernel_rfl
theorem ul_22 : Try.prog.underlying 22 = some (.slice 118) := by kernel_rfl
theorem fo_30_1 : fieldOff Try.prog 30 1 = some 7 := by kernel_rfl
theorem az_27 : aggsz Try.prog 27 = some (false, 1) := by kernel_rfl
theorem ul_27 : Try.prog.underlying 27 = some (.slice 38) := by kernel_rfl
theorem fo_30_2 : fieldOff Try.prog 30 2 = some 8 := by kernel_rfl
theorem fo_38_0 : fieldOff Try.prog 38 0 = some 0 := by kernel_rfl
theorem fo_38_1 : fieldOff Try.prog 38 1 = some 1 := by kernel_rfl
theorem en_79 : Ent Try.prog 79 := enters_of Try.func79 (by kernel_rfl) rfl
theorem fo_24_1 : fieldOff Try.prog 24 1 = some 1 := by kernel_rfl
theorem fo_24_0 : fieldOff Try.prog 24 0 = some 0 := by kernel_rfl
theorem sl_22 : slT Try.prog 22 = some (118, 7) := by kernel_rfl
theorem az_118 : aggsz Try.prog 118 = some (true, 7) := by kernel_rfl
theorem ze_118 : zeroL Try.prog 118 = some [.int .i64 0, .int .i64 0, .int .i64 0, .int .i64 0, .int .i64 0, .int .i64 0, .int .i64 0] := by kernel_rfl
theorem fo_118_0 : fieldOff Try.prog 118 0 = some 0 := by kernel_rfl
theorem az_38 : aggsz Try.prog 38 = some (true, 2) := by kernel_rfl
theorem en_78 : Ent Try.prog 78 := enters_of Try.func78 (by kernel_rfl) rfl
theorem fo_118_1 : fieldOff Try.prog 118 1 = some 2 := by kernel_rfl
theorem fo_118_2 : fieldOff Try.prog 118 2 = some 4 := by kernel_rfl
theorem fo_118_3 : fieldOff Try.prog 118 3 = some 5 := by kernel_rfl
theorem az_24 : aggsz Try.prog 24 = some (true, 2) := by kernel_rfl
theorem en_80 : Ent Try.prog 80 := enters_of Try.func80 (by kernel_rfl) rfl
theorem fo_26_1 : fieldOff Try.prog 26 1 = some 1 := by kernel_rfl
theorem fo_26_2 : fieldOff Try.prog 26 2 = some 2 := by kernel_rfl
theorem fo_26_3 : fieldOff Try.prog 26 3 = some 3 := by kernel_rfl
theorem fo_26_4 : fieldOff Try.prog 26 4 = some 5 := by kernel_rfl
theorem fo_26_5 : fieldOff Try.prog 26 5 = some 6 := by kernel_rfl
theorem az_26 : aggsz Try.prog 26 = some (true, 7) := by kernel_rfl
theorem en_54 : Ent Try.prog 54 := enters_of Try.func54 (by kernel_rfl) rfl
theorem en_55 : Ent Try.prog 55 := enters_of Try.func55 (by kernel_rfl) rfl
theorem sl_27 : slT Try.prog 27 = some (38, 2) := by kernel_rfl
theorem ul_34 : Try.prog.underlying 34 = some (.slice 32) := by kernel_rfl
theorem sl_34 : slT Try.prog 34 = some (32, 2) := by kernel_rfl
theorem az_30 : aggsz Try.prog 30 = some (true, 9) := by kernel_rfl
theorem en_28 : Ent Try.prog 28 := enters_of Try.func28 (by kernel_rfl) rfl
theorem en_16 : Ent Try.prog 16 := enters_of Try.func16 (by kernel_rfl) rfl
theorem en_18 : Ent Try.prog 18 := enters_of Try.func18 (by kernel_rfl) rfl
theorem en_41 : Ent Try.prog 41 := enters_of Try.func41 (by kernel_rfl) rfl
theorem ze_26 : zeroL Try.prog 26 = some [.slice none 0 0, .int .i64 0, .int .i64 0, .int .i64 0, .int .i64 0, .int .i64 0, .int .i64 0] := by kernel_rfl
theorem ze_30 : zeroL Try.prog 30 = some [.slice none 0 0, .int .i64 0, .int .i64 0, .int .i64 0, .int .i64 0, .int .i64 0, .int .i64 0, .slice none 0 0, .slice none 0 0] := by kernel_rfl
theorem en_67 : Ent Try.prog 67 := enters_of Try.func67 (by kernel_rfl) rfl
theorem en_49 : Ent Try.prog 49 := enters_of Try.func49 (by kernel_rfl) rfl
theorem en_73 : Ent Try.prog 73 := enters_of Try.func73 (by kernel_rfl) rfl
theorem en_72 : Ent Try.prog 72 := enters_of Try.func72 (by kernel_rfl) rfl
theorem en_74 : Ent Try.prog 74 := enters_of Try.func74 (by kernel_rfl) rfl
theorem en_90 : Ent Try.prog 90 := enters_of Try.func90 (by kernel_rfl) rfl
theorem en_71 : Ent Try.prog 71 := enters_of Try.func71 (by kernel_rfl) rfl
theorem en_75 : Ent Try.prog 75 := enters_of Try.func75 (by kernel_rfl) rfl
theorem en_76 : Ent Try.prog 76 := enters_of Try.func76 (by kernel_rfl) rfl
theorem en_77 : Ent Try.prog 77 := enters_of Try.func77 (by kernel_rfl) rfl
theorem en_51 : Ent Try.prog 51 := enters_of Try.func51 (by kernel_rfl) rfl
theorem en_48 : Ent Try.prog 48 := enters_of Try.func48 (by kernel_rfl) rfl
theorem en_52 : Ent Try.prog 52 := enters_of Try.func52 (by kernel_rfl) rfl
theorem en_50 : Ent Try.prog 50 := enters_of Try.func50 (by kernel_rfl) rfl
theorem en_53 : Ent Try.prog 53 := enters_of Try.func53 (by kernel_rfl) rfl
theorem ze_24 : zeroL Try.prog 24 = some [.int .i64 0, .int .i64 0] := by kernel_rfl
theorem fo_140_0 : fieldOff Try.prog 140 0 = some 0 := by kernel_rfl
theorem fo_140_1 : fieldOff Try.prog 140 1 = some 1 := by kernel_rfl
theorem en_99 : Ent Try.prog 99 := enters_of Try.func99 (by kernel_rfl) rfl
theorem en_98 : Ent Try.prog 98 := enters_of Try.func98 (by kernel_rfl) rfl
theorem en_91 : Ent Try.prog 91 := enters_of Try.func91 (by kernel_rfl) rfl
theorem en_92 : Ent Try.prog 92 := enters_of Try.func92 (by kernel_rfl) rfl
theorem ze_3 : zeroL Try.prog 3 = some [.int .i64 0] := by kernel_rfl
theorem en_93 : Ent Try.prog 93 := enters_of Try.func93 (by kernel_rfl) rfl
theorem ze_140 : zeroL Try.prog 140 = some [.int .i64 0, .int .i64 0] := by kernel_rfl
theorem az_140 : aggsz Try.prog 140 = some (true, 2) := by kernel_rfl
theorem en_94 : Ent Try.prog 94 := enters_of Try.func94 (by kernel_rfl) rfl
theorem en_95 : Ent Try.prog 95 := enters_of Try.func95 (by kernel_rfl) rfl
theorem en_97 : Ent Try.prog 97 := enters_of Try.func97 (by kernel_rfl) rfl
theorem en_96 : Ent Try.prog 96 := enters_of Try.func96 (by kernel_rfl) rfl
theorem en_83 : Ent Try.prog 83 := enters_of Try.func83 (by kernel_rfl) rfl
theorem ze_38 : zeroL Try.prog 38 = some [.int .i64 0, .int .i64 0] := by kernel_rfl
theorem en_81 : Ent Try.prog 81 := enters_of Try.func81 (by kernel_rfl) rfl
theorem en_82 : Ent Try.prog 82 := enters_of Try.func82 (by kernel_rfl) rfl
theorem en_17 : Ent Try.prog 17 := enters_of Try.func17 (by kernel_rfl) rfl
theorem en_56 : Ent Try.prog 56 := enters_of Try.func56 (by kernel_rfl) rfl
theorem en_87 : Ent Try.prog 87 := enters_of Try.func87 (by kernel_rfl) rfl
theorem en_68 : Ent Try.prog 68 := enters_of Try.func68 (by kernel_rfl) rfl
theorem en_69 : Ent Try.prog 69 := enters_of Try.func69 (by kernel_rfl) rfl
theorem ze_87 : zeroL Try.prog 87 = some [.int .i64 0, .slice none 0 0, .slice none 0 0] := by kernel_rfl
theorem ap_28 : apT Try.prog 28 = some (3, 1, 8) := by kernel_rfl
theorem ze_91 : zeroL Try.prog 91 = some [.int .u16 0] := by kernel_rfl
theorem en_70 : Ent Try.prog 70 := enters_of Try.func70 (by kernel_rfl) rfl
theorem az_91 : aggsz Try.prog 91 = some (false, 1) := by kernel_rfl
theorem en_88 : Ent Try.prog 88 := enters_of Try.func88 (by kernel_rfl) rfl
theorem en_44 : Ent Try.prog 44 := enters_of Try.func44 (by kernel_rfl) rfl
theorem en_45 : Ent Try.prog 45 := enters_of Try.func45 (by kernel_rfl) rfl
theorem en_46 : Ent Try.prog 46 := enters_of Try.func46 (by kernel_rfl) rfl
theorem en_47 : Ent Try.prog 47 := enters_of Try.func47 (by kernel_rfl) rfl
theorem en_62 : Ent Try.prog 62 := enters_of Try.func62 (by kernel_rfl) rfl
theorem ze_32 : zeroL Try.prog 32 = some [.int .i64 0, .int .i64 0] := by kernel_rfl
theorem en_42 : Ent Try.prog 42 := enters_of Try.func42 (by kernel_rfl) rfl
theorem en_19 : Ent Try.prog 19 := enters_of Try.func19 (by kernel_rfl) rfl
theorem en_14 : Ent Try.prog 14 := enters_of Try.func14 (by kernel_rfl) rfl
theorem en_30 : Ent Try.prog 30 := enters_of Try.func30 (by kernel_rfl) rfl
theorem en_31 : Ent Try.prog 31 := enters_of Try.func31 (by kernel_rfl) rfl
theorem eqa_38 (a0 a1 b0 b1 : Int) (w : World) : (Op.equal 38 (.agg [.int .i64 a0, .int .i64 a1].toArray) (.agg [.int .i64 b0, .int .i64 b1].toArray)).run Try.prog w = .ok ((a0 == b0) && (a1 == b1)) w := by
  have h := run_equalIn_struct (P := Try.prog) w 9999 38 #[.int .i64 a0, .int .i64 a1] #[.int .i64 b0, .int .i64 b1] (by kernel_rfl) (by kernel_rfl)
  have h2 : (Op.eqFields 9999 #[.int .i64 a0, .int .i64 a1] #[.int .i64 b0, .int .i64 b1] (Try.prog.fieldsOf 38).toList).run Try.prog w = .ok ((a0 == b0) && (a1 == b1)) w := by
    cases e0 : (a0 == b0)
    · simp [go_sem, Program.fieldsOf, e0]
    cases e1 : (a1 == b1)
    · simp [go_sem, Program.fieldsOf, e0, e1]
    simp [go_sem, Program.fieldsOf, e0, e1]
  exact h.trans h2
theorem eqg_38 : Try.prog.eqGuardType Try.prog.depth 38 = false := by kernel_rfl
theorem en_25 : Ent Try.prog 25 := enters_of Try.func25 (by kernel_rfl) rfl
theorem ap_22 : apT Try.prog 22 = some (118, 7, 56) := by kernel_rfl
theorem en_43 : Ent Try.prog 43 := enters_of Try.func43 (by kernel_rfl) rfl
theorem ap_27 : apT Try.prog 27 = some (38, 2, 16) := by kernel_rfl
theorem en_11 : Ent Try.prog 11 := enters_of Try.func11 (by kernel_rfl) rfl
theorem en_12 : Ent Try.prog 12 := enters_of Try.func12 (by kernel_rfl) rfl
theorem en_13 : Ent Try.prog 13 := enters_of Try.func13 (by kernel_rfl) rfl
theorem en_15 : Ent Try.prog 15 := enters_of Try.func15 (by kernel_rfl) rfl
theorem ap_128 : apT Try.prog 128 = some (72, 2, 16) := by kernel_rfl
theorem fo_72_0 : fieldOff Try.prog 72 0 = some 0 := by kernel_rfl
theorem fo_72_1 : fieldOff Try.prog 72 1 = some 1 := by kernel_rfl
theorem en_86 : Ent Try.prog 86 := enters_of Try.func86 (by kernel_rfl) rfl
theorem az_72 : aggsz Try.prog 72 = some (true, 2) := by kernel_rfl
theorem en_65 : Ent Try.prog 65 := enters_of Try.func65 (by kernel_rfl) rfl
theorem en_84 : Ent Try.prog 84 := enters_of Try.func84 (by kernel_rfl) rfl
theorem ul_128 : Try.prog.underlying 128 = some (.slice 72) := by kernel_rfl
theorem sl_128 : slT Try.prog 128 = some (72, 2) := by kernel_rfl
theorem en_37 : Ent Try.prog 37 := enters_of Try.func37 (by kernel_rfl) rfl
theorem en_57 : Ent Try.prog 57 := enters_of Try.func57 (by kernel_rfl) rfl
theorem en_59 : Ent Try.prog 59 := enters_of Try.func59 (by kernel_rfl) rfl
theorem en_39 : Ent Try.prog 39 := enters_of Try.func39 (by kernel_rfl) rfl
theorem ze_78 : zeroL Try.prog 78 = some [.int .i64 0, .slice none 0 0] := by kernel_rfl
theorem fo_78_0 : fieldOff Try.prog 78 0 = some 0 := by kernel_rfl
theorem fo_78_1 : fieldOff Try.prog 78 1 = some 1 := by kernel_rfl
theorem az_78 : aggsz Try.prog 78 = some (true, 2) := by kernel_rfl
theorem sl_110 : slT Try.prog 110 = some (4, 1) := by kernel_rfl
theorem az_4 : aggsz Try.prog 4 = some (false, 1) := by kernel_rfl
theorem ap_110 : apT Try.prog 110 = some (4, 1, 1) := by kernel_rfl
theorem ze_4 : zeroL Try.prog 4 = some [.bool false] := by kernel_rfl
theorem en_66 : Ent Try.prog 66 := enters_of Try.func66 (by kernel_rfl) rfl
theorem en_60 : Ent Try.prog 60 := enters_of Try.func60 (by kernel_rfl) rfl
theorem en_38 : Ent Try.prog 38 := enters_of Try.func38 (by kernel_rfl) rfl
theorem en_61 : Ent Try.prog 61 := enters_of Try.func61 (by kernel_rfl) rfl
theorem en_20 : Ent Try.prog 20 := enters_of Try.func20 (by kernel_rfl) rfl
theorem en_21 : Ent Try.prog 21 := enters_of Try.func21 (by kernel_rfl) rfl
theorem en_22 : Ent Try.prog 22 := enters_of Try.func22 (by kernel_rfl) rfl
theorem en_23 : Ent Try.prog 23 := enters_of Try.func23 (by kernel_rfl) rfl
theorem en_24 : Ent Try.prog 24 := enters_of Try.func24 (by kernel_rfl) rfl
theorem en_26 : Ent Try.prog 26 := enters_of Try.func26 (by kernel_rfl) rfl
theorem ub_4 : Try.prog.underlying 4 = some .bool := by kernel_rfl
theorem en_27 : Ent Try.prog 27 := enters_of Try.func27 (by kernel_rfl) rfl
theorem en_85 : Ent Try.prog 85 := enters_of Try.func85 (by kernel_rfl) rfl
theorem en_63 : Ent Try.prog 63 := enters_of Try.func63 (by kernel_rfl) rfl
theorem fo_56_0 : fieldOff Try.prog 56 0 = some 0 := by kernel_rfl
theorem fo_56_1 : fieldOff Try.prog 56 1 = some 1 := by kernel_rfl
theorem fo_56_2 : fieldOff Try.prog 56 2 = some 2 := by kernel_rfl
theorem en_29 : Ent Try.prog 29 := enters_of Try.func29 (by kernel_rfl) rfl
theorem fo_63_0 : fieldOff Try.prog 63 0 = some 0 := by kernel_rfl
theorem fo_63_1 : fieldOff Try.prog 63 1 = some 1 := by kernel_rfl
theorem fo_63_2 : fieldOff Try.prog 63 2 = some 2 := by kernel_rfl
theorem en_40 : Ent Try.prog 40 := enters_of Try.func40 (by kernel_rfl) rfl
theorem ap_34 : apT Try.prog 34 = some (32, 2, 16) := by kernel_rfl
theorem en_32 : Ent Try.prog 32 := enters_of Try.func32 (by kernel_rfl) rfl
theorem en_33 : Ent Try.prog 33 := enters_of Try.func33 (by kernel_rfl) rfl
theorem en_34 : Ent Try.prog 34 := enters_of Try.func34 (by kernel_rfl) rfl
theorem en_35 : Ent Try.prog 35 := enters_of Try.func35 (by kernel_rfl) rfl
theorem fo_69_1 : fieldOff Try.prog 69 1 = some 1 := by kernel_rfl
theorem fo_69_0 : fieldOff Try.prog 69 0 = some 0 := by kernel_rfl
theorem en_64 : Ent Try.prog 64 := enters_of Try.func64 (by kernel_rfl) rfl
theorem fo_74_0 : fieldOff Try.prog 74 0 = some 0 := by kernel_rfl
theorem fo_74_1 : fieldOff Try.prog 74 1 = some 2 := by kernel_rfl
theorem en_36 : Ent Try.prog 36 := enters_of Try.func36 (by kernel_rfl) rfl
theorem fo_74_2 : fieldOff Try.prog 74 2 = some 3 := by kernel_rfl
end Go.Proofs.Ytcpnnfdhafbemaa
