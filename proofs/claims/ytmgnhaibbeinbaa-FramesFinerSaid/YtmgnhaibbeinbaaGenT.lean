/-
  Printed by a program: functions of the translation as plain functions, and their contracts.
-/
import Derived.Test.YtmgnhaibbeinbaaRows
import Derived.Test.YtmgnhaibbeinbaaEngK
namespace Go.Proofs.Ytmgnhaibbeinbaa
open Go Go.RowKit Go.Dec
set_option linter.unusedVariables false
structure Span where
  Low : Int
  High : Int
structure Frac where
  Num : Int
  Den : Int
structure Section where
  Arm : Span
  Stretch : Span
  Base : Int
  Gear : Frac
structure Frame where
  Sections : List Section
  Low : Int
  High : Int
  Ease : Frac
  Rod : Int
  Case : Int
structure frames_sides where
  arm : Int
  stretch : Int
structure ref01_Pair where
  Arm : Int
  Stretch : Int
structure law01_Ask where
  Section : Int
  R : Int
structure law01_Finer where
  Section : Int
  ArmLow : Int
  ArmHigh : Int
  RodLow : Int
  RodHigh : Int
def R_Span : Rl Span := fun _ cs x => cs = [.int .i64 x.Low, .int .i64 x.High]
theorem R_Span_mono : Mono R_Span := fun _ _ _ _ _ h => h
theorem R_Span_one : ∀ (H : Hp) (cs : List Value) (x : Span), R_Span H cs x → AllOne cs := by
  rintro H cs x rfl
  exact (one_cons rfl (one_cons rfl one_nil))
def R_Frac : Rl Frac := fun _ cs x => cs = [.int .i64 x.Num, .int .i64 x.Den]
theorem R_Frac_mono : Mono R_Frac := fun _ _ _ _ _ h => h
theorem R_Frac_one : ∀ (H : Hp) (cs : List Value) (x : Frac), R_Frac H cs x → AllOne cs := by
  rintro H cs x rfl
  exact (one_cons rfl (one_cons rfl one_nil))
def R_Section : Rl Section := fun _ cs x => cs = [.int .i64 x.Arm.Low, .int .i64 x.Arm.High, .int .i64 x.Stretch.Low, .int .i64 x.Stretch.High, .int .i64 x.Base, .int .i64 x.Gear.Num, .int .i64 x.Gear.Den]
theorem R_Section_mono : Mono R_Section := fun _ _ _ _ _ h => h
theorem R_Section_one : ∀ (H : Hp) (cs : List Value) (x : Section), R_Section H cs x → AllOne cs := by
  rintro H cs x rfl
  exact (one_cons rfl (one_cons rfl (one_cons rfl (one_cons rfl (one_cons rfl (one_cons rfl (one_cons rfl one_nil)))))))
def R_Frame : Rl Frame := fun H cs x => ∃ v0 : Value, cs = [v0, .int .i64 x.Low, .int .i64 x.High, .int .i64 x.Ease.Num, .int .i64 x.Ease.Den, .int .i64 x.Rod, .int .i64 x.Case] ∧ SL H 7 R_Section v0 x.Sections
theorem R_Frame_mono : Mono R_Frame := by
  rintro H H' h cs x ⟨v0, hcs, h0⟩
  exact ⟨v0, hcs, SL.mono R_Section_mono h h0⟩
theorem R_Frame_one : ∀ (H : Hp) (cs : List Value) (x : Frame), R_Frame H cs x → AllOne cs := by
  rintro H cs x ⟨v0, rfl, h0⟩
  exact (one_cons h0.one (one_cons rfl (one_cons rfl (one_cons rfl (one_cons rfl (one_cons rfl (one_cons rfl one_nil)))))))
def R_frames_sides : Rl frames_sides := fun _ cs x => cs = [.int .i64 x.arm, .int .i64 x.stretch]
theorem R_frames_sides_mono : Mono R_frames_sides := fun _ _ _ _ _ h => h
theorem R_frames_sides_one : ∀ (H : Hp) (cs : List Value) (x : frames_sides), R_frames_sides H cs x → AllOne cs := by
  rintro H cs x rfl
  exact (one_cons rfl (one_cons rfl one_nil))
def R_ref01_Pair : Rl ref01_Pair := fun _ cs x => cs = [.int .i64 x.Arm, .int .i64 x.Stretch]
theorem R_ref01_Pair_mono : Mono R_ref01_Pair := fun _ _ _ _ _ h => h
theorem R_ref01_Pair_one : ∀ (H : Hp) (cs : List Value) (x : ref01_Pair), R_ref01_Pair H cs x → AllOne cs := by
  rintro H cs x rfl
  exact (one_cons rfl (one_cons rfl one_nil))
def R_law01_Ask : Rl law01_Ask := fun _ cs x => cs = [.int .i64 x.Section, .int .i64 x.R]
theorem R_law01_Ask_mono : Mono R_law01_Ask := fun _ _ _ _ _ h => h
theorem R_law01_Ask_one : ∀ (H : Hp) (cs : List Value) (x : law01_Ask), R_law01_Ask H cs x → AllOne cs := by
  rintro H cs x rfl
  exact (one_cons rfl (one_cons rfl one_nil))
def R_law01_Finer : Rl law01_Finer := fun _ cs x => cs = [.int .i64 x.Section, .int .i64 x.ArmLow, .int .i64 x.ArmHigh, .int .i64 x.RodLow, .int .i64 x.RodHigh]
theorem R_law01_Finer_mono : Mono R_law01_Finer := fun _ _ _ _ _ h => h
theorem R_law01_Finer_one : ∀ (H : Hp) (cs : List Value) (x : law01_Finer), R_law01_Finer H cs x → AllOne cs := by
  rintro H cs x rfl
  exact (one_cons rfl (one_cons rfl (one_cons rfl (one_cons rfl (one_cons rfl one_nil)))))
theorem fo_59_0 : fieldOff Try.prog 59 0 = some 0 := by kernel_rfl
theorem az_3 : aggsz Try.prog 3 = some (false, 1) := by kernel_rfl
theorem fo_59_1 : fieldOff Try.prog 59 1 = some 1 := by kernel_rfl
theorem en_54 : Ent Try.prog 54 := enters_of Try.func54 (by kernel_rfl) rfl
theorem fo_24_1 : fieldOff Try.prog 24 1 = some 1 := by kernel_rfl
theorem fo_24_0 : fieldOff Try.prog 24 0 = some 0 := by kernel_rfl
theorem fo_26_0 : fieldOff Try.prog 26 0 = some 0 := by kernel_rfl
theorem az_22 : aggsz Try.prog 22 = some (false, 1) := by kernel_rfl
theorem ul_22 : Try.prog.underlying 22 = some (.slice 61) := by kernel_rfl
theorem sl_22 : slT Try.prog 22 = some (61, 7) := by kernel_rfl
theorem az_61 : aggsz Try.prog 61 = some (true, 7) := by kernel_rfl
theorem ze_61 : zeroL Try.prog 61 = some [.int .i64 0, .int .i64 0, .int .i64 0, .int .i64 0, .int .i64 0, .int .i64 0, .int .i64 0] := by kernel_rfl
theorem fo_61_0 : fieldOff Try.prog 61 0 = some 0 := by kernel_rfl
theorem az_59 : aggsz Try.prog 59 = some (true, 2) := by kernel_rfl
theorem en_53 : Ent Try.prog 53 := enters_of Try.func53 (by kernel_rfl) rfl
theorem fo_61_1 : fieldOff Try.prog 61 1 = some 2 := by kernel_rfl
theorem fo_61_2 : fieldOff Try.prog 61 2 = some 4 := by kernel_rfl
theorem fo_61_3 : fieldOff Try.prog 61 3 = some 5 := by kernel_rfl
theorem az_24 : aggsz Try.prog 24 = some (true, 2) := by kernel_rfl
theorem en_55 : Ent Try.prog 55 := enters_of Try.func55 (by kernel_rfl) rfl
theorem fo_26_1 : fieldOff Try.prog 26 1 = some 1 := by kernel_rfl
theorem fo_26_2 : fieldOff Try.prog 26 2 = some 2 := by kernel_rfl
theorem fo_26_3 : fieldOff Try.prog 26 3 = some 3 := by kernel_rfl
theorem fo_26_4 : fieldOff Try.prog 26 4 = some 5 := by kernel_rfl
theorem fo_26_5 : fieldOff Try.prog 26 5 = some 6 := by kernel_rfl
theorem az_26 : aggsz Try.prog 26 = some (true, 7) := by kernel_rfl
theorem en_15 : Ent Try.prog 15 := enters_of Try.func15 (by kernel_rfl) rfl
theorem ze_26 : zeroL Try.prog 26 = some [.slice none 0 0, .int .i64 0, .int .i64 0, .int .i64 0, .int .i64 0, .int .i64 0, .int .i64 0] := by kernel_rfl
theorem en_50 : Ent Try.prog 50 := enters_of Try.func50 (by kernel_rfl) rfl
theorem en_49 : Ent Try.prog 49 := enters_of Try.func49 (by kernel_rfl) rfl
theorem en_51 : Ent Try.prog 51 := enters_of Try.func51 (by kernel_rfl) rfl
theorem en_74 : Ent Try.prog 74 := enters_of Try.func74 (by kernel_rfl) rfl
theorem en_48 : Ent Try.prog 48 := enters_of Try.func48 (by kernel_rfl) rfl
theorem en_52 : Ent Try.prog 52 := enters_of Try.func52 (by kernel_rfl) rfl
theorem en_14 : Ent Try.prog 14 := enters_of Try.func14 (by kernel_rfl) rfl
theorem mo_ : Try.prog.follows .mixedOrders = true := by kernel_rfl
theorem en_56 : Ent Try.prog 56 := enters_of Try.func56 (by kernel_rfl) rfl
theorem en_57 : Ent Try.prog 57 := enters_of Try.func57 (by kernel_rfl) rfl
theorem ze_24 : zeroL Try.prog 24 = some [.int .i64 0, .int .i64 0] := by kernel_rfl
theorem fo_82_0 : fieldOff Try.prog 82 0 = some 0 := by kernel_rfl
theorem fo_82_1 : fieldOff Try.prog 82 1 = some 1 := by kernel_rfl
theorem en_81 : Ent Try.prog 81 := enters_of Try.func81 (by kernel_rfl) rfl
theorem en_76 : Ent Try.prog 76 := enters_of Try.func76 (by kernel_rfl) rfl
theorem ze_3 : zeroL Try.prog 3 = some [.int .i64 0] := by kernel_rfl
theorem en_61 : Ent Try.prog 61 := enters_of Try.func61 (by kernel_rfl) rfl
theorem ze_82 : zeroL Try.prog 82 = some [.int .i64 0, .int .i64 0] := by kernel_rfl
theorem az_82 : aggsz Try.prog 82 = some (true, 2) := by kernel_rfl
theorem en_62 : Ent Try.prog 62 := enters_of Try.func62 (by kernel_rfl) rfl
theorem en_63 : Ent Try.prog 63 := enters_of Try.func63 (by kernel_rfl) rfl
theorem en_75 : Ent Try.prog 75 := enters_of Try.func75 (by kernel_rfl) rfl
theorem en_64 : Ent Try.prog 64 := enters_of Try.func64 (by kernel_rfl) rfl
theorem en_78 : Ent Try.prog 78 := enters_of Try.func78 (by kernel_rfl) rfl
theorem az_94 : aggsz Try.prog 94 = some (false, 1) := by kernel_rfl
theorem en_77 : Ent Try.prog 77 := enters_of Try.func77 (by kernel_rfl) rfl
theorem en_71 : Ent Try.prog 71 := enters_of Try.func71 (by kernel_rfl) rfl
theorem ze_32 : zeroL Try.prog 32 = some [.int .i64 0] := by kernel_rfl
theorem az_32 : aggsz Try.prog 32 = some (false, 1) := by kernel_rfl
theorem en_69 : Ent Try.prog 69 := enters_of Try.func69 (by kernel_rfl) rfl
theorem en_65 : Ent Try.prog 65 := enters_of Try.func65 (by kernel_rfl) rfl
theorem en_79 : Ent Try.prog 79 := enters_of Try.func79 (by kernel_rfl) rfl
theorem ze_4 : zeroL Try.prog 4 = some [.bool false] := by kernel_rfl
theorem az_4 : aggsz Try.prog 4 = some (false, 1) := by kernel_rfl
theorem en_80 : Ent Try.prog 80 := enters_of Try.func80 (by kernel_rfl) rfl
theorem en_70 : Ent Try.prog 70 := enters_of Try.func70 (by kernel_rfl) rfl
theorem en_47 : Ent Try.prog 47 := enters_of Try.func47 (by kernel_rfl) rfl
theorem en_16 : Ent Try.prog 16 := enters_of Try.func16 (by kernel_rfl) rfl
theorem en_18 : Ent Try.prog 18 := enters_of Try.func18 (by kernel_rfl) rfl
theorem en_28 : Ent Try.prog 28 := enters_of Try.func28 (by kernel_rfl) rfl
theorem en_30 : Ent Try.prog 30 := enters_of Try.func30 (by kernel_rfl) rfl
theorem eqa_24 (a0 a1 b0 b1 : Int) (w : World) : (Op.equal 24 (.agg [.int .i64 a0, .int .i64 a1].toArray) (.agg [.int .i64 b0, .int .i64 b1].toArray)).run Try.prog w = .ok ((a0 == b0) && (a1 == b1)) w := by
  have h := run_equalIn_struct (P := Try.prog) w 9999 24 #[.int .i64 a0, .int .i64 a1] #[.int .i64 b0, .int .i64 b1] (by kernel_rfl) (by kernel_rfl)
  have h2 : (Op.eqFields 9999 #[.int .i64 a0, .int .i64 a1] #[.int .i64 b0, .int .i64 b1] (Try.prog.fieldsOf 24).toList).run Try.prog w = .ok ((a0 == b0) && (a1 == b1)) w := by
    cases e0 : (a0 == b0)
    · simp [go_sem, Program.fieldsOf, e0]
    cases e1 : (a1 == b1)
    · simp [go_sem, Program.fieldsOf, e0, e1]
    simp [go_sem, Program.fieldsOf, e0, e1]
  exact h.trans h2
theorem eqg_24 : Try.prog.eqGuardType Try.prog.depth 24 = false := by kernel_rfl
theorem ap_22 : apT Try.prog 22 = some (61, 7, 56) := by kernel_rfl
theorem en_60 : Ent Try.prog 60 := enters_of Try.func60 (by kernel_rfl) rfl
theorem en_40 : Ent Try.prog 40 := enters_of Try.func40 (by kernel_rfl) rfl
theorem en_59 : Ent Try.prog 59 := enters_of Try.func59 (by kernel_rfl) rfl
theorem en_58 : Ent Try.prog 58 := enters_of Try.func58 (by kernel_rfl) rfl
theorem ap_40 : apT Try.prog 40 = some (45, 2, 16) := by kernel_rfl
theorem fo_45_0 : fieldOff Try.prog 45 0 = some 0 := by kernel_rfl
theorem fo_45_1 : fieldOff Try.prog 45 1 = some 1 := by kernel_rfl
theorem en_68 : Ent Try.prog 68 := enters_of Try.func68 (by kernel_rfl) rfl
theorem en_25 : Ent Try.prog 25 := enters_of Try.func25 (by kernel_rfl) rfl
theorem ul_40 : Try.prog.underlying 40 = some (.slice 45) := by kernel_rfl
theorem sl_40 : slT Try.prog 40 = some (45, 2) := by kernel_rfl
theorem az_45 : aggsz Try.prog 45 = some (true, 2) := by kernel_rfl
theorem en_26 : Ent Try.prog 26 := enters_of Try.func26 (by kernel_rfl) rfl
theorem en_29 : Ent Try.prog 29 := enters_of Try.func29 (by kernel_rfl) rfl
theorem en_27 : Ent Try.prog 27 := enters_of Try.func27 (by kernel_rfl) rfl
theorem en_66 : Ent Try.prog 66 := enters_of Try.func66 (by kernel_rfl) rfl
theorem en_67 : Ent Try.prog 67 := enters_of Try.func67 (by kernel_rfl) rfl
theorem eqa_61 (a0 a1 a2 a3 a4 a5 a6 b0 b1 b2 b3 b4 b5 b6 : Int) (w : World) : (Op.equal 61 (.agg [.int .i64 a0, .int .i64 a1, .int .i64 a2, .int .i64 a3, .int .i64 a4, .int .i64 a5, .int .i64 a6].toArray) (.agg [.int .i64 b0, .int .i64 b1, .int .i64 b2, .int .i64 b3, .int .i64 b4, .int .i64 b5, .int .i64 b6].toArray)).run Try.prog w = .ok ((a0 == b0) && ((a1 == b1) && ((a2 == b2) && ((a3 == b3) && ((a4 == b4) && ((a5 == b5) && (a6 == b6))))))) w := by
  have h := run_equalIn_struct (P := Try.prog) w 9999 61 #[.int .i64 a0, .int .i64 a1, .int .i64 a2, .int .i64 a3, .int .i64 a4, .int .i64 a5, .int .i64 a6] #[.int .i64 b0, .int .i64 b1, .int .i64 b2, .int .i64 b3, .int .i64 b4, .int .i64 b5, .int .i64 b6] (by kernel_rfl) (by kernel_rfl)
  have h2 : (Op.eqFields 9999 #[.int .i64 a0, .int .i64 a1, .int .i64 a2, .int .i64 a3, .int .i64 a4, .int .i64 a5, .int .i64 a6] #[.int .i64 b0, .int .i64 b1, .int .i64 b2, .int .i64 b3, .int .i64 b4, .int .i64 b5, .int .i64 b6] (Try.prog.fieldsOf 61).toList).run Try.prog w = .ok ((a0 == b0) && ((a1 == b1) && ((a2 == b2) && ((a3 == b3) && ((a4 == b4) && ((a5 == b5) && (a6 == b6))))))) w := by
    cases e0 : (a0 == b0)
    · simp [go_sem, Program.fieldsOf, e0, (fun d xs ys => run_equalIn_struct (P := Try.prog) w d 59 xs ys (by kernel_rfl) (by kernel_rfl)), (fun d xs ys => run_equalIn_struct (P := Try.prog) w d 24 xs ys (by kernel_rfl) (by kernel_rfl))]
    cases e1 : (a1 == b1)
    · simp [go_sem, Program.fieldsOf, e0, e1, (fun d xs ys => run_equalIn_struct (P := Try.prog) w d 59 xs ys (by kernel_rfl) (by kernel_rfl)), (fun d xs ys => run_equalIn_struct (P := Try.prog) w d 24 xs ys (by kernel_rfl) (by kernel_rfl))]
    cases e2 : (a2 == b2)
    · simp [go_sem, Program.fieldsOf, e0, e1, e2, (fun d xs ys => run_equalIn_struct (P := Try.prog) w d 59 xs ys (by kernel_rfl) (by kernel_rfl)), (fun d xs ys => run_equalIn_struct (P := Try.prog) w d 24 xs ys (by kernel_rfl) (by kernel_rfl))]
    cases e3 : (a3 == b3)
    · simp [go_sem, Program.fieldsOf, e0, e1, e2, e3, (fun d xs ys => run_equalIn_struct (P := Try.prog) w d 59 xs ys (by kernel_rfl) (by kernel_rfl)), (fun d xs ys => run_equalIn_struct (P := Try.prog) w d 24 xs ys (by kernel_rfl) (by kernel_rfl))]
    cases e4 : (a4 == b4)
    · simp [go_sem, Program.fieldsOf, e0, e1, e2, e3, e4, (fun d xs ys => run_equalIn_struct (P := Try.prog) w d 59 xs ys (by kernel_rfl) (by kernel_rfl)), (fun d xs ys => run_equalIn_struct (P := Try.prog) w d 24 xs ys (by kernel_rfl) (by kernel_rfl))]
    cases e5 : (a5 == b5)
    · simp [go_sem, Program.fieldsOf, e0, e1, e2, e3, e4, e5, (fun d xs ys => run_equalIn_struct (P := Try.prog) w d 59 xs ys (by kernel_rfl) (by kernel_rfl)), (fun d xs ys => run_equalIn_struct (P := Try.prog) w d 24 xs ys (by kernel_rfl) (by kernel_rfl))]
    cases e6 : (a6 == b6)
    · simp [go_sem, Program.fieldsOf, e0, e1, e2, e3, e4, e5, e6, (fun d xs ys => run_equalIn_struct (P := Try.prog) w d 59 xs ys (by kernel_rfl) (by kernel_rfl)), (fun d xs ys => run_equalIn_struct (P := Try.prog) w d 24 xs ys (by kernel_rfl) (by kernel_rfl))]
    simp [go_sem, Program.fieldsOf, e0, e1, e2, e3, e4, e5, e6, (fun d xs ys => run_equalIn_struct (P := Try.prog) w d 59 xs ys (by kernel_rfl) (by kernel_rfl)), (fun d xs ys => run_equalIn_struct (P := Try.prog) w d 24 xs ys (by kernel_rfl) (by kernel_rfl))]
  exact h.trans h2
theorem eqg_61 : Try.prog.eqGuardType Try.prog.depth 61 = false := by kernel_rfl
theorem en_11 : Ent Try.prog 11 := enters_of Try.func11 (by kernel_rfl) rfl
theorem en_12 : Ent Try.prog 12 := enters_of Try.func12 (by kernel_rfl) rfl
theorem en_13 : Ent Try.prog 13 := enters_of Try.func13 (by kernel_rfl) rfl
theorem fo_28_0 : fieldOff Try.prog 28 0 = some 0 := by kernel_rfl
theorem fo_28_1 : fieldOff Try.prog 28 1 = some 1 := by kernel_rfl
theorem en_17 : Ent Try.prog 17 := enters_of Try.func17 (by kernel_rfl) rfl
theorem en_19 : Ent Try.prog 19 := enters_of Try.func19 (by kernel_rfl) rfl
theorem en_20 : Ent Try.prog 20 := enters_of Try.func20 (by kernel_rfl) rfl
theorem en_21 : Ent Try.prog 21 := enters_of Try.func21 (by kernel_rfl) rfl
theorem en_22 : Ent Try.prog 22 := enters_of Try.func22 (by kernel_rfl) rfl
theorem en_23 : Ent Try.prog 23 := enters_of Try.func23 (by kernel_rfl) rfl
theorem az_28 : aggsz Try.prog 28 = some (true, 2) := by kernel_rfl
theorem en_24 : Ent Try.prog 24 := enters_of Try.func24 (by kernel_rfl) rfl
theorem ub_4 : Try.prog.underlying 4 = some .bool := by kernel_rfl
theorem en_31 : Ent Try.prog 31 := enters_of Try.func31 (by kernel_rfl) rfl
theorem ap_54 : apT Try.prog 54 = some (3, 1, 8) := by kernel_rfl
theorem en_72 : Ent Try.prog 72 := enters_of Try.func72 (by kernel_rfl) rfl
theorem en_32 : Ent Try.prog 32 := enters_of Try.func32 (by kernel_rfl) rfl
theorem ul_54 : Try.prog.underlying 54 = some (.slice 3) := by kernel_rfl
theorem en_33 : Ent Try.prog 33 := enters_of Try.func33 (by kernel_rfl) rfl
theorem ze_59 : zeroL Try.prog 59 = some [.int .i64 0, .int .i64 0] := by kernel_rfl
theorem en_34 : Ent Try.prog 34 := enters_of Try.func34 (by kernel_rfl) rfl
theorem en_35 : Ent Try.prog 35 := enters_of Try.func35 (by kernel_rfl) rfl
theorem en_36 : Ent Try.prog 36 := enters_of Try.func36 (by kernel_rfl) rfl
theorem en_37 : Ent Try.prog 37 := enters_of Try.func37 (by kernel_rfl) rfl
theorem en_38 : Ent Try.prog 38 := enters_of Try.func38 (by kernel_rfl) rfl
theorem en_39 : Ent Try.prog 39 := enters_of Try.func39 (by kernel_rfl) rfl
theorem fo_67_0 : fieldOff Try.prog 67 0 = some 0 := by kernel_rfl
theorem fo_67_1 : fieldOff Try.prog 67 1 = some 1 := by kernel_rfl
theorem fo_67_2 : fieldOff Try.prog 67 2 = some 2 := by kernel_rfl
theorem fo_67_3 : fieldOff Try.prog 67 3 = some 3 := by kernel_rfl
theorem fo_67_4 : fieldOff Try.prog 67 4 = some 4 := by kernel_rfl
theorem en_73 : Ent Try.prog 73 := enters_of Try.func73 (by kernel_rfl) rfl
theorem sl_54 : slT Try.prog 54 = some (3, 1) := by kernel_rfl
theorem en_41 : Ent Try.prog 41 := enters_of Try.func41 (by kernel_rfl) rfl
theorem en_42 : Ent Try.prog 42 := enters_of Try.func42 (by kernel_rfl) rfl
theorem en_43 : Ent Try.prog 43 := enters_of Try.func43 (by kernel_rfl) rfl
theorem en_44 : Ent Try.prog 44 := enters_of Try.func44 (by kernel_rfl) rfl
theorem en_45 : Ent Try.prog 45 := enters_of Try.func45 (by kernel_rfl) rfl
theorem en_46 : Ent Try.prog 46 := enters_of Try.func46 (by kernel_rfl) rfl
end Go.Proofs.Ytmgnhaibbeinbaa
