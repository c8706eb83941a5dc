/-
  Printed by a program: functions of the translation as plain functions, and their contracts.
-/
import Derived.Test.YtooankffknoomaaRows
import Derived.Test.YtooankffknoomaaEngK
namespace Go.Proofs.Ytooankffknoomaa
open Go Go.RowKit Go.Dec
set_option linter.unusedVariables false
structure Span where
  Low : Int
  High : Int
structure Rain where
  Day : Int
  Level : Span
structure Fair where
  Price : Int
  Sells : List Int
structure Tour where
  Days : Int
  Step : Int
  Rains : List Rain
  Wrong : Int
  Fairs : List Fair
  Reach : Int
  Stock : Int
structure rains_weather where
  Tour : Tour
  truths : List (List Int)
structure rains_sale where
  takes : Int
  left : Int
structure law11_Trip where
  Route : List Int
  Levels : List Int
structure law11_Ask where
  Day : Int
  Rain : Int
def R_Span : Rl Span := fun _ cs x => cs = [.int .i64 x.Low, .int .i64 x.High]
theorem R_Span_mono : Mono R_Span := fun _ _ _ _ _ h => h
theorem R_Span_one : ∀ (H : Hp) (cs : List Value) (x : Span), R_Span H cs x → AllOne cs := by
  rintro H cs x rfl
  exact (one_cons rfl (one_cons rfl one_nil))
def R_Rain : Rl Rain := fun _ cs x => cs = [.int .i64 x.Day, .int .i64 x.Level.Low, .int .i64 x.Level.High]
theorem R_Rain_mono : Mono R_Rain := fun _ _ _ _ _ h => h
theorem R_Rain_one : ∀ (H : Hp) (cs : List Value) (x : Rain), R_Rain H cs x → AllOne cs := by
  rintro H cs x rfl
  exact (one_cons rfl (one_cons rfl (one_cons rfl one_nil)))
def R_Fair : Rl Fair := fun H cs x => ∃ v1 : Value, cs = [.int .i64 x.Price, v1] ∧ SL H 1 RInt v1 x.Sells
theorem R_Fair_mono : Mono R_Fair := by
  rintro H H' h cs x ⟨v1, hcs, h0⟩
  exact ⟨v1, hcs, SL.mono RInt.mono h h0⟩
theorem R_Fair_one : ∀ (H : Hp) (cs : List Value) (x : Fair), R_Fair H cs x → AllOne cs := by
  rintro H cs x ⟨v1, rfl, h0⟩
  exact (one_cons rfl (one_cons h0.one one_nil))
def R_Tour : Rl Tour := fun H cs x => ∃ v2 v4 : Value, cs = [.int .i64 x.Days, .int .i64 x.Step, v2, .int .i64 x.Wrong, v4, .int .i64 x.Reach, .int .i64 x.Stock] ∧ SL H 3 R_Rain v2 x.Rains ∧ SL H 2 R_Fair v4 x.Fairs
theorem R_Tour_mono : Mono R_Tour := by
  rintro H H' h cs x ⟨v2, v4, hcs, h0, h1⟩
  exact ⟨v2, v4, hcs, SL.mono R_Rain_mono h h0, SL.mono R_Fair_mono h h1⟩
theorem R_Tour_one : ∀ (H : Hp) (cs : List Value) (x : Tour), R_Tour H cs x → AllOne cs := by
  rintro H cs x ⟨v2, v4, rfl, h0, h1⟩
  exact (one_cons rfl (one_cons rfl (one_cons h0.one (one_cons rfl (one_cons h1.one (one_cons rfl (one_cons rfl one_nil)))))))
def R_rains_weather : Rl rains_weather := fun H cs x => ∃ v2 v4 v7 : Value, cs = [.int .i64 x.Tour.Days, .int .i64 x.Tour.Step, v2, .int .i64 x.Tour.Wrong, v4, .int .i64 x.Tour.Reach, .int .i64 x.Tour.Stock, v7] ∧ SL H 3 R_Rain v2 x.Tour.Rains ∧ SL H 2 R_Fair v4 x.Tour.Fairs ∧ SL H 1 (RSl 1 RInt) v7 x.truths
theorem R_rains_weather_mono : Mono R_rains_weather := by
  rintro H H' h cs x ⟨v2, v4, v7, hcs, h0, h1, h2⟩
  exact ⟨v2, v4, v7, hcs, SL.mono R_Rain_mono h h0, SL.mono R_Fair_mono h h1, SL.mono (RSl.mono RInt.mono) h h2⟩
theorem R_rains_weather_one : ∀ (H : Hp) (cs : List Value) (x : rains_weather), R_rains_weather H cs x → AllOne cs := by
  rintro H cs x ⟨v2, v4, v7, rfl, h0, h1, h2⟩
  exact (one_cons rfl (one_cons rfl (one_cons h0.one (one_cons rfl (one_cons h1.one (one_cons rfl (one_cons rfl (one_cons h2.one one_nil))))))))
def R_rains_sale : Rl rains_sale := fun _ cs x => cs = [.int .i64 x.takes, .int .i64 x.left]
theorem R_rains_sale_mono : Mono R_rains_sale := fun _ _ _ _ _ h => h
theorem R_rains_sale_one : ∀ (H : Hp) (cs : List Value) (x : rains_sale), R_rains_sale H cs x → AllOne cs := by
  rintro H cs x rfl
  exact (one_cons rfl (one_cons rfl one_nil))
def R_law11_Trip : Rl law11_Trip := fun H cs x => ∃ v0 v1 : Value, cs = [v0, v1] ∧ SL H 1 RInt v0 x.Route ∧ SL H 1 RInt v1 x.Levels
theorem R_law11_Trip_mono : Mono R_law11_Trip := by
  rintro H H' h cs x ⟨v0, v1, hcs, h0, h1⟩
  exact ⟨v0, v1, hcs, SL.mono RInt.mono h h0, SL.mono RInt.mono h h1⟩
theorem R_law11_Trip_one : ∀ (H : Hp) (cs : List Value) (x : law11_Trip), R_law11_Trip H cs x → AllOne cs := by
  rintro H cs x ⟨v0, v1, rfl, h0, h1⟩
  exact (one_cons h0.one (one_cons h1.one one_nil))
def R_law11_Ask : Rl law11_Ask := fun _ cs x => cs = [.int .i64 x.Day, .int .i64 x.Rain]
theorem R_law11_Ask_mono : Mono R_law11_Ask := fun _ _ _ _ _ h => h
theorem R_law11_Ask_one : ∀ (H : Hp) (cs : List Value) (x : law11_Ask), R_law11_Ask H cs x → AllOne cs := by
  rintro H cs x rfl
  exact (one_cons rfl (one_cons rfl one_nil))
theorem en_77 : Ent Try.prog 77 := enters_of Try.func77 (by kernel_rfl) rfl
theorem fo_25_0 : fieldOff Try.prog 25 0 = some 0 := by kernel_rfl
theorem az_3 : aggsz Try.prog 3 = some (false, 1) := by kernel_rfl
theorem en_65 : Ent Try.prog 65 := enters_of Try.func65 (by kernel_rfl) rfl
theorem fo_25_1 : fieldOff Try.prog 25 1 = some 1 := by kernel_rfl
theorem fo_25_3 : fieldOff Try.prog 25 3 = some 3 := by kernel_rfl
theorem fo_25_5 : fieldOff Try.prog 25 5 = some 5 := by kernel_rfl
theorem fo_25_6 : fieldOff Try.prog 25 6 = some 6 := by kernel_rfl
theorem fo_25_2 : fieldOff Try.prog 25 2 = some 2 := by kernel_rfl
theorem az_22 : aggsz Try.prog 22 = some (false, 1) := by kernel_rfl
theorem ul_22 : Try.prog.underlying 22 = some (.slice 37) := by kernel_rfl
theorem fo_25_4 : fieldOff Try.prog 25 4 = some 4 := by kernel_rfl
theorem az_23 : aggsz Try.prog 23 = some (false, 1) := by kernel_rfl
theorem ul_23 : Try.prog.underlying 23 = some (.slice 41) := by kernel_rfl
theorem sl_22 : slT Try.prog 22 = some (37, 3) := by kernel_rfl
theorem fo_37_1 : fieldOff Try.prog 37 1 = some 1 := by kernel_rfl
theorem az_31 : aggsz Try.prog 31 = some (true, 2) := by kernel_rfl
theorem ze_31 : zeroL Try.prog 31 = some [.int .i64 0, .int .i64 0] := by kernel_rfl
theorem fo_37_0 : fieldOff Try.prog 37 0 = some 0 := by kernel_rfl
theorem fo_31_0 : fieldOff Try.prog 31 0 = some 0 := by kernel_rfl
theorem fo_31_1 : fieldOff Try.prog 31 1 = some 1 := by kernel_rfl
theorem mo_ : Try.prog.follows .mixedOrders = true := by kernel_rfl
theorem sl_23 : slT Try.prog 23 = some (41, 2) := by kernel_rfl
theorem az_41 : aggsz Try.prog 41 = some (true, 2) := by kernel_rfl
theorem ze_41 : zeroL Try.prog 41 = some [.int .i64 0, .slice none 0 0] := by kernel_rfl
theorem fo_41_0 : fieldOff Try.prog 41 0 = some 0 := by kernel_rfl
theorem fo_41_1 : fieldOff Try.prog 41 1 = some 1 := by kernel_rfl
theorem az_26 : aggsz Try.prog 26 = some (false, 1) := by kernel_rfl
theorem ul_26 : Try.prog.underlying 26 = some (.slice 3) := by kernel_rfl
theorem sl_26 : slT Try.prog 26 = some (3, 1) := by kernel_rfl
theorem az_25 : aggsz Try.prog 25 = some (true, 7) := by kernel_rfl
theorem en_38 : Ent Try.prog 38 := enters_of Try.func38 (by kernel_rfl) rfl
theorem ze_25 : zeroL Try.prog 25 = some [.int .i64 0, .int .i64 0, .slice none 0 0, .int .i64 0, .slice none 0 0, .int .i64 0, .int .i64 0] := by kernel_rfl
theorem en_61 : Ent Try.prog 61 := enters_of Try.func61 (by kernel_rfl) rfl
theorem en_84 : Ent Try.prog 84 := enters_of Try.func84 (by kernel_rfl) rfl
theorem en_78 : Ent Try.prog 78 := enters_of Try.func78 (by kernel_rfl) rfl
theorem en_79 : Ent Try.prog 79 := enters_of Try.func79 (by kernel_rfl) rfl
theorem az_37 : aggsz Try.prog 37 = some (true, 3) := by kernel_rfl
theorem ze_37 : zeroL Try.prog 37 = some [.int .i64 0, .int .i64 0, .int .i64 0] := by kernel_rfl
theorem en_66 : Ent Try.prog 66 := enters_of Try.func66 (by kernel_rfl) rfl
theorem en_67 : Ent Try.prog 67 := enters_of Try.func67 (by kernel_rfl) rfl
theorem en_75 : Ent Try.prog 75 := enters_of Try.func75 (by kernel_rfl) rfl
theorem en_64 : Ent Try.prog 64 := enters_of Try.func64 (by kernel_rfl) rfl
theorem ap_26 : apT Try.prog 26 = some (3, 1, 8) := by kernel_rfl
theorem en_37 : Ent Try.prog 37 := enters_of Try.func37 (by kernel_rfl) rfl
theorem ze_85 : zeroL Try.prog 85 = some [.pointer none] := by kernel_rfl
theorem az_85 : aggsz Try.prog 85 = some (false, 1) := by kernel_rfl
theorem en_57 : Ent Try.prog 57 := enters_of Try.func57 (by kernel_rfl) rfl
theorem en_58 : Ent Try.prog 58 := enters_of Try.func58 (by kernel_rfl) rfl
theorem fo_89_1 : fieldOff Try.prog 89 1 = some 7 := by kernel_rfl
theorem az_72 : aggsz Try.prog 72 = some (false, 1) := by kernel_rfl
theorem en_74 : Ent Try.prog 74 := enters_of Try.func74 (by kernel_rfl) rfl
theorem ap_72 : apT Try.prog 72 = some (26, 1, 24) := by kernel_rfl
theorem en_82 : Ent Try.prog 82 := enters_of Try.func82 (by kernel_rfl) rfl
theorem ul_72 : Try.prog.underlying 72 = some (.slice 26) := by kernel_rfl
theorem en_59 : Ent Try.prog 59 := enters_of Try.func59 (by kernel_rfl) rfl
theorem ze_71 : zeroL Try.prog 71 = some [.int .i64 0, .int .i64 0] := by kernel_rfl
theorem fo_89_0 : fieldOff Try.prog 89 0 = some 0 := by kernel_rfl
theorem az_71 : aggsz Try.prog 71 = some (true, 2) := by kernel_rfl
theorem fo_71_1 : fieldOff Try.prog 71 1 = some 1 := by kernel_rfl
theorem fo_71_0 : fieldOff Try.prog 71 0 = some 0 := by kernel_rfl
theorem sl_72 : slT Try.prog 72 = some (26, 1) := by kernel_rfl
theorem en_81 : Ent Try.prog 81 := enters_of Try.func81 (by kernel_rfl) rfl
theorem en_71 : Ent Try.prog 71 := enters_of Try.func71 (by kernel_rfl) rfl
theorem en_72 : Ent Try.prog 72 := enters_of Try.func72 (by kernel_rfl) rfl
theorem en_47 : Ent Try.prog 47 := enters_of Try.func47 (by kernel_rfl) rfl
theorem en_46 : Ent Try.prog 46 := enters_of Try.func46 (by kernel_rfl) rfl
theorem ze_3 : zeroL Try.prog 3 = some [.int .i64 0] := by kernel_rfl
theorem ze_26 : zeroL Try.prog 26 = some [.slice none 0 0] := by kernel_rfl
theorem en_73 : Ent Try.prog 73 := enters_of Try.func73 (by kernel_rfl) rfl
theorem az_80 : aggsz Try.prog 80 = some (false, 1) := by kernel_rfl
theorem en_54 : Ent Try.prog 54 := enters_of Try.func54 (by kernel_rfl) rfl
theorem en_53 : Ent Try.prog 53 := enters_of Try.func53 (by kernel_rfl) rfl
theorem en_76 : Ent Try.prog 76 := enters_of Try.func76 (by kernel_rfl) rfl
theorem en_63 : Ent Try.prog 63 := enters_of Try.func63 (by kernel_rfl) rfl
theorem en_62 : Ent Try.prog 62 := enters_of Try.func62 (by kernel_rfl) rfl
theorem en_45 : Ent Try.prog 45 := enters_of Try.func45 (by kernel_rfl) rfl
theorem en_29 : Ent Try.prog 29 := enters_of Try.func29 (by kernel_rfl) rfl
theorem en_15 : Ent Try.prog 15 := enters_of Try.func15 (by kernel_rfl) rfl
theorem en_23 : Ent Try.prog 23 := enters_of Try.func23 (by kernel_rfl) rfl
theorem en_31 : Ent Try.prog 31 := enters_of Try.func31 (by kernel_rfl) rfl
theorem eqa_31 (a0 a1 b0 b1 : Int) (w : World) : (Op.equal 31 (.agg [.int .i64 a0, .int .i64 a1].toArray) (.agg [.int .i64 b0, .int .i64 b1].toArray)).run Try.prog w = .ok ((a0 == b0) && (a1 == b1)) w := by
  have h := run_equalIn_struct (P := Try.prog) w 9999 31 #[.int .i64 a0, .int .i64 a1] #[.int .i64 b0, .int .i64 b1] (by kernel_rfl) (by kernel_rfl)
  have h2 : (Op.eqFields 9999 #[.int .i64 a0, .int .i64 a1] #[.int .i64 b0, .int .i64 b1] (Try.prog.fieldsOf 31).toList).run Try.prog w = .ok ((a0 == b0) && (a1 == b1)) w := by
    cases e0 : (a0 == b0) <;> cases e1 : (a1 == b1) <;> simp [go_sem, Program.fieldsOf, e0, e1]
  exact h.trans h2
theorem eqg_31 : Try.prog.eqGuardType Try.prog.depth 31 = false := by kernel_rfl
theorem en_43 : Ent Try.prog 43 := enters_of Try.func43 (by kernel_rfl) rfl
theorem ap_22 : apT Try.prog 22 = some (37, 3, 24) := by kernel_rfl
theorem ap_23 : apT Try.prog 23 = some (41, 2, 32) := by kernel_rfl
theorem en_52 : Ent Try.prog 52 := enters_of Try.func52 (by kernel_rfl) rfl
theorem en_68 : Ent Try.prog 68 := enters_of Try.func68 (by kernel_rfl) rfl
theorem en_36 : Ent Try.prog 36 := enters_of Try.func36 (by kernel_rfl) rfl
theorem en_69 : Ent Try.prog 69 := enters_of Try.func69 (by kernel_rfl) rfl
theorem en_32 : Ent Try.prog 32 := enters_of Try.func32 (by kernel_rfl) rfl
theorem en_51 : Ent Try.prog 51 := enters_of Try.func51 (by kernel_rfl) rfl
theorem en_20 : Ent Try.prog 20 := enters_of Try.func20 (by kernel_rfl) rfl
theorem en_48 : Ent Try.prog 48 := enters_of Try.func48 (by kernel_rfl) rfl
theorem en_49 : Ent Try.prog 49 := enters_of Try.func49 (by kernel_rfl) rfl
theorem en_50 : Ent Try.prog 50 := enters_of Try.func50 (by kernel_rfl) rfl
theorem en_12 : Ent Try.prog 12 := enters_of Try.func12 (by kernel_rfl) rfl
theorem en_13 : Ent Try.prog 13 := enters_of Try.func13 (by kernel_rfl) rfl
theorem en_14 : Ent Try.prog 14 := enters_of Try.func14 (by kernel_rfl) rfl
theorem en_16 : Ent Try.prog 16 := enters_of Try.func16 (by kernel_rfl) rfl
theorem en_17 : Ent Try.prog 17 := enters_of Try.func17 (by kernel_rfl) rfl
theorem en_18 : Ent Try.prog 18 := enters_of Try.func18 (by kernel_rfl) rfl
theorem en_22 : Ent Try.prog 22 := enters_of Try.func22 (by kernel_rfl) rfl
theorem en_33 : Ent Try.prog 33 := enters_of Try.func33 (by kernel_rfl) rfl
theorem en_19 : Ent Try.prog 19 := enters_of Try.func19 (by kernel_rfl) rfl
theorem en_55 : Ent Try.prog 55 := enters_of Try.func55 (by kernel_rfl) rfl
theorem en_24 : Ent Try.prog 24 := enters_of Try.func24 (by kernel_rfl) rfl
theorem en_56 : Ent Try.prog 56 := enters_of Try.func56 (by kernel_rfl) rfl
theorem ft_31_0 : fieldTy Try.prog 31 0 = some (3, 0) := by kernel_rfl
theorem ft_31_1 : fieldTy Try.prog 31 1 = some (3, 1) := by kernel_rfl
theorem en_25 : Ent Try.prog 25 := enters_of Try.func25 (by kernel_rfl) rfl
theorem en_26 : Ent Try.prog 26 := enters_of Try.func26 (by kernel_rfl) rfl
theorem en_27 : Ent Try.prog 27 := enters_of Try.func27 (by kernel_rfl) rfl
theorem en_28 : Ent Try.prog 28 := enters_of Try.func28 (by kernel_rfl) rfl
theorem ub_4 : Try.prog.underlying 4 = some .bool := by kernel_rfl
theorem fo_50_0 : fieldOff Try.prog 50 0 = some 0 := by kernel_rfl
theorem fo_50_1 : fieldOff Try.prog 50 1 = some 1 := by kernel_rfl
theorem en_60 : Ent Try.prog 60 := enters_of Try.func60 (by kernel_rfl) rfl
theorem az_50 : aggsz Try.prog 50 = some (true, 2) := by kernel_rfl
theorem en_30 : Ent Try.prog 30 := enters_of Try.func30 (by kernel_rfl) rfl
theorem fo_52_0 : fieldOff Try.prog 52 0 = some 0 := by kernel_rfl
theorem en_34 : Ent Try.prog 34 := enters_of Try.func34 (by kernel_rfl) rfl
theorem fo_52_1 : fieldOff Try.prog 52 1 = some 1 := by kernel_rfl
theorem en_35 : Ent Try.prog 35 := enters_of Try.func35 (by kernel_rfl) rfl
theorem en_80 : Ent Try.prog 80 := enters_of Try.func80 (by kernel_rfl) rfl
theorem en_70 : Ent Try.prog 70 := enters_of Try.func70 (by kernel_rfl) rfl
theorem eqa_37 (a0 a1 a2 b0 b1 b2 : Int) (w : World) : (Op.equal 37 (.agg [.int .i64 a0, .int .i64 a1, .int .i64 a2].toArray) (.agg [.int .i64 b0, .int .i64 b1, .int .i64 b2].toArray)).run Try.prog w = .ok ((a0 == b0) && ((a1 == b1) && (a2 == b2))) w := by
  have h := run_equalIn_struct (P := Try.prog) w 9999 37 #[.int .i64 a0, .int .i64 a1, .int .i64 a2] #[.int .i64 b0, .int .i64 b1, .int .i64 b2] (by kernel_rfl) (by kernel_rfl)
  have h2 : (Op.eqFields 9999 #[.int .i64 a0, .int .i64 a1, .int .i64 a2] #[.int .i64 b0, .int .i64 b1, .int .i64 b2] (Try.prog.fieldsOf 37).toList).run Try.prog w = .ok ((a0 == b0) && ((a1 == b1) && (a2 == b2))) w := by
    cases e0 : (a0 == b0) <;> cases e1 : (a1 == b1) <;> cases e2 : (a2 == b2) <;> simp [go_sem, Program.fieldsOf, e0, e1, e2, (fun d xs ys => run_equalIn_struct (P := Try.prog) w d 31 xs ys (by kernel_rfl) (by kernel_rfl))]
  exact h.trans h2
theorem eqg_37 : Try.prog.eqGuardType Try.prog.depth 37 = false := by kernel_rfl
theorem en_39 : Ent Try.prog 39 := enters_of Try.func39 (by kernel_rfl) rfl
theorem en_40 : Ent Try.prog 40 := enters_of Try.func40 (by kernel_rfl) rfl
theorem en_41 : Ent Try.prog 41 := enters_of Try.func41 (by kernel_rfl) rfl
theorem en_42 : Ent Try.prog 42 := enters_of Try.func42 (by kernel_rfl) rfl
theorem en_44 : Ent Try.prog 44 := enters_of Try.func44 (by kernel_rfl) rfl
end Go.Proofs.Ytooankffknoomaa
