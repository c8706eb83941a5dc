/-
  Printed by a program: functions of the translation as plain functions, and their contracts.
-/
import Derived.Test.YteihdclpiekmaaaRows
import Derived.Test.YteihdclpiekmaaaEngU
namespace Go.Proofs.Yteihdclpiekmaaa
open Go Go.RowKit Go.Dec
set_option linter.unusedVariables false
structure gusts_blown where
  lift : Int
  ribs : List Int
  shares : List Int
structure Gust where
  Force : Int
  At : Int
structure Span where
  Low : Int
  High : Int
structure Frac where
  Num : Int
  Den : Int
structure Section where
  Arm : Span
  Stretch : Span
  Base : Int
  Gear : Frac
structure Frame where
  Sections : List Section
  Low : Int
  High : Int
  Ease : Frac
  Rod : Int
  Case : Int
structure Canopy where
  Frame : Frame
  Ribs : List Span
  Shares : List Int
structure frames_sides where
  arm : Int
  stretch : Int
def R_gusts_blown : Rl gusts_blown := fun H cs x => ∃ v1 v2 : Value, cs = [.int .i64 x.lift, v1, v2] ∧ SL H 1 RInt v1 x.ribs ∧ SL H 1 RInt v2 x.shares
theorem R_gusts_blown_mono : Mono R_gusts_blown := by
  rintro H H' h cs x ⟨v1, v2, hcs, h0, h1⟩
  exact ⟨v1, v2, hcs, SL.mono RInt.mono h h0, SL.mono RInt.mono h h1⟩
theorem R_gusts_blown_one : ∀ (H : Hp) (cs : List Value) (x : gusts_blown), R_gusts_blown H cs x → AllOne cs := by
  rintro H cs x ⟨v1, v2, rfl, h0, h1⟩
  exact (one_cons rfl (one_cons h0.one (one_cons h1.one one_nil)))
def R_Gust : Rl Gust := fun _ cs x => cs = [.int .i64 x.Force, .int .i64 x.At]
theorem R_Gust_mono : Mono R_Gust := fun _ _ _ _ _ h => h
theorem R_Gust_one : ∀ (H : Hp) (cs : List Value) (x : Gust), R_Gust H cs x → AllOne cs := by
  rintro H cs x rfl
  exact (one_cons rfl (one_cons rfl one_nil))
def R_Span : Rl Span := fun _ cs x => cs = [.int .i64 x.Low, .int .i64 x.High]
theorem R_Span_mono : Mono R_Span := fun _ _ _ _ _ h => h
theorem R_Span_one : ∀ (H : Hp) (cs : List Value) (x : Span), R_Span H cs x → AllOne cs := by
  rintro H cs x rfl
  exact (one_cons rfl (one_cons rfl one_nil))
def R_Frac : Rl Frac := fun _ cs x => cs = [.int .i64 x.Num, .int .i64 x.Den]
theorem R_Frac_mono : Mono R_Frac := fun _ _ _ _ _ h => h
theorem R_Frac_one : ∀ (H : Hp) (cs : List Value) (x : Frac), R_Frac H cs x → AllOne cs := by
  rintro H cs x rfl
  exact (one_cons rfl (one_cons rfl one_nil))
def R_Section : Rl Section := fun _ cs x => cs = [.int .i64 x.Arm.Low, .int .i64 x.Arm.High, .int .i64 x.Stretch.Low, .int .i64 x.Stretch.High, .int .i64 x.Base, .int .i64 x.Gear.Num, .int .i64 x.Gear.Den]
theorem R_Section_mono : Mono R_Section := fun _ _ _ _ _ h => h
theorem R_Section_one : ∀ (H : Hp) (cs : List Value) (x : Section), R_Section H cs x → AllOne cs := by
  rintro H cs x rfl
  exact (one_cons rfl (one_cons rfl (one_cons rfl (one_cons rfl (one_cons rfl (one_cons rfl (one_cons rfl one_nil)))))))
def R_Frame : Rl Frame := fun H cs x => ∃ v0 : Value, cs = [v0, .int .i64 x.Low, .int .i64 x.High, .int .i64 x.Ease.Num, .int .i64 x.Ease.Den, .int .i64 x.Rod, .int .i64 x.Case] ∧ SL H 7 R_Section v0 x.Sections
theorem R_Frame_mono : Mono R_Frame := by
  rintro H H' h cs x ⟨v0, hcs, h0⟩
  exact ⟨v0, hcs, SL.mono R_Section_mono h h0⟩
theorem R_Frame_one : ∀ (H : Hp) (cs : List Value) (x : Frame), R_Frame H cs x → AllOne cs := by
  rintro H cs x ⟨v0, rfl, h0⟩
  exact (one_cons h0.one (one_cons rfl (one_cons rfl (one_cons rfl (one_cons rfl (one_cons rfl (one_cons rfl one_nil)))))))
def R_Canopy : Rl Canopy := fun H cs x => ∃ v0 v7 v8 : Value, cs = [v0, .int .i64 x.Frame.Low, .int .i64 x.Frame.High, .int .i64 x.Frame.Ease.Num, .int .i64 x.Frame.Ease.Den, .int .i64 x.Frame.Rod, .int .i64 x.Frame.Case, v7, v8] ∧ SL H 7 R_Section v0 x.Frame.Sections ∧ SL H 2 R_Span v7 x.Ribs ∧ SL H 1 RInt v8 x.Shares
theorem R_Canopy_mono : Mono R_Canopy := by
  rintro H H' h cs x ⟨v0, v7, v8, hcs, h0, h1, h2⟩
  exact ⟨v0, v7, v8, hcs, SL.mono R_Section_mono h h0, SL.mono R_Span_mono h h1, SL.mono RInt.mono h h2⟩
theorem R_Canopy_one : ∀ (H : Hp) (cs : List Value) (x : Canopy), R_Canopy H cs x → AllOne cs := by
  rintro H cs x ⟨v0, v7, v8, rfl, h0, h1, h2⟩
  exact (one_cons h0.one (one_cons rfl (one_cons rfl (one_cons rfl (one_cons rfl (one_cons rfl (one_cons rfl (one_cons h1.one (one_cons h2.one one_nil)))))))))
def R_frames_sides : Rl frames_sides := fun _ cs x => cs = [.int .i64 x.arm, .int .i64 x.stretch]
theorem R_frames_sides_mono : Mono R_frames_sides := fun _ _ _ _ _ h => h
theorem R_frames_sides_one : ∀ (H : Hp) (cs : List Value) (x : frames_sides), R_frames_sides H cs x → AllOne cs := by
  rintro H cs x rfl
  exact (one_cons rfl (one_cons rfl one_nil))
theorem fo_156_2 : fieldOff Try.prog 156 2 = some 2 := by kernel_rfl
theorem az_23 : aggsz Try.prog 23 = some (false, 1) := by kernel_rfl
theorem ul_23 : Try.prog.underlying 23 = some (.slice 3) := by kernel_rfl
theorem fo_86_0 : fieldOff Try.prog 86 0 = some 0 := by kernel_rfl
theorem az_3 : aggsz Try.prog 3 = some (false, 1) := by kernel_rfl
theorem fo_156_0 : fieldOff Try.prog 156 0 = some 0 := by kernel_rfl
theorem fo_86_1 : fieldOff Try.prog 86 1 = some 1 := by kernel_rfl
theorem sl_23 : slT Try.prog 23 = some (3, 1) := by kernel_rfl
theorem mo_ : Try.prog.follows .mixedOrders = true := by kernel_rfl
theorem az_156 : aggsz Try.prog 156 = some (true, 3) := by kernel_rfl
theorem az_86 : aggsz Try.prog 86 = some (true, 2) := by kernel_rfl
theorem en_100 : Ent Try.prog 100 := enters_of Try.func100 (by kernel_rfl) rfl
theorem fo_156_1 : fieldOff Try.prog 156 1 = some 1 := by kernel_rfl
theorem ar_254 : arrT Try.prog 254 = some (3, 2) := by kernel_rfl
theorem fo_76_0 : fieldOff Try.prog 76 0 = some 0 := by kernel_rfl
theorem fo_53_0 : fieldOff Try.prog 53 0 = some 0 := by kernel_rfl
theorem az_49 : aggsz Try.prog 49 = some (false, 1) := by kernel_rfl
theorem ul_49 : Try.prog.underlying 49 = some (.slice 68) := by kernel_rfl
theorem fo_76_1 : fieldOff Try.prog 76 1 = some 7 := by kernel_rfl
theorem az_24 : aggsz Try.prog 24 = some (false, 1) := by kernel_rfl
theorem ul_24 : Try.prog.underlying 24 = some (.slice 39) := by kernel_rfl
theorem fo_76_2 : fieldOff Try.prog 76 2 = some 8 := by kernel_rfl
theorem fo_39_0 : fieldOff Try.prog 39 0 = some 0 := by kernel_rfl
theorem fo_39_1 : fieldOff Try.prog 39 1 = some 1 := by kernel_rfl
theorem en_66 : Ent Try.prog 66 := enters_of Try.func66 (by kernel_rfl) rfl
theorem fo_51_1 : fieldOff Try.prog 51 1 = some 1 := by kernel_rfl
theorem fo_51_0 : fieldOff Try.prog 51 0 = some 0 := by kernel_rfl
theorem sl_49 : slT Try.prog 49 = some (68, 7) := by kernel_rfl
theorem az_68 : aggsz Try.prog 68 = some (true, 7) := by kernel_rfl
theorem ze_68 : zeroL Try.prog 68 = some [.int .i64 0, .int .i64 0, .int .i64 0, .int .i64 0, .int .i64 0, .int .i64 0, .int .i64 0] := by kernel_rfl
theorem fo_68_0 : fieldOff Try.prog 68 0 = some 0 := by kernel_rfl
theorem az_39 : aggsz Try.prog 39 = some (true, 2) := by kernel_rfl
theorem en_65 : Ent Try.prog 65 := enters_of Try.func65 (by kernel_rfl) rfl
theorem fo_68_1 : fieldOff Try.prog 68 1 = some 2 := by kernel_rfl
theorem fo_68_2 : fieldOff Try.prog 68 2 = some 4 := by kernel_rfl
theorem fo_68_3 : fieldOff Try.prog 68 3 = some 5 := by kernel_rfl
theorem az_51 : aggsz Try.prog 51 = some (true, 2) := by kernel_rfl
theorem en_67 : Ent Try.prog 67 := enters_of Try.func67 (by kernel_rfl) rfl
theorem fo_53_1 : fieldOff Try.prog 53 1 = some 1 := by kernel_rfl
theorem fo_53_2 : fieldOff Try.prog 53 2 = some 2 := by kernel_rfl
theorem fo_53_3 : fieldOff Try.prog 53 3 = some 3 := by kernel_rfl
theorem fo_53_4 : fieldOff Try.prog 53 4 = some 5 := by kernel_rfl
theorem fo_53_5 : fieldOff Try.prog 53 5 = some 6 := by kernel_rfl
theorem az_53 : aggsz Try.prog 53 = some (true, 7) := by kernel_rfl
theorem en_21 : Ent Try.prog 21 := enters_of Try.func21 (by kernel_rfl) rfl
theorem en_82 : Ent Try.prog 82 := enters_of Try.func82 (by kernel_rfl) rfl
theorem sl_24 : slT Try.prog 24 = some (39, 2) := by kernel_rfl
theorem ze_53 : zeroL Try.prog 53 = some [.slice none 0 0, .int .i64 0, .int .i64 0, .int .i64 0, .int .i64 0, .int .i64 0, .int .i64 0] := by kernel_rfl
theorem en_124 : Ent Try.prog 124 := enters_of Try.func124 (by kernel_rfl) rfl
theorem en_128 : Ent Try.prog 128 := enters_of Try.func128 (by kernel_rfl) rfl
theorem en_129 : Ent Try.prog 129 := enters_of Try.func129 (by kernel_rfl) rfl
theorem en_175 : Ent Try.prog 175 := enters_of Try.func175 (by kernel_rfl) rfl
theorem en_127 : Ent Try.prog 127 := enters_of Try.func127 (by kernel_rfl) rfl
theorem en_130 : Ent Try.prog 130 := enters_of Try.func130 (by kernel_rfl) rfl
theorem ze_51 : zeroL Try.prog 51 = some [.int .i64 0, .int .i64 0] := by kernel_rfl
theorem fo_147_0 : fieldOff Try.prog 147 0 = some 0 := by kernel_rfl
theorem fo_147_1 : fieldOff Try.prog 147 1 = some 1 := by kernel_rfl
theorem en_174 : Ent Try.prog 174 := enters_of Try.func174 (by kernel_rfl) rfl
theorem en_126 : Ent Try.prog 126 := enters_of Try.func126 (by kernel_rfl) rfl
theorem az_147 : aggsz Try.prog 147 = some (true, 2) := by kernel_rfl
theorem en_76 : Ent Try.prog 76 := enters_of Try.func76 (by kernel_rfl) rfl
theorem en_77 : Ent Try.prog 77 := enters_of Try.func77 (by kernel_rfl) rfl
theorem ze_4 : zeroL Try.prog 4 = some [.bool false] := by kernel_rfl
theorem en_133 : Ent Try.prog 133 := enters_of Try.func133 (by kernel_rfl) rfl
theorem en_74 : Ent Try.prog 74 := enters_of Try.func74 (by kernel_rfl) rfl
theorem en_134 : Ent Try.prog 134 := enters_of Try.func134 (by kernel_rfl) rfl
theorem az_4 : aggsz Try.prog 4 = some (false, 1) := by kernel_rfl
theorem en_176 : Ent Try.prog 176 := enters_of Try.func176 (by kernel_rfl) rfl
theorem ze_3 : zeroL Try.prog 3 = some [.int .i64 0] := by kernel_rfl
theorem en_75 : Ent Try.prog 75 := enters_of Try.func75 (by kernel_rfl) rfl
theorem ze_147 : zeroL Try.prog 147 = some [.int .i64 0, .int .i64 0] := by kernel_rfl
theorem az_193 : aggsz Try.prog 193 = some (false, 1) := by kernel_rfl
theorem en_125 : Ent Try.prog 125 := enters_of Try.func125 (by kernel_rfl) rfl
theorem en_132 : Ent Try.prog 132 := enters_of Try.func132 (by kernel_rfl) rfl
theorem en_131 : Ent Try.prog 131 := enters_of Try.func131 (by kernel_rfl) rfl
theorem en_79 : Ent Try.prog 79 := enters_of Try.func79 (by kernel_rfl) rfl
theorem en_80 : Ent Try.prog 80 := enters_of Try.func80 (by kernel_rfl) rfl
theorem ze_76 : zeroL Try.prog 76 = some [.slice none 0 0, .int .i64 0, .int .i64 0, .int .i64 0, .int .i64 0, .int .i64 0, .int .i64 0, .slice none 0 0, .slice none 0 0] := by kernel_rfl
theorem en_69 : Ent Try.prog 69 := enters_of Try.func69 (by kernel_rfl) rfl
theorem az_76 : aggsz Try.prog 76 = some (true, 9) := by kernel_rfl
theorem en_137 : Ent Try.prog 137 := enters_of Try.func137 (by kernel_rfl) rfl
theorem en_177 : Ent Try.prog 177 := enters_of Try.func177 (by kernel_rfl) rfl
theorem en_178 : Ent Try.prog 178 := enters_of Try.func178 (by kernel_rfl) rfl
theorem en_136 : Ent Try.prog 136 := enters_of Try.func136 (by kernel_rfl) rfl
theorem en_139 : Ent Try.prog 139 := enters_of Try.func139 (by kernel_rfl) rfl
theorem en_138 : Ent Try.prog 138 := enters_of Try.func138 (by kernel_rfl) rfl
theorem en_140 : Ent Try.prog 140 := enters_of Try.func140 (by kernel_rfl) rfl
theorem en_73 : Ent Try.prog 73 := enters_of Try.func73 (by kernel_rfl) rfl
theorem en_78 : Ent Try.prog 78 := enters_of Try.func78 (by kernel_rfl) rfl
theorem en_142 : Ent Try.prog 142 := enters_of Try.func142 (by kernel_rfl) rfl
theorem ze_39 : zeroL Try.prog 39 = some [.int .i64 0, .int .i64 0] := by kernel_rfl
theorem en_28 : Ent Try.prog 28 := enters_of Try.func28 (by kernel_rfl) rfl
theorem en_141 : Ent Try.prog 141 := enters_of Try.func141 (by kernel_rfl) rfl
theorem en_84 : Ent Try.prog 84 := enters_of Try.func84 (by kernel_rfl) rfl
theorem en_85 : Ent Try.prog 85 := enters_of Try.func85 (by kernel_rfl) rfl
theorem en_30 : Ent Try.prog 30 := enters_of Try.func30 (by kernel_rfl) rfl
theorem en_83 : Ent Try.prog 83 := enters_of Try.func83 (by kernel_rfl) rfl
theorem en_36 : Ent Try.prog 36 := enters_of Try.func36 (by kernel_rfl) rfl
theorem eqa_39 (a0 a1 b0 b1 : Int) (w : World) : (Op.equal 39 (.agg [.int .i64 a0, .int .i64 a1].toArray) (.agg [.int .i64 b0, .int .i64 b1].toArray)).run Try.prog w = .ok ((a0 == b0) && (a1 == b1)) w := by
  have h := run_equalIn_struct (P := Try.prog) w 9999 39 #[.int .i64 a0, .int .i64 a1] #[.int .i64 b0, .int .i64 b1] (by kernel_rfl) (by kernel_rfl)
  have h2 : (Op.eqFields 9999 #[.int .i64 a0, .int .i64 a1] #[.int .i64 b0, .int .i64 b1] (Try.prog.fieldsOf 39).toList).run Try.prog w = .ok ((a0 == b0) && (a1 == b1)) w := by
    cases e0 : (a0 == b0)
    · simp [go_sem, Program.fieldsOf, e0]
    cases e1 : (a1 == b1)
    · simp [go_sem, Program.fieldsOf, e0, e1]
    simp [go_sem, Program.fieldsOf, e0, e1]
  exact h.trans h2
theorem eqg_39 : Try.prog.eqGuardType Try.prog.depth 39 = false := by kernel_rfl
theorem en_86 : Ent Try.prog 86 := enters_of Try.func86 (by kernel_rfl) rfl
theorem ul_103 : Try.prog.underlying 103 = some (.slice 86) := by kernel_rfl
theorem sl_103 : slT Try.prog 103 = some (86, 2) := by kernel_rfl
theorem en_179 : Ent Try.prog 179 := enters_of Try.func179 (by kernel_rfl) rfl
theorem en_143 : Ent Try.prog 143 := enters_of Try.func143 (by kernel_rfl) rfl
theorem en_144 : Ent Try.prog 144 := enters_of Try.func144 (by kernel_rfl) rfl
theorem ze_156 : zeroL Try.prog 156 = some [.int .i64 0, .slice none 0 0, .slice none 0 0] := by kernel_rfl
theorem ap_23 : apT Try.prog 23 = some (3, 1, 8) := by kernel_rfl
theorem ze_160 : zeroL Try.prog 160 = some [.int .u16 0] := by kernel_rfl
theorem en_145 : Ent Try.prog 145 := enters_of Try.func145 (by kernel_rfl) rfl
theorem az_160 : aggsz Try.prog 160 = some (false, 1) := by kernel_rfl
theorem en_180 : Ent Try.prog 180 := enters_of Try.func180 (by kernel_rfl) rfl
theorem en_87 : Ent Try.prog 87 := enters_of Try.func87 (by kernel_rfl) rfl
theorem en_88 : Ent Try.prog 88 := enters_of Try.func88 (by kernel_rfl) rfl
theorem en_89 : Ent Try.prog 89 := enters_of Try.func89 (by kernel_rfl) rfl
theorem en_90 : Ent Try.prog 90 := enters_of Try.func90 (by kernel_rfl) rfl
theorem en_91 : Ent Try.prog 91 := enters_of Try.func91 (by kernel_rfl) rfl
theorem en_32 : Ent Try.prog 32 := enters_of Try.func32 (by kernel_rfl) rfl
theorem en_33 : Ent Try.prog 33 := enters_of Try.func33 (by kernel_rfl) rfl
theorem en_34 : Ent Try.prog 34 := enters_of Try.func34 (by kernel_rfl) rfl
theorem en_35 : Ent Try.prog 35 := enters_of Try.func35 (by kernel_rfl) rfl
theorem en_37 : Ent Try.prog 37 := enters_of Try.func37 (by kernel_rfl) rfl
theorem en_38 : Ent Try.prog 38 := enters_of Try.func38 (by kernel_rfl) rfl
theorem en_39 : Ent Try.prog 39 := enters_of Try.func39 (by kernel_rfl) rfl
end Go.Proofs.Yteihdclpiekmaaa
