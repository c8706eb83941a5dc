/-
  Printed by a program: what is well-formed, and how a datum is opened.
-/
import Derived.Test.YteihdclpiekmaaaLfGenT
import Derived.Test.YteihdclpiekmaaaEngM
namespace Go.Proofs.Yteihdclpiekmaaa
open Go Go.RowKit Go.Dec
set_option linter.unusedVariables false
def W_Span (x : Span) : Prop := I64 x.Low ∧ I64 x.High
set_option maxRecDepth 100000 in
theorem o_Span {T : Type} {enc : TypeId × Value → T} : Opens enc Try.prog 39 2 R_Span W_Span := by
  intro w base sp held fuel cs y h
  obtain ⟨xs, n, _, rfl, hl, hlen, hf⟩ := DataW.trod_struct Try.underlying39 h
  have hl2 : cs.length = 2 := hl.trans (by kernel_rfl)
  have hx : xs.length = 2 := hlen
  obtain ⟨c0, c1, rfl⟩ : ∃ c0 c1, cs = [c0, c1] := by
    match cs, hl2 with
    | [c0, c1], _ => exact ⟨_, _, rfl⟩
  have co3 : Try.prog.cellsOf 3 = 1 := by kernel_rfl
  have e0 : DataW.trod enc Try.prog w base sp held n 3 (([c0, c1].drop 0).take (Try.prog.cellsOf 3)) = xs[0]? := hf 0 _ rfl
  rw [co3] at e0
  obtain ⟨_, x0, r0, w0⟩ := (Opens.int (by kernel_rfl)) _ _ _ _ _ _ _ (e0.trans (List.getElem?_eq_getElem (by omega)))
  have e1 : DataW.trod enc Try.prog w base sp held n 3 (([c0, c1].drop 1).take (Try.prog.cellsOf 3)) = xs[1]? := hf 1 _ rfl
  rw [co3] at e1
  obtain ⟨_, x1, r1, w1⟩ := (Opens.int (by kernel_rfl)) _ _ _ _ _ _ _ (e1.trans (List.getElem?_eq_getElem (by omega)))
  have q0 : [c0] = [_] := r0
  cases q0
  have q1 : [c1] = [_] := r1
  cases q1
  exact ⟨rfl, ⟨x0, x1⟩, rfl, w0, w1⟩
def W_Frac (x : Frac) : Prop := I64 x.Num ∧ I64 x.Den
set_option maxRecDepth 100000 in
theorem o_Frac {T : Type} {enc : TypeId × Value → T} : Opens enc Try.prog 51 2 R_Frac W_Frac := by
  intro w base sp held fuel cs y h
  obtain ⟨xs, n, _, rfl, hl, hlen, hf⟩ := DataW.trod_struct Try.underlying51 h
  have hl2 : cs.length = 2 := hl.trans (by kernel_rfl)
  have hx : xs.length = 2 := hlen
  obtain ⟨c0, c1, rfl⟩ : ∃ c0 c1, cs = [c0, c1] := by
    match cs, hl2 with
    | [c0, c1], _ => exact ⟨_, _, rfl⟩
  have co3 : Try.prog.cellsOf 3 = 1 := by kernel_rfl
  have e0 : DataW.trod enc Try.prog w base sp held n 3 (([c0, c1].drop 0).take (Try.prog.cellsOf 3)) = xs[0]? := hf 0 _ rfl
  rw [co3] at e0
  obtain ⟨_, x0, r0, w0⟩ := (Opens.int (by kernel_rfl)) _ _ _ _ _ _ _ (e0.trans (List.getElem?_eq_getElem (by omega)))
  have e1 : DataW.trod enc Try.prog w base sp held n 3 (([c0, c1].drop 1).take (Try.prog.cellsOf 3)) = xs[1]? := hf 1 _ rfl
  rw [co3] at e1
  obtain ⟨_, x1, r1, w1⟩ := (Opens.int (by kernel_rfl)) _ _ _ _ _ _ _ (e1.trans (List.getElem?_eq_getElem (by omega)))
  have q0 : [c0] = [_] := r0
  cases q0
  have q1 : [c1] = [_] := r1
  cases q1
  exact ⟨rfl, ⟨x0, x1⟩, rfl, w0, w1⟩
def W_Section (x : Section) : Prop := W_Span x.Arm ∧ W_Span x.Stretch ∧ I64 x.Base ∧ W_Frac x.Gear
set_option maxRecDepth 100000 in
theorem o_Section {T : Type} {enc : TypeId × Value → T} : Opens enc Try.prog 68 7 R_Section W_Section := by
  intro w base sp held fuel cs y h
  obtain ⟨xs, n, _, rfl, hl, hlen, hf⟩ := DataW.trod_struct Try.underlying68 h
  have hl2 : cs.length = 7 := hl.trans (by kernel_rfl)
  have hx : xs.length = 4 := hlen
  obtain ⟨c0, c1, c2, c3, c4, c5, c6, rfl⟩ : ∃ c0 c1 c2 c3 c4 c5 c6, cs = [c0, c1, c2, c3, c4, c5, c6] := by
    match cs, hl2 with
    | [c0, c1, c2, c3, c4, c5, c6], _ => exact ⟨_, _, _, _, _, _, _, rfl⟩
  have co3 : Try.prog.cellsOf 3 = 1 := by kernel_rfl
  have co39 : Try.prog.cellsOf 39 = 2 := by kernel_rfl
  have co51 : Try.prog.cellsOf 51 = 2 := by kernel_rfl
  have e0 : DataW.trod enc Try.prog w base sp held n 39 (([c0, c1, c2, c3, c4, c5, c6].drop 0).take (Try.prog.cellsOf 39)) = xs[0]? := hf 0 _ rfl
  rw [co39] at e0
  obtain ⟨_, x0, r0, w0⟩ := o_Span _ _ _ _ _ _ _ (e0.trans (List.getElem?_eq_getElem (by omega)))
  have e1 : DataW.trod enc Try.prog w base sp held n 39 (([c0, c1, c2, c3, c4, c5, c6].drop 2).take (Try.prog.cellsOf 39)) = xs[1]? := hf 1 _ rfl
  rw [co39] at e1
  obtain ⟨_, x1, r1, w1⟩ := o_Span _ _ _ _ _ _ _ (e1.trans (List.getElem?_eq_getElem (by omega)))
  have e2 : DataW.trod enc Try.prog w base sp held n 3 (([c0, c1, c2, c3, c4, c5, c6].drop 4).take (Try.prog.cellsOf 3)) = xs[2]? := hf 2 _ rfl
  rw [co3] at e2
  obtain ⟨_, x2, r2, w2⟩ := (Opens.int (by kernel_rfl)) _ _ _ _ _ _ _ (e2.trans (List.getElem?_eq_getElem (by omega)))
  have e3 : DataW.trod enc Try.prog w base sp held n 51 (([c0, c1, c2, c3, c4, c5, c6].drop 5).take (Try.prog.cellsOf 51)) = xs[3]? := hf 3 _ rfl
  rw [co51] at e3
  obtain ⟨_, x3, r3, w3⟩ := o_Frac _ _ _ _ _ _ _ (e3.trans (List.getElem?_eq_getElem (by omega)))
  have q0 : [c0, c1] = _ := r0
  cases q0
  have q1 : [c2, c3] = _ := r1
  cases q1
  have q2 : [c4] = [_] := r2
  cases q2
  have q3 : [c5, c6] = _ := r3
  cases q3
  exact ⟨rfl, ⟨x0, x1, x2, x3⟩, rfl, w0, w1, w2, w3⟩
def W_Frame (x : Frame) : Prop := (fun (l : List Section) => (∀ x ∈ l, W_Section x) ∧ l.length ≤ 9223372036854775807) x.Sections ∧ I64 x.Low ∧ I64 x.High ∧ W_Frac x.Ease ∧ I64 x.Rod ∧ I64 x.Case
set_option maxRecDepth 100000 in
theorem o_Frame {T : Type} {enc : TypeId × Value → T} : Opens enc Try.prog 53 7 R_Frame W_Frame := by
  intro w base sp held fuel cs y h
  obtain ⟨xs, n, _, rfl, hl, hlen, hf⟩ := DataW.trod_struct Try.underlying53 h
  have hl2 : cs.length = 7 := hl.trans (by kernel_rfl)
  have hx : xs.length = 6 := hlen
  obtain ⟨c0, c1, c2, c3, c4, c5, c6, rfl⟩ : ∃ c0 c1 c2 c3 c4 c5 c6, cs = [c0, c1, c2, c3, c4, c5, c6] := by
    match cs, hl2 with
    | [c0, c1, c2, c3, c4, c5, c6], _ => exact ⟨_, _, _, _, _, _, _, rfl⟩
  have co3 : Try.prog.cellsOf 3 = 1 := by kernel_rfl
  have co49 : Try.prog.cellsOf 49 = 1 := by kernel_rfl
  have co51 : Try.prog.cellsOf 51 = 2 := by kernel_rfl
  have e0 : DataW.trod enc Try.prog w base sp held n 49 (([c0, c1, c2, c3, c4, c5, c6].drop 0).take (Try.prog.cellsOf 49)) = xs[0]? := hf 0 _ rfl
  rw [co49] at e0
  obtain ⟨_, x0, r0, w0⟩ := (Opens.slice (e := 68) (sz := 7) (by kernel_rfl) (by kernel_rfl) rfl o_Section) _ _ _ _ _ _ _ (e0.trans (List.getElem?_eq_getElem (by omega)))
  have e1 : DataW.trod enc Try.prog w base sp held n 3 (([c0, c1, c2, c3, c4, c5, c6].drop 1).take (Try.prog.cellsOf 3)) = xs[1]? := hf 1 _ rfl
  rw [co3] at e1
  obtain ⟨_, x1, r1, w1⟩ := (Opens.int (by kernel_rfl)) _ _ _ _ _ _ _ (e1.trans (List.getElem?_eq_getElem (by omega)))
  have e2 : DataW.trod enc Try.prog w base sp held n 3 (([c0, c1, c2, c3, c4, c5, c6].drop 2).take (Try.prog.cellsOf 3)) = xs[2]? := hf 2 _ rfl
  rw [co3] at e2
  obtain ⟨_, x2, r2, w2⟩ := (Opens.int (by kernel_rfl)) _ _ _ _ _ _ _ (e2.trans (List.getElem?_eq_getElem (by omega)))
  have e3 : DataW.trod enc Try.prog w base sp held n 51 (([c0, c1, c2, c3, c4, c5, c6].drop 3).take (Try.prog.cellsOf 51)) = xs[3]? := hf 3 _ rfl
  rw [co51] at e3
  obtain ⟨_, x3, r3, w3⟩ := o_Frac _ _ _ _ _ _ _ (e3.trans (List.getElem?_eq_getElem (by omega)))
  have e4 : DataW.trod enc Try.prog w base sp held n 3 (([c0, c1, c2, c3, c4, c5, c6].drop 5).take (Try.prog.cellsOf 3)) = xs[4]? := hf 4 _ rfl
  rw [co3] at e4
  obtain ⟨_, x4, r4, w4⟩ := (Opens.int (by kernel_rfl)) _ _ _ _ _ _ _ (e4.trans (List.getElem?_eq_getElem (by omega)))
  have e5 : DataW.trod enc Try.prog w base sp held n 3 (([c0, c1, c2, c3, c4, c5, c6].drop 6).take (Try.prog.cellsOf 3)) = xs[5]? := hf 5 _ rfl
  rw [co3] at e5
  obtain ⟨_, x5, r5, w5⟩ := (Opens.int (by kernel_rfl)) _ _ _ _ _ _ _ (e5.trans (List.getElem?_eq_getElem (by omega)))
  obtain ⟨v0, q0, s0⟩ := r0
  have q0 : [c0] = [v0] := q0
  cases q0
  have q1 : [c1] = [_] := r1
  cases q1
  have q2 : [c2] = [_] := r2
  cases q2
  have q3 : [c3, c4] = _ := r3
  cases q3
  have q4 : [c5] = [_] := r4
  cases q4
  have q5 : [c6] = [_] := r5
  cases q5
  exact ⟨rfl, ⟨x0, x1, x2, x3, x4, x5⟩, ⟨c0, rfl, s0⟩, w0, w1, w2, w3, w4, w5⟩
def W_Canopy (x : Canopy) : Prop := W_Frame x.Frame ∧ (fun (l : List Span) => (∀ x ∈ l, W_Span x) ∧ l.length ≤ 9223372036854775807) x.Ribs ∧ (fun (l : List Int) => (∀ x ∈ l, I64 x) ∧ l.length ≤ 9223372036854775807) x.Shares
set_option maxRecDepth 100000 in
theorem o_Canopy {T : Type} {enc : TypeId × Value → T} : Opens enc Try.prog 76 9 R_Canopy W_Canopy := by
  intro w base sp held fuel cs y h
  obtain ⟨xs, n, _, rfl, hl, hlen, hf⟩ := DataW.trod_struct Try.underlying76 h
  have hl2 : cs.length = 9 := hl.trans (by kernel_rfl)
  have hx : xs.length = 3 := hlen
  obtain ⟨c0, c1, c2, c3, c4, c5, c6, c7, c8, rfl⟩ : ∃ c0 c1 c2 c3 c4 c5 c6 c7 c8, cs = [c0, c1, c2, c3, c4, c5, c6, c7, c8] := by
    match cs, hl2 with
    | [c0, c1, c2, c3, c4, c5, c6, c7, c8], _ => exact ⟨_, _, _, _, _, _, _, _, _, rfl⟩
  have co23 : Try.prog.cellsOf 23 = 1 := by kernel_rfl
  have co24 : Try.prog.cellsOf 24 = 1 := by kernel_rfl
  have co53 : Try.prog.cellsOf 53 = 7 := by kernel_rfl
  have e0 : DataW.trod enc Try.prog w base sp held n 53 (([c0, c1, c2, c3, c4, c5, c6, c7, c8].drop 0).take (Try.prog.cellsOf 53)) = xs[0]? := hf 0 _ rfl
  rw [co53] at e0
  obtain ⟨_, x0, r0, w0⟩ := o_Frame _ _ _ _ _ _ _ (e0.trans (List.getElem?_eq_getElem (by omega)))
  have e1 : DataW.trod enc Try.prog w base sp held n 24 (([c0, c1, c2, c3, c4, c5, c6, c7, c8].drop 7).take (Try.prog.cellsOf 24)) = xs[1]? := hf 1 _ rfl
  rw [co24] at e1
  obtain ⟨_, x1, r1, w1⟩ := (Opens.slice (e := 39) (sz := 2) (by kernel_rfl) (by kernel_rfl) rfl o_Span) _ _ _ _ _ _ _ (e1.trans (List.getElem?_eq_getElem (by omega)))
  have e2 : DataW.trod enc Try.prog w base sp held n 23 (([c0, c1, c2, c3, c4, c5, c6, c7, c8].drop 8).take (Try.prog.cellsOf 23)) = xs[2]? := hf 2 _ rfl
  rw [co23] at e2
  obtain ⟨_, x2, r2, w2⟩ := (Opens.slice (e := 3) (sz := 1) (by kernel_rfl) (by kernel_rfl) rfl (Opens.int (by kernel_rfl))) _ _ _ _ _ _ _ (e2.trans (List.getElem?_eq_getElem (by omega)))
  obtain ⟨v0_0, q0, s0_0⟩ := r0
  cases q0
  obtain ⟨v1, q1, s1⟩ := r1
  have q1 : [c7] = [v1] := q1
  cases q1
  obtain ⟨v2, q2, s2⟩ := r2
  have q2 : [c8] = [v2] := q2
  cases q2
  exact ⟨rfl, ⟨x0, x1, x2⟩, ⟨c0, c7, c8, rfl, s0_0, s1, s2⟩, w0, w1, w2⟩
end Go.Proofs.Yteihdclpiekmaaa
