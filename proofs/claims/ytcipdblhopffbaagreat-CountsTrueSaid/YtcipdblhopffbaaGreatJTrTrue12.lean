/-
  A part of the proof of TrTrue: the texts TrOpn, TrGCountsTrue, TrLawTrueC.
-/
import Derived.Test.YtcipdblhopffbaaGreatJTrTrue11
section
namespace Go.Proofs.YtcipdblhopffbaaGreat
open Go Go.RowKit Go.Dec
set_option linter.unusedVariables false
def W_Span (x : Span) : Prop := I64 x.Low ∧ I64 x.High
set_option maxRecDepth 100000 in
theorem o_Span {T : Type} {enc : TypeId × Value → T} : Opens enc Tryz.prog 42 2 R_Span W_Span := by
  intro w base sp held fuel cs y h
  obtain ⟨xs, n, _, rfl, hl, hlen, hf⟩ := DataW.trod_struct Tryz.underlying42 h
  have hl2 : cs.length = 2 := hl.trans (by kernel_rfl)
  have hx : xs.length = 2 := hlen
  obtain ⟨c0, c1, rfl⟩ : ∃ c0 c1, cs = [c0, c1] := by
    match cs, hl2 with
    | [c0, c1], _ => exact ⟨_, _, rfl⟩
  have co3 : Tryz.prog.cellsOf 3 = 1 := by kernel_rfl
  have e0 : DataW.trod enc Tryz.prog w base sp held n 3 (([c0, c1].drop 0).take (Tryz.prog.cellsOf 3)) = xs[0]? := hf 0 _ rfl
  rw [co3] at e0
  obtain ⟨_, x0, r0, w0⟩ := (Opens.int (by kernel_rfl)) _ _ _ _ _ _ _ (e0.trans (List.getElem?_eq_getElem (by omega)))
  have e1 : DataW.trod enc Tryz.prog w base sp held n 3 (([c0, c1].drop 1).take (Tryz.prog.cellsOf 3)) = xs[1]? := hf 1 _ rfl
  rw [co3] at e1
  obtain ⟨_, x1, r1, w1⟩ := (Opens.int (by kernel_rfl)) _ _ _ _ _ _ _ (e1.trans (List.getElem?_eq_getElem (by omega)))
  have q0 : [c0] = [_] := r0
  cases q0
  have q1 : [c1] = [_] := r1
  cases q1
  exact ⟨rfl, ⟨x0, x1⟩, rfl, w0, w1⟩
def W_Frac (x : Frac) : Prop := I64 x.Num ∧ I64 x.Den
set_option maxRecDepth 100000 in
theorem o_Frac {T : Type} {enc : TypeId × Value → T} : Opens enc Tryz.prog 24 2 R_Frac W_Frac := by
  intro w base sp held fuel cs y h
  obtain ⟨xs, n, _, rfl, hl, hlen, hf⟩ := DataW.trod_struct Tryz.underlying24 h
  have hl2 : cs.length = 2 := hl.trans (by kernel_rfl)
  have hx : xs.length = 2 := hlen
  obtain ⟨c0, c1, rfl⟩ : ∃ c0 c1, cs = [c0, c1] := by
    match cs, hl2 with
    | [c0, c1], _ => exact ⟨_, _, rfl⟩
  have co3 : Tryz.prog.cellsOf 3 = 1 := by kernel_rfl
  have e0 : DataW.trod enc Tryz.prog w base sp held n 3 (([c0, c1].drop 0).take (Tryz.prog.cellsOf 3)) = xs[0]? := hf 0 _ rfl
  rw [co3] at e0
  obtain ⟨_, x0, r0, w0⟩ := (Opens.int (by kernel_rfl)) _ _ _ _ _ _ _ (e0.trans (List.getElem?_eq_getElem (by omega)))
  have e1 : DataW.trod enc Tryz.prog w base sp held n 3 (([c0, c1].drop 1).take (Tryz.prog.cellsOf 3)) = xs[1]? := hf 1 _ rfl
  rw [co3] at e1
  obtain ⟨_, x1, r1, w1⟩ := (Opens.int (by kernel_rfl)) _ _ _ _ _ _ _ (e1.trans (List.getElem?_eq_getElem (by omega)))
  have q0 : [c0] = [_] := r0
  cases q0
  have q1 : [c1] = [_] := r1
  cases q1
  exact ⟨rfl, ⟨x0, x1⟩, rfl, w0, w1⟩
def W_Section (x : Section) : Prop := W_Span x.Arm ∧ W_Span x.Stretch ∧ I64 x.Base ∧ W_Frac x.Gear
set_option maxRecDepth 100000 in
theorem o_Section {T : Type} {enc : TypeId × Value → T} : Opens enc Tryz.prog 124 7 R_Section W_Section := by
  intro w base sp held fuel cs y h
  obtain ⟨xs, n, _, rfl, hl, hlen, hf⟩ := DataW.trod_struct Tryz.underlying124 h
  have hl2 : cs.length = 7 := hl.trans (by kernel_rfl)
  have hx : xs.length = 4 := hlen
  obtain ⟨c0, c1, c2, c3, c4, c5, c6, rfl⟩ : ∃ c0 c1 c2 c3 c4 c5 c6, cs = [c0, c1, c2, c3, c4, c5, c6] := by
    match cs, hl2 with
    | [c0, c1, c2, c3, c4, c5, c6], _ => exact ⟨_, _, _, _, _, _, _, rfl⟩
  have co3 : Tryz.prog.cellsOf 3 = 1 := by kernel_rfl
  have co24 : Tryz.prog.cellsOf 24 = 2 := by kernel_rfl
  have co42 : Tryz.prog.cellsOf 42 = 2 := by kernel_rfl
  have e0 : DataW.trod enc Tryz.prog w base sp held n 42 (([c0, c1, c2, c3, c4, c5, c6].drop 0).take (Tryz.prog.cellsOf 42)) = xs[0]? := hf 0 _ rfl
  rw [co42] at e0
  obtain ⟨_, x0, r0, w0⟩ := o_Span _ _ _ _ _ _ _ (e0.trans (List.getElem?_eq_getElem (by omega)))
  have e1 : DataW.trod enc Tryz.prog w base sp held n 42 (([c0, c1, c2, c3, c4, c5, c6].drop 2).take (Tryz.prog.cellsOf 42)) = xs[1]? := hf 1 _ rfl
  rw [co42] at e1
  obtain ⟨_, x1, r1, w1⟩ := o_Span _ _ _ _ _ _ _ (e1.trans (List.getElem?_eq_getElem (by omega)))
  have e2 : DataW.trod enc Tryz.prog w base sp held n 3 (([c0, c1, c2, c3, c4, c5, c6].drop 4).take (Tryz.prog.cellsOf 3)) = xs[2]? := hf 2 _ rfl
  rw [co3] at e2
  obtain ⟨_, x2, r2, w2⟩ := (Opens.int (by kernel_rfl)) _ _ _ _ _ _ _ (e2.trans (List.getElem?_eq_getElem (by omega)))
  have e3 : DataW.trod enc Tryz.prog w base sp held n 24 (([c0, c1, c2, c3, c4, c5, c6].drop 5).take (Tryz.prog.cellsOf 24)) = xs[3]? := hf 3 _ rfl
  rw [co24] at e3
  obtain ⟨_, x3, r3, w3⟩ := o_Frac _ _ _ _ _ _ _ (e3.trans (List.getElem?_eq_getElem (by omega)))
  have q0 : [c0, c1] = _ := r0
  cases q0
  have q1 : [c2, c3] = _ := r1
  cases q1
  have q2 : [c4] = [_] := r2
  cases q2
  have q3 : [c5, c6] = _ := r3
  cases q3
  exact ⟨rfl, ⟨x0, x1, x2, x3⟩, rfl, w0, w1, w2, w3⟩
def W_Frame (x : Frame) : Prop := (fun (l : List Section) => (∀ x ∈ l, W_Section x) ∧ l.length ≤ 9223372036854775807) x.Sections ∧ I64 x.Low ∧ I64 x.High ∧ W_Frac x.Ease ∧ I64 x.Rod ∧ I64 x.Case
set_option maxRecDepth 100000 in
theorem o_Frame {T : Type} {enc : TypeId × Value → T} : Opens enc Tryz.prog 26 7 R_Frame W_Frame := by
  intro w base sp held fuel cs y h
  obtain ⟨xs, n, _, rfl, hl, hlen, hf⟩ := DataW.trod_struct Tryz.underlying26 h
  have hl2 : cs.length = 7 := hl.trans (by kernel_rfl)
  have hx : xs.length = 6 := hlen
  obtain ⟨c0, c1, c2, c3, c4, c5, c6, rfl⟩ : ∃ c0 c1 c2 c3 c4 c5 c6, cs = [c0, c1, c2, c3, c4, c5, c6] := by
    match cs, hl2 with
    | [c0, c1, c2, c3, c4, c5, c6], _ => exact ⟨_, _, _, _, _, _, _, rfl⟩
  have co3 : Tryz.prog.cellsOf 3 = 1 := by kernel_rfl
  have co22 : Tryz.prog.cellsOf 22 = 1 := by kernel_rfl
  have co24 : Tryz.prog.cellsOf 24 = 2 := by kernel_rfl
  have e0 : DataW.trod enc Tryz.prog w base sp held n 22 (([c0, c1, c2, c3, c4, c5, c6].drop 0).take (Tryz.prog.cellsOf 22)) = xs[0]? := hf 0 _ rfl
  rw [co22] at e0
  obtain ⟨_, x0, r0, w0⟩ := (Opens.slice (e := 124) (sz := 7) (by kernel_rfl) (by kernel_rfl) rfl o_Section) _ _ _ _ _ _ _ (e0.trans (List.getElem?_eq_getElem (by omega)))
  have e1 : DataW.trod enc Tryz.prog w base sp held n 3 (([c0, c1, c2, c3, c4, c5, c6].drop 1).take (Tryz.prog.cellsOf 3)) = xs[1]? := hf 1 _ rfl
  rw [co3] at e1
  obtain ⟨_, x1, r1, w1⟩ := (Opens.int (by kernel_rfl)) _ _ _ _ _ _ _ (e1.trans (List.getElem?_eq_getElem (by omega)))
  have e2 : DataW.trod enc Tryz.prog w base sp held n 3 (([c0, c1, c2, c3, c4, c5, c6].drop 2).take (Tryz.prog.cellsOf 3)) = xs[2]? := hf 2 _ rfl
  rw [co3] at e2
  obtain ⟨_, x2, r2, w2⟩ := (Opens.int (by kernel_rfl)) _ _ _ _ _ _ _ (e2.trans (List.getElem?_eq_getElem (by omega)))
  have e3 : DataW.trod enc Tryz.prog w base sp held n 24 (([c0, c1, c2, c3, c4, c5, c6].drop 3).take (Tryz.prog.cellsOf 24)) = xs[3]? := hf 3 _ rfl
  rw [co24] at e3
  obtain ⟨_, x3, r3, w3⟩ := o_Frac _ _ _ _ _ _ _ (e3.trans (List.getElem?_eq_getElem (by omega)))
  have e4 : DataW.trod enc Tryz.prog w base sp held n 3 (([c0, c1, c2, c3, c4, c5, c6].drop 5).take (Tryz.prog.cellsOf 3)) = xs[4]? := hf 4 _ rfl
  rw [co3] at e4
  obtain ⟨_, x4, r4, w4⟩ := (Opens.int (by kernel_rfl)) _ _ _ _ _ _ _ (e4.trans (List.getElem?_eq_getElem (by omega)))
  have e5 : DataW.trod enc Tryz.prog w base sp held n 3 (([c0, c1, c2, c3, c4, c5, c6].drop 6).take (Tryz.prog.cellsOf 3)) = xs[5]? := hf 5 _ rfl
  rw [co3] at e5
  obtain ⟨_, x5, r5, w5⟩ := (Opens.int (by kernel_rfl)) _ _ _ _ _ _ _ (e5.trans (List.getElem?_eq_getElem (by omega)))
  obtain ⟨v0, q0, s0⟩ := r0
  have q0 : [c0] = [v0] := q0
  cases q0
  have q1 : [c1] = [_] := r1
  cases q1
  have q2 : [c2] = [_] := r2
  cases q2
  have q3 : [c3, c4] = _ := r3
  cases q3
  have q4 : [c5] = [_] := r4
  cases q4
  have q5 : [c6] = [_] := r5
  cases q5
  exact ⟨rfl, ⟨x0, x1, x2, x3, x4, x5⟩, ⟨c0, rfl, s0⟩, w0, w1, w2, w3, w4, w5⟩
def W_Canopy (x : Canopy) : Prop := W_Frame x.Frame ∧ (fun (l : List Span) => (∀ x ∈ l, W_Span x) ∧ l.length ≤ 9223372036854775807) x.Ribs ∧ (fun (l : List Int) => (∀ x ∈ l, I64 x) ∧ l.length ≤ 9223372036854775807) x.Shares
set_option maxRecDepth 100000 in
theorem o_Canopy {T : Type} {enc : TypeId × Value → T} : Opens enc Tryz.prog 30 9 R_Canopy W_Canopy := by
  intro w base sp held fuel cs y h
  obtain ⟨xs, n, _, rfl, hl, hlen, hf⟩ := DataW.trod_struct Tryz.underlying30 h
  have hl2 : cs.length = 9 := hl.trans (by kernel_rfl)
  have hx : xs.length = 3 := hlen
  obtain ⟨c0, c1, c2, c3, c4, c5, c6, c7, c8, rfl⟩ : ∃ c0 c1 c2 c3 c4 c5 c6 c7 c8, cs = [c0, c1, c2, c3, c4, c5, c6, c7, c8] := by
    match cs, hl2 with
    | [c0, c1, c2, c3, c4, c5, c6, c7, c8], _ => exact ⟨_, _, _, _, _, _, _, _, _, rfl⟩
  have co26 : Tryz.prog.cellsOf 26 = 7 := by kernel_rfl
  have co27 : Tryz.prog.cellsOf 27 = 1 := by kernel_rfl
  have co28 : Tryz.prog.cellsOf 28 = 1 := by kernel_rfl
  have e0 : DataW.trod enc Tryz.prog w base sp held n 26 (([c0, c1, c2, c3, c4, c5, c6, c7, c8].drop 0).take (Tryz.prog.cellsOf 26)) = xs[0]? := hf 0 _ rfl
  rw [co26] at e0
  obtain ⟨_, x0, r0, w0⟩ := o_Frame _ _ _ _ _ _ _ (e0.trans (List.getElem?_eq_getElem (by omega)))
  have e1 : DataW.trod enc Tryz.prog w base sp held n 27 (([c0, c1, c2, c3, c4, c5, c6, c7, c8].drop 7).take (Tryz.prog.cellsOf 27)) = xs[1]? := hf 1 _ rfl
  rw [co27] at e1
  obtain ⟨_, x1, r1, w1⟩ := (Opens.slice (e := 42) (sz := 2) (by kernel_rfl) (by kernel_rfl) rfl o_Span) _ _ _ _ _ _ _ (e1.trans (List.getElem?_eq_getElem (by omega)))
  have e2 : DataW.trod enc Tryz.prog w base sp held n 28 (([c0, c1, c2, c3, c4, c5, c6, c7, c8].drop 8).take (Tryz.prog.cellsOf 28)) = xs[2]? := hf 2 _ rfl
  rw [co28] at e2
  obtain ⟨_, x2, r2, w2⟩ := (Opens.slice (e := 3) (sz := 1) (by kernel_rfl) (by kernel_rfl) rfl (Opens.int (by kernel_rfl))) _ _ _ _ _ _ _ (e2.trans (List.getElem?_eq_getElem (by omega)))
  obtain ⟨v0_0, q0, s0_0⟩ := r0
  cases q0
  obtain ⟨v1, q1, s1⟩ := r1
  have q1 : [c7] = [v1] := q1
  cases q1
  obtain ⟨v2, q2, s2⟩ := r2
  have q2 : [c8] = [v2] := q2
  cases q2
  exact ⟨rfl, ⟨x0, x1, x2⟩, ⟨c0, c7, c8, rfl, s0_0, s1, s2⟩, w0, w1, w2⟩
def W_Blow (x : Blow) : Prop := I64 x.At ∧ W_Span x.Force
set_option maxRecDepth 100000 in
theorem o_Blow {T : Type} {enc : TypeId × Value → T} : Opens enc Tryz.prog 62 3 R_Blow W_Blow := by
  intro w base sp held fuel cs y h
  obtain ⟨xs, n, _, rfl, hl, hlen, hf⟩ := DataW.trod_struct Tryz.underlying62 h
  have hl2 : cs.length = 3 := hl.trans (by kernel_rfl)
  have hx : xs.length = 2 := hlen
  obtain ⟨c0, c1, c2, rfl⟩ : ∃ c0 c1 c2, cs = [c0, c1, c2] := by
    match cs, hl2 with
    | [c0, c1, c2], _ => exact ⟨_, _, _, rfl⟩
  have co3 : Tryz.prog.cellsOf 3 = 1 := by kernel_rfl
  have co42 : Tryz.prog.cellsOf 42 = 2 := by kernel_rfl
  have e0 : DataW.trod enc Tryz.prog w base sp held n 3 (([c0, c1, c2].drop 0).take (Tryz.prog.cellsOf 3)) = xs[0]? := hf 0 _ rfl
  rw [co3] at e0
  obtain ⟨_, x0, r0, w0⟩ := (Opens.int (by kernel_rfl)) _ _ _ _ _ _ _ (e0.trans (List.getElem?_eq_getElem (by omega)))
  have e1 : DataW.trod enc Tryz.prog w base sp held n 42 (([c0, c1, c2].drop 1).take (Tryz.prog.cellsOf 42)) = xs[1]? := hf 1 _ rfl
  rw [co42] at e1
  obtain ⟨_, x1, r1, w1⟩ := o_Span _ _ _ _ _ _ _ (e1.trans (List.getElem?_eq_getElem (by omega)))
  have q0 : [c0] = [_] := r0
  cases q0
  have q1 : [c1, c2] = _ := r1
  cases q1
  exact ⟨rfl, ⟨x0, x1⟩, rfl, w0, w1⟩
def W_Meter (x : Meter) : Prop := I64 x.Limit ∧ I64 x.Count
set_option maxRecDepth 100000 in
theorem o_Meter {T : Type} {enc : TypeId × Value → T} : Opens enc Tryz.prog 73 2 R_Meter W_Meter := by
  intro w base sp held fuel cs y h
  obtain ⟨xs, n, _, rfl, hl, hlen, hf⟩ := DataW.trod_struct Tryz.underlying73 h
  have hl2 : cs.length = 2 := hl.trans (by kernel_rfl)
  have hx : xs.length = 2 := hlen
  obtain ⟨c0, c1, rfl⟩ : ∃ c0 c1, cs = [c0, c1] := by
    match cs, hl2 with
    | [c0, c1], _ => exact ⟨_, _, rfl⟩
  have co3 : Tryz.prog.cellsOf 3 = 1 := by kernel_rfl
  have e0 : DataW.trod enc Tryz.prog w base sp held n 3 (([c0, c1].drop 0).take (Tryz.prog.cellsOf 3)) = xs[0]? := hf 0 _ rfl
  rw [co3] at e0
  obtain ⟨_, x0, r0, w0⟩ := (Opens.int (by kernel_rfl)) _ _ _ _ _ _ _ (e0.trans (List.getElem?_eq_getElem (by omega)))
  have e1 : DataW.trod enc Tryz.prog w base sp held n 3 (([c0, c1].drop 1).take (Tryz.prog.cellsOf 3)) = xs[1]? := hf 1 _ rfl
  rw [co3] at e1
  obtain ⟨_, x1, r1, w1⟩ := (Opens.int (by kernel_rfl)) _ _ _ _ _ _ _ (e1.trans (List.getElem?_eq_getElem (by omega)))
  have q0 : [c0] = [_] := r0
  cases q0
  have q1 : [c1] = [_] := r1
  cases q1
  exact ⟨rfl, ⟨x0, x1⟩, rfl, w0, w1⟩
def W_Run (x : Run) : Prop := W_Canopy x.Canopy ∧ (fun (l : List Blow) => (∀ x ∈ l, W_Blow x) ∧ l.length ≤ 9223372036854775807) x.Blows ∧ (fun (l : List Meter) => (∀ x ∈ l, W_Meter x) ∧ l.length ≤ 9223372036854775807) x.Meters ∧ I64 x.Wrong
set_option maxRecDepth 100000 in
theorem o_Run {T : Type} {enc : TypeId × Value → T} : Opens enc Tryz.prog 34 12 R_Run W_Run := by
  intro w base sp held fuel cs y h
  obtain ⟨xs, n, _, rfl, hl, hlen, hf⟩ := DataW.trod_struct Tryz.underlying34 h
  have hl2 : cs.length = 12 := hl.trans (by kernel_rfl)
  have hx : xs.length = 4 := hlen
  obtain ⟨c0, c1, c2, c3, c4, c5, c6, c7, c8, c9, c10, c11, rfl⟩ : ∃ c0 c1 c2 c3 c4 c5 c6 c7 c8 c9 c10 c11, cs = [c0, c1, c2, c3, c4, c5, c6, c7, c8, c9, c10, c11] := by
    match cs, hl2 with
    | [c0, c1, c2, c3, c4, c5, c6, c7, c8, c9, c10, c11], _ => exact ⟨_, _, _, _, _, _, _, _, _, _, _, _, rfl⟩
  have co3 : Tryz.prog.cellsOf 3 = 1 := by kernel_rfl
  have co30 : Tryz.prog.cellsOf 30 = 9 := by kernel_rfl
  have co31 : Tryz.prog.cellsOf 31 = 1 := by kernel_rfl
  have co32 : Tryz.prog.cellsOf 32 = 1 := by kernel_rfl
  have e0 : DataW.trod enc Tryz.prog w base sp held n 30 (([c0, c1, c2, c3, c4, c5, c6, c7, c8, c9, c10, c11].drop 0).take (Tryz.prog.cellsOf 30)) = xs[0]? := hf 0 _ rfl
  rw [co30] at e0
  obtain ⟨_, x0, r0, w0⟩ := o_Canopy _ _ _ _ _ _ _ (e0.trans (List.getElem?_eq_getElem (by omega)))
  have e1 : DataW.trod enc Tryz.prog w base sp held n 31 (([c0, c1, c2, c3, c4, c5, c6, c7, c8, c9, c10, c11].drop 9).take (Tryz.prog.cellsOf 31)) = xs[1]? := hf 1 _ rfl
  rw [co31] at e1
  obtain ⟨_, x1, r1, w1⟩ := (Opens.slice (e := 62) (sz := 3) (by kernel_rfl) (by kernel_rfl) rfl o_Blow) _ _ _ _ _ _ _ (e1.trans (List.getElem?_eq_getElem (by omega)))
  have e2 : DataW.trod enc Tryz.prog w base sp held n 32 (([c0, c1, c2, c3, c4, c5, c6, c7, c8, c9, c10, c11].drop 10).take (Tryz.prog.cellsOf 32)) = xs[2]? := hf 2 _ rfl
  rw [co32] at e2
  obtain ⟨_, x2, r2, w2⟩ := (Opens.slice (e := 73) (sz := 2) (by kernel_rfl) (by kernel_rfl) rfl o_Meter) _ _ _ _ _ _ _ (e2.trans (List.getElem?_eq_getElem (by omega)))
  have e3 : DataW.trod enc Tryz.prog w base sp held n 3 (([c0, c1, c2, c3, c4, c5, c6, c7, c8, c9, c10, c11].drop 11).take (Tryz.prog.cellsOf 3)) = xs[3]? := hf 3 _ rfl
  rw [co3] at e3
  obtain ⟨_, x3, r3, w3⟩ := (Opens.int (by kernel_rfl)) _ _ _ _ _ _ _ (e3.trans (List.getElem?_eq_getElem (by omega)))
  obtain ⟨v0_0, v0_7, v0_8, q0, s0_0, s0_7, s0_8⟩ := r0
  cases q0
  obtain ⟨v1, q1, s1⟩ := r1
  have q1 : [c9] = [v1] := q1
  cases q1
  obtain ⟨v2, q2, s2⟩ := r2
  have q2 : [c10] = [v2] := q2
  cases q2
  have q3 : [c11] = [_] := r3
  cases q3
  exact ⟨rfl, ⟨x0, x1, x2, x3⟩, ⟨c0, c7, c8, c9, c10, rfl, s0_0, s0_7, s0_8, s1, s2⟩, w0, w1, w2, w3⟩
def W_ref01_Pair (x : ref01_Pair) : Prop := I64 x.Arm ∧ I64 x.Stretch
set_option maxRecDepth 100000 in
theorem o_ref01_Pair {T : Type} {enc : TypeId × Value → T} : Opens enc Tryz.prog 50 2 R_ref01_Pair W_ref01_Pair := by
  intro w base sp held fuel cs y h
  obtain ⟨xs, n, _, rfl, hl, hlen, hf⟩ := DataW.trod_struct Tryz.underlying50 h
  have hl2 : cs.length = 2 := hl.trans (by kernel_rfl)
  have hx : xs.length = 2 := hlen
  obtain ⟨c0, c1, rfl⟩ : ∃ c0 c1, cs = [c0, c1] := by
    match cs, hl2 with
    | [c0, c1], _ => exact ⟨_, _, rfl⟩
  have co3 : Tryz.prog.cellsOf 3 = 1 := by kernel_rfl
  have e0 : DataW.trod enc Tryz.prog w base sp held n 3 (([c0, c1].drop 0).take (Tryz.prog.cellsOf 3)) = xs[0]? := hf 0 _ rfl
  rw [co3] at e0
  obtain ⟨_, x0, r0, w0⟩ := (Opens.int (by kernel_rfl)) _ _ _ _ _ _ _ (e0.trans (List.getElem?_eq_getElem (by omega)))
  have e1 : DataW.trod enc Tryz.prog w base sp held n 3 (([c0, c1].drop 1).take (Tryz.prog.cellsOf 3)) = xs[1]? := hf 1 _ rfl
  rw [co3] at e1
  obtain ⟨_, x1, r1, w1⟩ := (Opens.int (by kernel_rfl)) _ _ _ _ _ _ _ (e1.trans (List.getElem?_eq_getElem (by omega)))
  have q0 : [c0] = [_] := r0
  cases q0
  have q1 : [c1] = [_] := r1
  cases q1
  exact ⟨rfl, ⟨x0, x1⟩, rfl, w0, w1⟩
def W_law13_Real (x : law13_Real) : Prop := (fun (l : List Int) => (∀ x ∈ l, I64 x) ∧ l.length ≤ 9223372036854775807) x.Forces ∧ W_ref01_Pair x.Pair ∧ (fun (l : List Int) => (∀ x ∈ l, I64 x) ∧ l.length ≤ 9223372036854775807) x.Strengths
set_option maxRecDepth 100000 in
theorem o_law13_Real {T : Type} {enc : TypeId × Value → T} : Opens enc Tryz.prog 52 4 R_law13_Real W_law13_Real := by
  intro w base sp held fuel cs y h
  obtain ⟨xs, n, _, rfl, hl, hlen, hf⟩ := DataW.trod_struct Tryz.underlying52 h
  have hl2 : cs.length = 4 := hl.trans (by kernel_rfl)
  have hx : xs.length = 3 := hlen
  obtain ⟨c0, c1, c2, c3, rfl⟩ : ∃ c0 c1 c2 c3, cs = [c0, c1, c2, c3] := by
    match cs, hl2 with
    | [c0, c1, c2, c3], _ => exact ⟨_, _, _, _, rfl⟩
  have co28 : Tryz.prog.cellsOf 28 = 1 := by kernel_rfl
  have co50 : Tryz.prog.cellsOf 50 = 2 := by kernel_rfl
  have e0 : DataW.trod enc Tryz.prog w base sp held n 28 (([c0, c1, c2, c3].drop 0).take (Tryz.prog.cellsOf 28)) = xs[0]? := hf 0 _ rfl
  rw [co28] at e0
  obtain ⟨_, x0, r0, w0⟩ := (Opens.slice (e := 3) (sz := 1) (by kernel_rfl) (by kernel_rfl) rfl (Opens.int (by kernel_rfl))) _ _ _ _ _ _ _ (e0.trans (List.getElem?_eq_getElem (by omega)))
  have e1 : DataW.trod enc Tryz.prog w base sp held n 50 (([c0, c1, c2, c3].drop 1).take (Tryz.prog.cellsOf 50)) = xs[1]? := hf 1 _ rfl
  rw [co50] at e1
  obtain ⟨_, x1, r1, w1⟩ := o_ref01_Pair _ _ _ _ _ _ _ (e1.trans (List.getElem?_eq_getElem (by omega)))
  have e2 : DataW.trod enc Tryz.prog w base sp held n 28 (([c0, c1, c2, c3].drop 3).take (Tryz.prog.cellsOf 28)) = xs[2]? := hf 2 _ rfl
  rw [co28] at e2
  obtain ⟨_, x2, r2, w2⟩ := (Opens.slice (e := 3) (sz := 1) (by kernel_rfl) (by kernel_rfl) rfl (Opens.int (by kernel_rfl))) _ _ _ _ _ _ _ (e2.trans (List.getElem?_eq_getElem (by omega)))
  obtain ⟨v0, q0, s0⟩ := r0
  have q0 : [c0] = [v0] := q0
  cases q0
  have q1 : [c1, c2] = _ := r1
  cases q1
  obtain ⟨v2, q2, s2⟩ := r2
  have q2 : [c3] = [v2] := q2
  cases q2
  exact ⟨rfl, ⟨x0, x1, x2⟩, ⟨c0, c3, rfl, s0, s2⟩, w0, w1, w2⟩
def W_law13_Ask (x : law13_Ask) : Prop := I64 x.Blow ∧ I64 x.Meter ∧ I64 x.Limit
set_option maxRecDepth 100000 in
theorem o_law13_Ask {T : Type} {enc : TypeId × Value → T} : Opens enc Tryz.prog 54 3 R_law13_Ask W_law13_Ask := by
  intro w base sp held fuel cs y h
  obtain ⟨xs, n, _, rfl, hl, hlen, hf⟩ := DataW.trod_struct Tryz.underlying54 h
  have hl2 : cs.length = 3 := hl.trans (by kernel_rfl)
  have hx : xs.length = 3 := hlen
  obtain ⟨c0, c1, c2, rfl⟩ : ∃ c0 c1 c2, cs = [c0, c1, c2] := by
    match cs, hl2 with
    | [c0, c1, c2], _ => exact ⟨_, _, _, rfl⟩
  have co3 : Tryz.prog.cellsOf 3 = 1 := by kernel_rfl
  have e0 : DataW.trod enc Tryz.prog w base sp held n 3 (([c0, c1, c2].drop 0).take (Tryz.prog.cellsOf 3)) = xs[0]? := hf 0 _ rfl
  rw [co3] at e0
  obtain ⟨_, x0, r0, w0⟩ := (Opens.int (by kernel_rfl)) _ _ _ _ _ _ _ (e0.trans (List.getElem?_eq_getElem (by omega)))
  have e1 : DataW.trod enc Tryz.prog w base sp held n 3 (([c0, c1, c2].drop 1).take (Tryz.prog.cellsOf 3)) = xs[1]? := hf 1 _ rfl
  rw [co3] at e1
  obtain ⟨_, x1, r1, w1⟩ := (Opens.int (by kernel_rfl)) _ _ _ _ _ _ _ (e1.trans (List.getElem?_eq_getElem (by omega)))
  have e2 : DataW.trod enc Tryz.prog w base sp held n 3 (([c0, c1, c2].drop 2).take (Tryz.prog.cellsOf 3)) = xs[2]? := hf 2 _ rfl
  rw [co3] at e2
  obtain ⟨_, x2, r2, w2⟩ := (Opens.int (by kernel_rfl)) _ _ _ _ _ _ _ (e2.trans (List.getElem?_eq_getElem (by omega)))
  have q0 : [c0] = [_] := r0
  cases q0
  have q1 : [c1] = [_] := r1
  cases q1
  have q2 : [c2] = [_] := r2
  cases q2
  exact ⟨rfl, ⟨x0, x1, x2⟩, rfl, w0, w1, w2⟩
end Go.Proofs.YtcipdblhopffbaaGreat
end
section
namespace Go.Proofs.YtcipdblhopffbaaGreat
open Go Go.RowKit Go.Dec
set_option linter.unusedVariables false
-- 4 ferrule/ferrulelaw13.CountsTrue
noncomputable def F_law13_CountsTrue_s1 (n : Nat) (r : Run) (t : law13_Real) (y56 : Int) : Int × Int → Option ((Int × Int) ⊕ Int)
 | (harmed_436, i_437) => if decide (i_437 < (r.Blows.length : Int)) = true then ((geti t.Forces i_437).bind fun y452 => (geti r.Blows i_437).bind fun y457 => (F_ref05_StandsIn n r.Canopy [(Gust.mk y452 y457.At)] (ref05_Truth.mk y56 t.Strengths)).bind fun y466 => (if (!y466) = true then (some (w64 (harmed_436 + 1))) else (some harmed_436)).bind fun harmed_508 => some (Sum.inl (harmed_508, (w64 (i_437 + 1))))) else (some (Sum.inr harmed_436))
noncomputable def F_law13_CountsTrue (n : Nat) (r : Run) (t : law13_Real) (x_ : law13_Ask) : Option Bool :=
 (F_law13_ready n r).bind fun y4 => (if (!y4) = true then (some true) else ((F_ref13_IsTruth n r t.Forces).bind fun y9 => some (!y9)) : Option Bool).bind fun p6 => (if p6 = true then (some true) else ((F_ref05_IsTruth n r.Canopy t.Pair t.Strengths).bind fun y14 => some (!y14)) : Option Bool).bind fun p11 => if ((p11 || (decide (x_.Limit < 0))) || (decide (99 < x_.Limit))) = true then ((F_law13_works n).bind fun y20 => some y20) else ((F_counts_Reads n r x_.Limit).bind fun y21 => (F_counts_Harm n r).bind fun y23 => (F_counts_Stood n r).bind fun y25 => if (((y21.2 != 0) || (y23.2 != 0)) || (y25.2 != 0)) = true then (some false) else ((F_ref05_LiftOf n r.Canopy t.Pair).bind fun y56 => (loopO n (F_law13_CountsTrue_s1 n r t y56) (0, 0)).bind fun harmed_285 => (F_ref13_Above n t.Forces x_.Limit).bind fun y512 => (if ((((decide (y512 < y21.1.Low)) || (decide (y21.1.High < y512))) || (decide (harmed_285 < y23.1.Low))) || (decide (y23.1.High < harmed_285))) = true then (some true) else ((F_law13_agrees n y25.1 (harmed_285 == 0)).bind fun y523 => some (!y523)) : Option Bool).bind fun p520 => if p520 = true then (some false) else ((if ((decide (0 ≤ x_.Blow)) && (decide (x_.Blow < (r.Blows.length : Int)))) = true then ((F_counts_Forces n r x_.Blow).bind fun y552 => (if ((y552.2 != 0) || (decide (20 < (y552.1.length : Int)))) = true then (some true) else ((geti t.Forces x_.Blow).bind fun y566 => (F_law13_has n y552.1 y566).bind fun y571 => some (!y571)) : Option Bool).bind fun p563 => if p563 = true then (some (Sum.inl false)) else (some (Sum.inr ()))) else (some (Sum.inr ()))).bind fun r550 => match r550 with | .inl o => some o | .inr _ => if ((decide (x_.Meter < 0)) || (decide ((r.Meters.length : Int) ≤ x_.Meter))) = true then ((F_law13_works n).bind fun y576 => some y576) else ((F_counts_Right n r x_.Meter).bind fun y577 => (if (y577.2 == 0) = true then ((geti r.Meters x_.Meter).bind fun y610 => (F_ref13_IsRight n y610 t.Forces).bind fun y615 => (F_law13_agrees n y577.1 y615).bind fun y616 => some y616) else (some false) : Option Bool).bind fun p607 => (if p607 = true then ((F_law13_works n).bind fun y621 => some y621) else (some false) : Option Bool).bind fun p618 => some p618))))
set_option maxRecDepth 100000 in
set_option maxHeartbeats 40000000 in
theorem c_law13_CountsTrue (n : Nat) (H : Hp) (r : Run) (r_v0 : Value) (hr_0 : SL H 7 R_Section r_v0 r.Canopy.Frame.Sections) (r_v7 : Value) (hr_7 : SL H 2 R_Span r_v7 r.Canopy.Ribs) (r_v8 : Value) (hr_8 : SL H 1 RInt r_v8 r.Canopy.Shares) (r_v9 : Value) (hr_9 : SL H 3 R_Blow r_v9 r.Blows) (r_v10 : Value) (hr_10 : SL H 2 R_Meter r_v10 r.Meters) (t : law13_Real) (t_v0 : Value) (ht_0 : SL H 1 RInt t_v0 t.Forces) (t_v3 : Value) (ht_3 : SL H 1 RInt t_v3 t.Strengths) (x_ : law13_Ask) (y : Bool) (hF : F_law13_CountsTrue n r t x_ = some y) : SC Tryz.prog 4 [.agg [r_v0, .int .i64 r.Canopy.Frame.Low, .int .i64 r.Canopy.Frame.High, .int .i64 r.Canopy.Frame.Ease.Num, .int .i64 r.Canopy.Frame.Ease.Den, .int .i64 r.Canopy.Frame.Rod, .int .i64 r.Canopy.Frame.Case, r_v7, r_v8, r_v9, r_v10, .int .i64 r.Wrong].toArray, .agg [t_v0, .int .i64 t.Pair.Arm, .int .i64 t.Pair.Stretch, t_v3].toArray, .agg [.int .i64 x_.Blow, .int .i64 x_.Meter, .int .i64 x_.Limit].toArray] (.bool y) H := by
 rw [F_law13_CountsTrue] at hF
 refine SC.of (N := 221) Tryz.func4 rfl rfl rfl fun w => ?_
 refine JC.seq ?_
 refine JC.region (by rfl) ?_
 intro hQ
 refine JL.box (cs := [r_v0, .int .i64 r.Canopy.Frame.Low, .int .i64 r.Canopy.Frame.High, .int .i64 r.Canopy.Frame.Ease.Num, .int .i64 r.Canopy.Frame.Ease.Den, .int .i64 r.Canopy.Frame.Rod, .int .i64 r.Canopy.Frame.Case, r_v7, r_v8, r_v9, r_v10, .int .i64 r.Wrong]) rfl .none rfl ?_
 intro b1
 refine JL.box (cs := [t_v0, .int .i64 t.Pair.Arm, .int .i64 t.Pair.Stretch, t_v3]) rfl .none rfl ?_
 intro b2
 refine JL.box (cs := [.int .i64 x_.Blow, .int .i64 x_.Meter, .int .i64 x_.Limit]) rfl .none rfl ?_
 intro b3
 refine JL.assign .none rfl ?_
 refine JL.done hQ ?_
 refine JQ.go ?_
 refine JC.seq ?_
 refine JC.seq ?_
 refine JC.region (by rfl) ?_
 intro hQ
 refine JL.loadOwn 2 az_34 rfl rfl rfl .none rfl ?_
 obtain ⟨y4, hy4, hF⟩ := bind_some hF
 refine JL.callS (c_law13_ready n H r r_v0 hr_0 r_v7 hr_7 r_v8 hr_8 r_v9 hr_9 r_v10 hr_10 y4 hy4) rfl en_16 .none rfl ?_
 refine JL.not rfl .none rfl ?_
 refine JL.move .none rfl ?_
 obtain ⟨p6, hp6, hF⟩ := bind_some hF
 refine JL.cut 6 (fun f => f 3 = .pointer (some ⟨b1, 0, none⟩) ∧ f 4 = .pointer (some ⟨b2, 0, none⟩) ∧ f 5 = .pointer (some ⟨b3, 0, none⟩) ∧ f 30 = .bool p6) ?_ ?_
 ·intro hJ7
  rcases ite_some hp6 with ⟨hc8, hF⟩ | ⟨hc8, hF⟩
  ·skip
   refine JL.skip (.bool rfl rfl rfl hc8) rfl ?_
   refine JL.skip (.bool rfl rfl rfl hc8) rfl ?_
   refine JL.skip (.bool rfl rfl rfl hc8) rfl ?_
   refine JL.skip (.bool rfl rfl rfl hc8) rfl ?_
   refine JL.skip (.bool rfl rfl rfl hc8) rfl ?_
   refine JL.pick_t (b := (!y4)) rfl hc8 .none rfl ?_
   obtain rfl := Option.some.inj hF
   exact hJ7 _ ⟨rfl, rfl, rfl, rfl⟩
  ·skip
   refine JL.loadOwn 2 az_34 rfl rfl rfl (.some rfl rfl rfl hc8) rfl ?_
   refine JL.fieldAddr fo_52_0 rfl (.some rfl rfl rfl hc8) rfl ?_
   refine JL.loadOwn 1 az_28 rfl rfl rfl (.some rfl rfl rfl hc8) rfl ?_
   obtain ⟨y9, hy9, hF⟩ := bind_some hF
   refine JL.callS (c_ref13_IsTruth n H r r_v0 hr_0 r_v7 hr_7 r_v8 hr_8 r_v9 hr_9 r_v10 hr_10 t.Forces t_v0 ht_0 y9 hy9) rfl en_15 (.some rfl rfl rfl hc8) rfl ?_
   refine JL.not rfl (.some rfl rfl rfl hc8) rfl ?_
   refine JL.pick_f (b := (!y4)) rfl hc8 .none rfl ?_
   obtain rfl := Option.some.inj hF
   exact hJ7 _ ⟨rfl, rfl, rfl, rfl⟩
 ·rintro f ⟨hf3, hf4, hf5, hf30⟩
  refine (JL.norm (i := 3) hf3 (JL.norm (i := 4) hf4 (JL.norm (i := 5) hf5 (JL.norm (i := 30) hf30 ?_))))
  refine JL.move .none rfl ?_
  obtain ⟨p11, hp11, hF⟩ := bind_some hF
  refine JL.cut 9 (fun f => f 3 = .pointer (some ⟨b1, 0, none⟩) ∧ f 4 = .pointer (some ⟨b2, 0, none⟩) ∧ f 5 = .pointer (some ⟨b3, 0, none⟩) ∧ f 40 = .bool p11) ?_ ?_
  ·intro hJ12
   rcases ite_some hp11 with ⟨hc13, hF⟩ | ⟨hc13, hF⟩
   ·skip
    refine JL.skip (.bool rfl rfl rfl hc13) rfl ?_
    refine JL.skip (.bool rfl rfl rfl hc13) rfl ?_
    refine JL.skip (.bool rfl rfl rfl hc13) rfl ?_
    refine JL.skip (.bool rfl rfl rfl hc13) rfl ?_
    refine JL.skip (.bool rfl rfl rfl hc13) rfl ?_
    refine JL.skip (.bool rfl rfl rfl hc13) rfl ?_
    refine JL.skip (.bool rfl rfl rfl hc13) rfl ?_
    refine JL.skip (.bool rfl rfl rfl hc13) rfl ?_
    refine JL.pick_t (b := p6) rfl hc13 .none rfl ?_
    obtain rfl := Option.some.inj hF
    exact hJ12 _ ⟨rfl, rfl, rfl, rfl⟩
   ·skip
    refine JL.fieldAddr fo_34_0 rfl (.some rfl rfl rfl hc13) rfl ?_
    refine JL.loadOwn 2 az_30 rfl rfl rfl (.some rfl rfl rfl hc13) rfl ?_
    refine JL.fieldAddr fo_52_1 rfl (.some rfl rfl rfl hc13) rfl ?_
    refine JL.loadOwn 1 az_50 rfl rfl rfl (.some rfl rfl rfl hc13) rfl ?_
    refine JL.fieldAddr fo_52_2 rfl (.some rfl rfl rfl hc13) rfl ?_
    refine JL.loadOwn 1 az_28 rfl rfl rfl (.some rfl rfl rfl hc13) rfl ?_
    obtain ⟨y14, hy14, hF⟩ := bind_some hF
    refine JL.callS (c_ref05_IsTruth n H r.Canopy r_v0 hr_0 r_v7 hr_7 r_v8 hr_8 t.Pair t.Strengths t_v3 ht_3 y14 hy14) rfl en_17 (.some rfl rfl rfl hc13) rfl ?_
    refine JL.not rfl (.some rfl rfl rfl hc13) rfl ?_
    refine JL.pick_f (b := p6) rfl hc13 .none rfl ?_
    obtain rfl := Option.some.inj hF
    exact hJ12 _ ⟨rfl, rfl, rfl, rfl⟩
  ·rintro f ⟨hf3, hf4, hf5, hf40⟩
   refine (JL.norm (i := 3) hf3 (JL.norm (i := 4) hf4 (JL.norm (i := 5) hf5 (JL.norm (i := 40) hf40 ?_))))
   refine JL.move .none rfl ?_
   refine JL.cut 4 (fun f => f 3 = .pointer (some ⟨b1, 0, none⟩) ∧ f 4 = .pointer (some ⟨b2, 0, none⟩) ∧ f 5 = .pointer (some ⟨b3, 0, none⟩) ∧ f 45 = .bool (p11 || (decide (x_.Limit < 0)))) ?_ ?_
   ·intro hJ15
    rcases bcases p11 with hc16 | hc16
    ·skip
     refine JL.skip (.bool rfl rfl rfl hc16) rfl ?_
     refine JL.skip (.bool rfl rfl rfl hc16) rfl ?_
     refine JL.skip (.bool rfl rfl rfl hc16) rfl ?_
     refine JL.pick_t (b := p11) rfl hc16 .none rfl ?_
     exact hJ15 _ ⟨rfl, rfl, rfl, or_t hc16 rfl⟩
    ·skip
     refine JL.fieldAddr fo_54_2 rfl (.some rfl rfl rfl hc16) rfl ?_
     refine JL.loadOwn 0 az_3 rfl rfl rfl (.some rfl rfl rfl hc16) rfl ?_
     refine JL.bin rfl rfl rfl (.some rfl rfl rfl hc16) rfl ?_
     refine JL.pick_f (b := p11) rfl hc16 .none rfl ?_
     exact hJ15 _ ⟨rfl, rfl, rfl, or_f hc16 rfl⟩
   ·rintro f ⟨hf3, hf4, hf5, hf45⟩
    refine (JL.norm (i := 3) hf3 (JL.norm (i := 4) hf4 (JL.norm (i := 5) hf5 (JL.norm (i := 45) hf45 ?_))))
    refine JL.move .none rfl ?_
    refine JL.cut 4 (fun f => f 3 = .pointer (some ⟨b1, 0, none⟩) ∧ f 4 = .pointer (some ⟨b2, 0, none⟩) ∧ f 5 = .pointer (some ⟨b3, 0, none⟩) ∧ f 50 = .bool ((p11 || (decide (x_.Limit < 0))) || (decide (99 < x_.Limit)))) ?_ ?_
    ·intro hJ17
     rcases bcases (p11 || (decide (x_.Limit < 0))) with hc18 | hc18
     ·skip
      refine JL.skip (.bool rfl rfl rfl hc18) rfl ?_
      refine JL.skip (.bool rfl rfl rfl hc18) rfl ?_
      refine JL.skip (.bool rfl rfl rfl hc18) rfl ?_
      refine JL.pick_t (b := (p11 || (decide (x_.Limit < 0)))) rfl hc18 .none rfl ?_
      exact hJ17 _ ⟨rfl, rfl, rfl, or_t hc18 rfl⟩
     ·skip
      refine JL.fieldAddr fo_54_2 rfl (.some rfl rfl rfl hc18) rfl ?_
      refine JL.loadOwn 0 az_3 rfl rfl rfl (.some rfl rfl rfl hc18) rfl ?_
      refine JL.bin rfl rfl rfl (.some rfl rfl rfl hc18) rfl ?_
      refine JL.pick_f (b := (p11 || (decide (x_.Limit < 0)))) rfl hc18 .none rfl ?_
      exact hJ17 _ ⟨rfl, rfl, rfl, or_f hc18 rfl⟩
    ·rintro f ⟨hf3, hf4, hf5, hf50⟩
     refine (JL.norm (i := 3) hf3 (JL.norm (i := 4) hf4 (JL.norm (i := 5) hf5 (JL.norm (i := 50) hf50 ?_))))
     refine JL.done hQ ?_
     refine JQ.go ?_
     rcases ite_some hF with ⟨hc19, hF⟩ | ⟨hc19, hF⟩
     ·refine JC.cond_t (b := ((p11 || (decide (x_.Limit < 0))) || (decide (99 < x_.Limit)))) rfl hc19 ?_
      refine JC.seq ?_
      refine JC.region (by rfl) ?_
      intro hQ
      obtain ⟨y20, hy20, hF⟩ := bind_some hF
      refine JL.callS (c_law13_works n H y20 hy20) rfl en_7 .none rfl ?_
      refine JL.assign .none rfl ?_
      refine JL.done hQ ?_
      refine JQ.go ?_
      refine JC.ret ?_
      refine JQ.ret_then ?_
      obtain rfl := Option.some.inj hF
      exact JQ.outS rfl (.tmp .nil) rfl
     ·refine JC.cond_f (b := ((p11 || (decide (x_.Limit < 0))) || (decide (99 < x_.Limit)))) rfl hc19 ?_
      refine JC.skip ?_
      refine JQ.go ?_
      refine JC.seq ?_
      refine JC.region (by rfl) ?_
      intro hQ
      refine JL.loadOwn 2 az_34 rfl rfl rfl .none rfl ?_
      refine JL.fieldAddr fo_54_2 rfl .none rfl ?_
      refine JL.loadOwn 0 az_3 rfl rfl rfl .none rfl ?_
      obtain ⟨y21, hy21, hF⟩ := bind_some hF
      refine JL.callS (c_counts_Reads n H r r_v0 hr_0 r_v7 hr_7 r_v8 hr_8 r_v9 hr_9 r_v10 hr_10 x_.Limit y21 hy21) rfl en_18 .none rfl ?_
      refine JL.move .none rfl ?_
      refine JL.extract rfl rfl .none rfl ?_
      refine JL.extract rfl rfl .none rfl ?_
      refine JL.alloc ze_42 .none rfl ?_
      intro b22
      refine JL.storeOwn 0 (cs := [.int .i64 y21.1.Low, .int .i64 y21.1.High]) az_42 rfl rfl rfl (one_cons rfl (one_cons rfl one_nil)) rfl rfl .none ?_
      refine JL.assign .none rfl ?_
      refine JL.done hQ ?_
      refine JQ.go ?_
      refine JC.seq ?_
      refine JC.region (by rfl) ?_
      intro hQ
      refine JL.loadOwn 3 az_34 rfl rfl rfl .none rfl ?_
      obtain ⟨y23, hy23, hF⟩ := bind_some hF
      refine JL.callS (c_counts_Harm n H r r_v0 hr_0 r_v7 hr_7 r_v8 hr_8 r_v9 hr_9 r_v10 hr_10 y23 hy23) rfl en_11 .none rfl ?_
      refine JL.move .none rfl ?_
      refine JL.extract rfl rfl .none rfl ?_
      refine JL.extract rfl rfl .none rfl ?_
      refine JL.alloc ze_42 .none rfl ?_
      intro b24
      refine JL.storeOwn 0 (cs := [.int .i64 y23.1.Low, .int .i64 y23.1.High]) az_42 rfl rfl rfl (one_cons rfl (one_cons rfl one_nil)) rfl rfl .none ?_
      refine JL.assign .none rfl ?_
      refine JL.done hQ ?_
      refine JQ.go ?_
      refine JC.fresh (fun f => f 3 = .pointer (some ⟨b1, 0, none⟩) ∧ f 4 = .pointer (some ⟨b2, 0, none⟩) ∧ f 5 = .pointer (some ⟨b3, 0, none⟩) ∧ f 7 = .pointer (some ⟨b22, 0, none⟩) ∧ f 8 = .int .i64 y21.2 ∧ f 9 = .pointer (some ⟨b24, 0, none⟩) ∧ f 10 = .int .i64 y23.2) ⟨rfl, rfl, rfl, rfl, rfl, rfl, rfl⟩ ?_
      rintro f ⟨hf3, hf4, hf5, hf7, hf8, hf9, hf10⟩
      refine (JC.norm (i := 3) hf3 (JC.norm (i := 4) hf4 (JC.norm (i := 5) hf5 (JC.norm (i := 7) hf7 (JC.norm (i := 8) hf8 (JC.norm (i := 9) hf9 (JC.norm (i := 10) hf10 ?_)))))))
      refine JC.seq ?_
      refine JC.region (by rfl) ?_
      intro hQ
      refine JL.loadOwn 4 az_34 rfl rfl rfl .none rfl ?_
      obtain ⟨y25, hy25, hF⟩ := bind_some hF
      refine JL.callS (c_counts_Stood n H r r_v0 hr_0 r_v7 hr_7 r_v8 hr_8 r_v9 hr_9 r_v10 hr_10 y25 hy25) rfl en_9 .none rfl ?_
      refine JL.move .none rfl ?_
      refine JL.extract rfl rfl .none rfl ?_
      refine JL.extract rfl rfl .none rfl ?_
      refine JL.assign .none rfl ?_
      refine JL.assign .none rfl ?_
      refine JL.done hQ ?_
      refine JQ.go ?_
      refine JC.seq ?_
      refine JC.seq ?_
      refine JC.region (by rfl) ?_
      intro hQ
      refine JL.move .none rfl ?_
      refine JL.bin rfl rfl rfl .none rfl ?_
      refine JL.move .none rfl ?_
      refine JL.cut 3 (fun f => f 3 = .pointer (some ⟨b1, 0, none⟩) ∧ f 4 = .pointer (some ⟨b2, 0, none⟩) ∧ f 5 = .pointer (some ⟨b3, 0, none⟩) ∧ f 7 = .pointer (some ⟨b22, 0, none⟩) ∧ f 9 = .pointer (some ⟨b24, 0, none⟩) ∧ f 11 = .int .i64 y25.1 ∧ f 12 = .int .i64 y25.2 ∧ f 74 = .bool ((y21.2 != 0) || (y23.2 != 0))) ?_ ?_
      ·intro hJ26
       rcases bcases (y21.2 != 0) with hc27 | hc27
       ·skip
        refine JL.skip (.bool rfl rfl rfl hc27) rfl ?_
        refine JL.skip (.bool rfl rfl rfl hc27) rfl ?_
        refine JL.pick_t (b := (y21.2 != 0)) rfl hc27 .none rfl ?_
        exact hJ26 _ ⟨rfl, rfl, rfl, rfl, rfl, rfl, rfl, or_t hc27 rfl⟩
       ·skip
        refine JL.move (.some rfl rfl rfl hc27) rfl ?_
        refine JL.bin rfl rfl rfl (.some rfl rfl rfl hc27) rfl ?_
        refine JL.pick_f (b := (y21.2 != 0)) rfl hc27 .none rfl ?_
        exact hJ26 _ ⟨rfl, rfl, rfl, rfl, rfl, rfl, rfl, or_f hc27 rfl⟩
      ·rintro f ⟨hf3, hf4, hf5, hf7, hf9, hf11, hf12, hf74⟩
       refine (JL.norm (i := 3) hf3 (JL.norm (i := 4) hf4 (JL.norm (i := 5) hf5 (JL.norm (i := 7) hf7 (JL.norm (i := 9) hf9 (JL.norm (i := 11) hf11 (JL.norm (i := 12) hf12 (JL.norm (i := 74) hf74 ?_))))))))
       refine JL.move .none rfl ?_
       refine JL.cut 3 (fun f => f 3 = .pointer (some ⟨b1, 0, none⟩) ∧ f 4 = .pointer (some ⟨b2, 0, none⟩) ∧ f 5 = .pointer (some ⟨b3, 0, none⟩) ∧ f 7 = .pointer (some ⟨b22, 0, none⟩) ∧ f 9 = .pointer (some ⟨b24, 0, none⟩) ∧ f 11 = .int .i64 y25.1 ∧ f 78 = .bool (((y21.2 != 0) || (y23.2 != 0)) || (y25.2 != 0))) ?_ ?_
       ·intro hJ28
        rcases bcases ((y21.2 != 0) || (y23.2 != 0)) with hc29 | hc29
        ·skip
         refine JL.skip (.bool rfl rfl rfl hc29) rfl ?_
         refine JL.skip (.bool rfl rfl rfl hc29) rfl ?_
         refine JL.pick_t (b := ((y21.2 != 0) || (y23.2 != 0))) rfl hc29 .none rfl ?_
         exact hJ28 _ ⟨rfl, rfl, rfl, rfl, rfl, rfl, or_t hc29 rfl⟩
        ·skip
         refine JL.move (.some rfl rfl rfl hc29) rfl ?_
         refine JL.bin rfl rfl rfl (.some rfl rfl rfl hc29) rfl ?_
         refine JL.pick_f (b := ((y21.2 != 0) || (y23.2 != 0))) rfl hc29 .none rfl ?_
         exact hJ28 _ ⟨rfl, rfl, rfl, rfl, rfl, rfl, or_f hc29 rfl⟩
       ·rintro f ⟨hf3, hf4, hf5, hf7, hf9, hf11, hf78⟩
        refine (JL.norm (i := 3) hf3 (JL.norm (i := 4) hf4 (JL.norm (i := 5) hf5 (JL.norm (i := 7) hf7 (JL.norm (i := 9) hf9 (JL.norm (i := 11) hf11 (JL.norm (i := 78) hf78 ?_)))))))
        refine JL.done hQ ?_
        refine JQ.go ?_
        rcases ite_some hF with ⟨hc30, hF⟩ | ⟨hc30, hF⟩
        ·refine JC.cond_t (b := (((y21.2 != 0) || (y23.2 != 0)) || (y25.2 != 0))) rfl hc30 ?_
         refine JC.seq ?_
         refine JC.region (by rfl) ?_
         intro hQ
         refine JL.assign .none rfl ?_
         refine JL.done hQ ?_
         refine JQ.go ?_
         refine JC.ret ?_
         refine JQ.ret_then ?_
         obtain rfl := Option.some.inj hF
         exact JQ.outS rfl (.tmp .nil) rfl
        ·refine JC.cond_f (b := (((y21.2 != 0) || (y23.2 != 0)) || (y25.2 != 0))) rfl hc30 ?_
         refine JC.skip ?_
         refine JQ.go ?_
         refine JC.seq ?_
         obtain ⟨a35, c36, rfl, hh37⟩ := ht_0
         have ht_0 : SL H 1 RInt (.slice a35 t.Forces.length c36) t.Forces := ⟨a35, c36, rfl, hh37⟩
         obtain ⟨a38, c39, rfl, hh40⟩ := ht_3
         have ht_3 : SL H 1 RInt (.slice a38 t.Strengths.length c39) t.Strengths := ⟨a38, c39, rfl, hh40⟩
         obtain ⟨a41, c42, rfl, hh43⟩ := hr_0
         have hr_0 : SL H 7 R_Section (.slice a41 r.Canopy.Frame.Sections.length c42) r.Canopy.Frame.Sections := ⟨a41, c42, rfl, hh43⟩
         obtain ⟨a44, c45, rfl, hh46⟩ := hr_7
         have hr_7 : SL H 2 R_Span (.slice a44 r.Canopy.Ribs.length c45) r.Canopy.Ribs := ⟨a44, c45, rfl, hh46⟩
         obtain ⟨a47, c48, rfl, hh49⟩ := hr_8
         have hr_8 : SL H 1 RInt (.slice a47 r.Canopy.Shares.length c48) r.Canopy.Shares := ⟨a47, c48, rfl, hh49⟩
         obtain ⟨a50, c51, rfl, hh52⟩ := hr_9
         have hr_9 : SL H 3 R_Blow (.slice a50 r.Blows.length c51) r.Blows := ⟨a50, c51, rfl, hh52⟩
         obtain ⟨a53, c54, rfl, hh55⟩ := hr_10
         have hr_10 : SL H 2 R_Meter (.slice a53 r.Meters.length c54) r.Meters := ⟨a53, c54, rfl, hh55⟩
         obtain ⟨y56, hy56, hF⟩ := bind_some hF
         refine JC.mixed 10 10 #[false, false, false, false, false, false, false, false, false, false] [(b24, .cells [.int .i64 y23.1.Low, .int .i64 y23.1.High].toArray 42), (b22, .cells [.int .i64 y21.1.Low, .int .i64 y21.1.High].toArray 42), (b3, .cells [.int .i64 x_.Blow, .int .i64 x_.Meter, .int .i64 x_.Limit].toArray 54), (b2, .cells [(.slice a35 t.Forces.length c36), .int .i64 t.Pair.Arm, .int .i64 t.Pair.Stretch, (.slice a38 t.Strengths.length c39)].toArray 52), (b1, .cells [(.slice a41 r.Canopy.Frame.Sections.length c42), .int .i64 r.Canopy.Frame.Low, .int .i64 r.Canopy.Frame.High, .int .i64 r.Canopy.Frame.Ease.Num, .int .i64 r.Canopy.Frame.Ease.Den, .int .i64 r.Canopy.Frame.Rod, .int .i64 r.Canopy.Frame.Case, (.slice a44 r.Canopy.Ribs.length c45), (.slice a47 r.Canopy.Shares.length c48), (.slice a50 r.Blows.length c51), (.slice a53 r.Meters.length c54), .int .i64 r.Wrong].toArray 34)] (by rfl) mo_ (by kernel_rfl) (by kernel_rfl) ?_
         intro hQ hE
         refine JA.cut 1 #[true, true, true, true, true, true, true, true, true, false] (fun H60 f bs gs => ∃ (b59 : Nat), f 3 = .pointer (some ⟨b1, 0, none⟩) ∧ f 4 = .pointer (some ⟨b2, 0, none⟩) ∧ f 5 = .pointer (some ⟨b3, 0, none⟩) ∧ f 7 = .pointer (some ⟨b22, 0, none⟩) ∧ f 9 = .pointer (some ⟨b24, 0, none⟩) ∧ f 11 = .int .i64 y25.1 ∧ f 13 = .pointer (some ⟨b59, 0, none⟩) ∧ f 86 = .agg [.int .i64 y56, (.slice a38 t.Strengths.length c39)].toArray ∧ bs = [(b59, .cells [.int .i64 0, .slice none 0 0].toArray 59), (b24, .cells [.int .i64 y23.1.Low, .int .i64 y23.1.High].toArray 42), (b22, .cells [.int .i64 y21.1.Low, .int .i64 y21.1.High].toArray 42), (b3, .cells [.int .i64 x_.Blow, .int .i64 x_.Meter, .int .i64 x_.Limit].toArray 54), (b2, .cells [(.slice a35 t.Forces.length c36), .int .i64 t.Pair.Arm, .int .i64 t.Pair.Stretch, (.slice a38 t.Strengths.length c39)].toArray 52), (b1, .cells [(.slice a41 r.Canopy.Frame.Sections.length c42), .int .i64 r.Canopy.Frame.Low, .int .i64 r.Canopy.Frame.High, .int .i64 r.Canopy.Frame.Ease.Num, .int .i64 r.Canopy.Frame.Ease.Den, .int .i64 r.Canopy.Frame.Rod, .int .i64 r.Canopy.Frame.Case, (.slice a44 r.Canopy.Ribs.length c45), (.slice a47 r.Canopy.Shares.length c48), (.slice a50 r.Blows.length c51), (.slice a53 r.Meters.length c54), .int .i64 r.Wrong].toArray 34)] ∧ gs = [] ∧ HSub H H60) ?_ ?_
         ·rintro H60 f bs gs ⟨b59, hf3, hf4, hf5, hf7, hf9, hf11, hf13, hf86, rfl, rfl, hs60⟩
          refine (JA.norm (i := 3) hf3 (JA.norm (i := 4) hf4 (JA.norm (i := 5) hf5 (JA.norm (i := 7) hf7 (JA.norm (i := 9) hf9 (JA.norm (i := 11) hf11 (JA.norm (i := 13) hf13 (JA.norm (i := 86) hf86 ?_))))))))
          refine JA.many [9] (by kernel_rfl) (by simp) (all_one ⟨_, #[true, true, true, true, true, true, true, true, true, true], rfl, (by kernel_rfl), ?_⟩)
          refine JL.storeOwn 0 (cs := [.int .i64 y56, (.slice a38 t.Strengths.length c39)]) az_59 rfl rfl rfl (one_cons rfl (one_cons (SL.one (SL.mono RInt.mono hs60 ht_3)) one_nil)) rfl rfl .none ?_
          refine JA.after hE hs60 (.cons _ (.cons_cons _ (.cons_cons _ (.cons_cons _ (.cons_cons _ (.cons_cons _ (List.nil_sublist _))))))) ?_
          refine JA.done hQ (by kernel_rfl) ?_
          refine JQ.go ?_
          refine JC.seq ?_
          refine JC.region (by rfl) ?_
          intro hQ
          refine JL.assign .none rfl ?_
          refine JL.done hQ ?_
          refine JQ.go ?_
          refine JC.seq ?_
          refine JC.seq ?_
          refine JC.region (by rfl) ?_
          intro hQ
          refine JL.assign .none rfl ?_
          refine JL.done hQ ?_
          refine JQ.go ?_
          obtain ⟨r287, hlr287, hKr287⟩ := bind_some hF
          refine JC.join (fun (harmed_285 : Int) H286 f bs gs => f 3 = .pointer (some ⟨b1, 0, none⟩) ∧ f 4 = .pointer (some ⟨b2, 0, none⟩) ∧ f 5 = .pointer (some ⟨b3, 0, none⟩) ∧ f 7 = .pointer (some ⟨b22, 0, none⟩) ∧ f 9 = .pointer (some ⟨b24, 0, none⟩) ∧ f 11 = .int .i64 y25.1 ∧ f 14 = .int .i64 harmed_285 ∧ bs = [(b24, .cells [.int .i64 y23.1.Low, .int .i64 y23.1.High].toArray 42), (b22, .cells [.int .i64 y21.1.Low, .int .i64 y21.1.High].toArray 42), (b3, .cells [.int .i64 x_.Blow, .int .i64 x_.Meter, .int .i64 x_.Limit].toArray 54), (b2, .cells [(.slice a35 t.Forces.length c36), .int .i64 t.Pair.Arm, .int .i64 t.Pair.Stretch, (.slice a38 t.Strengths.length c39)].toArray 52), (b1, .cells [(.slice a41 r.Canopy.Frame.Sections.length c42), .int .i64 r.Canopy.Frame.Low, .int .i64 r.Canopy.Frame.High, .int .i64 r.Canopy.Frame.Ease.Num, .int .i64 r.Canopy.Frame.Ease.Den, .int .i64 r.Canopy.Frame.Rod, .int .i64 r.Canopy.Frame.Case, (.slice a44 r.Canopy.Ribs.length c45), (.slice a47 r.Canopy.Shares.length c48), (.slice a50 r.Blows.length c51), (.slice a53 r.Meters.length c54), .int .i64 r.Wrong].toArray 34)] ∧ gs = [] ∧ HSub H60 H286 ∧ harmed_285 = r287) ?_ ?_
          ·skip
           refine JC.block ?_
           refine JC.loop hlr287 (fun (x : Int × Int) H438 f bs gs => match x with | (harmed_436, i_437) => f 3 = .pointer (some ⟨b1, 0, none⟩) ∧ f 4 = .pointer (some ⟨b2, 0, none⟩) ∧ f 5 = .pointer (some ⟨b3, 0, none⟩) ∧ f 7 = .pointer (some ⟨b22, 0, none⟩) ∧ f 9 = .pointer (some ⟨b24, 0, none⟩) ∧ f 11 = .int .i64 y25.1 ∧ f 13 = .pointer (some ⟨b59, 0, none⟩) ∧ f 14 = .int .i64 harmed_436 ∧ f 15 = .int .i64 i_437 ∧ bs = [(b59, .cells [.int .i64 y56, (.slice a38 t.Strengths.length c39)].toArray 59), (b24, .cells [.int .i64 y23.1.Low, .int .i64 y23.1.High].toArray 42), (b22, .cells [.int .i64 y21.1.Low, .int .i64 y21.1.High].toArray 42), (b3, .cells [.int .i64 x_.Blow, .int .i64 x_.Meter, .int .i64 x_.Limit].toArray 54), (b2, .cells [(.slice a35 t.Forces.length c36), .int .i64 t.Pair.Arm, .int .i64 t.Pair.Stretch, (.slice a38 t.Strengths.length c39)].toArray 52), (b1, .cells [(.slice a41 r.Canopy.Frame.Sections.length c42), .int .i64 r.Canopy.Frame.Low, .int .i64 r.Canopy.Frame.High, .int .i64 r.Canopy.Frame.Ease.Num, .int .i64 r.Canopy.Frame.Ease.Den, .int .i64 r.Canopy.Frame.Rod, .int .i64 r.Canopy.Frame.Case, (.slice a44 r.Canopy.Ribs.length c45), (.slice a47 r.Canopy.Shares.length c48), (.slice a50 r.Blows.length c51), (.slice a53 r.Meters.length c54), .int .i64 r.Wrong].toArray 34)] ∧ gs = [] ∧ HSub H60 H438) ⟨rfl, rfl, rfl, rfl, rfl, rfl, rfl, rfl, rfl, rfl, rfl, (HSub.refl _)⟩ ?_
           rintro ⟨harmed_436, i_437⟩ x440 H438 f bs gs ⟨hf3, hf4, hf5, hf7, hf9, hf11, hf13, hf14, hf15, rfl, rfl, hs438⟩ hF hr439
           rw [F_law13_CountsTrue_s1] at hF
           refine (JC.norm (i := 3) hf3 (JC.norm (i := 4) hf4 (JC.norm (i := 5) hf5 (JC.norm (i := 7) hf7 (JC.norm (i := 9) hf9 (JC.norm (i := 11) hf11 (JC.norm (i := 13) hf13 (JC.norm (i := 14) hf14 (JC.norm (i := 15) hf15 ?_)))))))))
           refine JC.seq ?_
           refine JC.seq ?_
           refine JC.region (by rfl) ?_
           intro hQ
           refine JL.move .none rfl ?_
           refine JL.fieldAddr fo_34_1 rfl .none rfl ?_
           refine JL.loadOwn 5 az_31 rfl rfl rfl .none rfl ?_
           refine JL.lenSL (R := R_Blow) ul_31 (SL.mono R_Blow_mono (HSub.trans hs60 hs438) hr_9) .none rfl ?_
           refine JL.bin rfl rfl rfl .none rfl ?_
           refine JL.done hQ ?_
           refine JQ.go ?_
           rcases ite_some hF with ⟨hc441, hF⟩ | ⟨hc441, hF⟩
           ·refine JC.cond_t (b := decide (i_437 < (r.Blows.length : Int))) rfl hc441 ?_
            refine JC.skip ?_
            refine JQ.go ?_
            refine JC.seq ?_
            refine JC.block ?_
            refine JC.seq ?_
            obtain ⟨y452, hy452, hF⟩ := bind_some hF
            obtain ⟨y457, hy457, hF⟩ := bind_some hF
            obtain ⟨y466, hy466, hF⟩ := bind_some hF
            refine JC.mixed 18 18 #[false, false, false, false, false, false, false, false, false, false, false, false, false, false, false, false, false, false] [(b59, .cells [.int .i64 y56, (.slice a38 t.Strengths.length c39)].toArray 59), (b24, .cells [.int .i64 y23.1.Low, .int .i64 y23.1.High].toArray 42), (b22, .cells [.int .i64 y21.1.Low, .int .i64 y21.1.High].toArray 42), (b3, .cells [.int .i64 x_.Blow, .int .i64 x_.Meter, .int .i64 x_.Limit].toArray 54), (b2, .cells [(.slice a35 t.Forces.length c36), .int .i64 t.Pair.Arm, .int .i64 t.Pair.Stretch, (.slice a38 t.Strengths.length c39)].toArray 52), (b1, .cells [(.slice a41 r.Canopy.Frame.Sections.length c42), .int .i64 r.Canopy.Frame.Low, .int .i64 r.Canopy.Frame.High, .int .i64 r.Canopy.Frame.Ease.Num, .int .i64 r.Canopy.Frame.Ease.Den, .int .i64 r.Canopy.Frame.Rod, .int .i64 r.Canopy.Frame.Case, (.slice a44 r.Canopy.Ribs.length c45), (.slice a47 r.Canopy.Shares.length c48), (.slice a50 r.Blows.length c51), (.slice a53 r.Meters.length c54), .int .i64 r.Wrong].toArray 34)] (by rfl) mo_ (by kernel_rfl) (by kernel_rfl) ?_
            intro hQ hE
            refine JA.take 0 (listed' := #[true, false, false, false, false, false, false, false, false, false, false, false, false, false, false, false, false, false]) hQ rfl (by kernel_rfl) (by kernel_rfl) (by kernel_rfl) (by kernel_rfl) (by kernel_rfl) hE (HSub.refl _) (.cons_cons _ (.cons_cons _ (.cons_cons _ (.cons_cons _ (.cons_cons _ (.cons_cons _ (List.nil_sublist _))))))) ?_
            refine JL.fieldAddr fo_34_0 rfl .none rfl ?_
            refine JA.cont ?_
            refine JA.take 1 (listed' := #[true, true, false, false, false, false, false, false, false, false, false, false, false, false, false, false, false, false]) hQ rfl (by kernel_rfl) (by kernel_rfl) (by kernel_rfl) (by kernel_rfl) (by kernel_rfl) hE (HSub.refl _) (.cons_cons _ (.cons_cons _ (.cons_cons _ (.cons_cons _ (.cons_cons _ (.cons_cons _ (List.nil_sublist _))))))) ?_
            refine JL.loadOwn 5 az_30 rfl rfl rfl .none rfl ?_
            refine JA.cont ?_
            refine JA.take 2 (listed' := #[true, true, true, false, false, false, false, false, false, false, false, false, false, false, false, false, false, false]) hQ rfl (by kernel_rfl) (by kernel_rfl) (by kernel_rfl) (by kernel_rfl) (by kernel_rfl) hE (HSub.refl _) (.cons_cons _ (.cons_cons _ (.cons_cons _ (.cons_cons _ (.cons_cons _ (.cons_cons _ (List.nil_sublist _))))))) ?_
            refine JL.fieldAddr fo_52_0 rfl .none rfl ?_
            refine JA.cont ?_
            refine JA.take 3 (listed' := #[true, true, true, true, false, false, false, false, false, false, false, false, false, false, false, false, false, false]) hQ rfl (by kernel_rfl) (by kernel_rfl) (by kernel_rfl) (by kernel_rfl) (by kernel_rfl) hE (HSub.refl _) (.cons_cons _ (.cons_cons _ (.cons_cons _ (.cons_cons _ (.cons_cons _ (.cons_cons _ (List.nil_sublist _))))))) ?_
            refine JL.loadOwn 4 az_28 rfl rfl rfl .none rfl ?_
            refine JA.cont ?_
            refine JA.take 4 (listed' := #[true, true, true, true, true, false, false, false, false, false, false, false, false, false, false, false, false, false]) hQ rfl (by kernel_rfl) (by kernel_rfl) (by kernel_rfl) (by kernel_rfl) (by kernel_rfl) hE (HSub.refl _) (.cons_cons _ (.cons_cons _ (.cons_cons _ (.cons_cons _ (.cons_cons _ (.cons_cons _ (List.nil_sublist _))))))) ?_
            refine JL.move .none rfl ?_
            refine JA.cont ?_
            refine JA.take 5 (listed' := #[true, true, true, true, true, true, false, false, false, false, false, false, false, false, false, false, false, false]) hQ rfl (by kernel_rfl) (by kernel_rfl) (by kernel_rfl) (by kernel_rfl) (by kernel_rfl) hE (HSub.refl _) (.cons_cons _ (.cons_cons _ (.cons_cons _ (.cons_cons _ (.cons_cons _ (.cons_cons _ (List.nil_sublist _))))))) ?_
            refine JL.indexSL (R := RInt) sl_28 (SL.mono RInt.mono (HSub.trans hs60 hs438) ht_0) rfl hy452 .none rfl ?_
            rintro b491 o492 cs493 hc494 - rfl
            refine JA.cont ?_
            refine JA.take 6 (listed' := #[true, true, true, true, true, true, true, false, false, false, false, false, false, false, false, false, false, false]) hQ rfl (by kernel_rfl) (by kernel_rfl) (by kernel_rfl) (by kernel_rfl) (by kernel_rfl) hE (HSub.refl _) (.cons_cons _ (.cons_cons _ (.cons_cons _ (.cons_cons _ (.cons_cons _ (.cons_cons _ (List.nil_sublist _))))))) ?_
            refine JL.loadH 0 az_3 rfl hc494 rfl .none rfl ?_
            refine JA.cont ?_
            refine JA.take 7 (listed' := #[true, true, true, true, true, true, true, true, false, false, false, false, false, false, false, false, false, false]) hQ rfl (by kernel_rfl) (by kernel_rfl) (by kernel_rfl) (by kernel_rfl) (by kernel_rfl) hE (HSub.refl _) (.cons_cons _ (.cons_cons _ (.cons_cons _ (.cons_cons _ (.cons_cons _ (.cons_cons _ (List.nil_sublist _))))))) ?_
            refine JL.fieldAddr fo_34_1 rfl .none rfl ?_
            refine JA.cont ?_
            refine JA.take 8 (listed' := #[true, true, true, true, true, true, true, true, true, false, false, false, false, false, false, false, false, false]) hQ rfl (by kernel_rfl) (by kernel_rfl) (by kernel_rfl) (by kernel_rfl) (by kernel_rfl) hE (HSub.refl _) (.cons_cons _ (.cons_cons _ (.cons_cons _ (.cons_cons _ (.cons_cons _ (.cons_cons _ (List.nil_sublist _))))))) ?_
            refine JL.loadOwn 5 az_31 rfl rfl rfl .none rfl ?_
            refine JA.cont ?_
            refine JA.take 9 (listed' := #[true, true, true, true, true, true, true, true, true, true, false, false, false, false, false, false, false, false]) hQ rfl (by kernel_rfl) (by kernel_rfl) (by kernel_rfl) (by kernel_rfl) (by kernel_rfl) hE (HSub.refl _) (.cons_cons _ (.cons_cons _ (.cons_cons _ (.cons_cons _ (.cons_cons _ (.cons_cons _ (List.nil_sublist _))))))) ?_
            refine JL.move .none rfl ?_
            refine JA.cont ?_
            refine JA.take 10 (listed' := #[true, true, true, true, true, true, true, true, true, true, true, false, false, false, false, false, false, false]) hQ rfl (by kernel_rfl) (by kernel_rfl) (by kernel_rfl) (by kernel_rfl) (by kernel_rfl) hE (HSub.refl _) (.cons_cons _ (.cons_cons _ (.cons_cons _ (.cons_cons _ (.cons_cons _ (.cons_cons _ (List.nil_sublist _))))))) ?_
            refine JL.indexSL (R := R_Blow) sl_31 (SL.mono R_Blow_mono (HSub.trans hs60 hs438) hr_9) rfl hy457 .none rfl ?_
            rintro b499 o500 cs501 hc502 - rfl
            refine JA.cont ?_
            refine JA.take 11 (listed' := #[true, true, true, true, true, true, true, true, true, true, true, true, false, false, false, false, false, false]) hQ rfl (by kernel_rfl) (by kernel_rfl) (by kernel_rfl) (by kernel_rfl) (by kernel_rfl) hE (HSub.refl _) (.cons_cons _ (.cons_cons _ (.cons_cons _ (.cons_cons _ (.cons_cons _ (.cons_cons _ (List.nil_sublist _))))))) ?_
            refine JL.fieldAddr fo_62_0 rfl .none rfl ?_
            refine JA.cont ?_
            refine JA.take 12 (listed' := #[true, true, true, true, true, true, true, true, true, true, true, true, true, false, false, false, false, false]) hQ rfl (by kernel_rfl) (by kernel_rfl) (by kernel_rfl) (by kernel_rfl) (by kernel_rfl) hE (HSub.refl _) (.cons_cons _ (.cons_cons _ (.cons_cons _ (.cons_cons _ (.cons_cons _ (.cons_cons _ (List.nil_sublist _))))))) ?_
            refine JL.loadH 0 az_3 rfl hc502 rfl .none rfl ?_
            refine JA.cont ?_
            refine JA.take 13 (listed' := #[true, true, true, true, true, true, true, true, true, true, true, true, true, true, false, false, false, false]) hQ rfl (by kernel_rfl) (by kernel_rfl) (by kernel_rfl) (by kernel_rfl) (by kernel_rfl) hE (HSub.refl _) (.cons_cons _ (.cons_cons _ (.cons_cons _ (.cons_cons _ (.cons_cons _ (.cons_cons _ (List.nil_sublist _))))))) ?_
            refine JL.build (l := [.int .i64 y452, .int .i64 y457.At]) (by kernel_rfl) .none rfl ?_
            refine JA.cont ?_
            refine JA.take 15 (listed' := #[true, true, true, true, true, true, true, true, true, true, true, true, true, true, false, true, false, false]) hQ rfl (by kernel_rfl) (by kernel_rfl) (by kernel_rfl) (by kernel_rfl) (by kernel_rfl) hE (HSub.refl _) (.cons_cons _ (.cons_cons _ (.cons_cons _ (.cons_cons _ (.cons_cons _ (.cons_cons _ (List.nil_sublist _))))))) ?_
            refine JL.loadOwn 0 az_59 rfl rfl rfl .none rfl ?_
            refine JA.cont ?_
            refine JA.many [14] (by kernel_rfl) (by simp) (all_one ⟨_, #[true, true, true, true, true, true, true, true, true, true, true, true, true, true, true, true, false, false], rfl, (by kernel_rfl), ?_⟩)
            refine JL.buildSlice (e := 64) (l := [.int .i64 y452, .int .i64 y457.At]) (by kernel_rfl) .none rfl ?_
            intro b503
            refine JA.after hE (HSub.refl _) (.cons _ (.cons_cons _ (.cons_cons _ (.cons_cons _ (.cons_cons _ (.cons_cons _ (.cons_cons _ (List.nil_sublist _)))))))) ?_
            refine JA.many [16] (by kernel_rfl) (by simp) (all_one ⟨_, #[true, true, true, true, true, true, true, true, true, true, true, true, true, true, true, true, true, false], rfl, (by kernel_rfl), ?_⟩)
            refine JL.freezeC 0 (l := [.int .i64 y452, .int .i64 y457.At]) rfl ?_
            intro H504 hs504 hc505
            have hg506 : SL H504 2 R_Gust (.slice (some ⟨b503, 0, none⟩) 1 1) [(Gust.mk y452 y457.At)] := CH.sl (l := [(Gust.mk y452 y457.At)]) (CH.cons (cs := [.int .i64 y452, .int .i64 y457.At]) rfl rfl CH.nil) hc505 ⟨by simp, by simp⟩
            refine JL.callS (c_ref05_StandsIn n H504 r.Canopy (.slice a41 r.Canopy.Frame.Sections.length c42) (SL.mono R_Section_mono (HSub.trans hs60 (HSub.trans hs438 hs504)) hr_0) (.slice a44 r.Canopy.Ribs.length c45) (SL.mono R_Span_mono (HSub.trans hs60 (HSub.trans hs438 hs504)) hr_7) (.slice a47 r.Canopy.Shares.length c48) (SL.mono RInt.mono (HSub.trans hs60 (HSub.trans hs438 hs504)) hr_8) [(Gust.mk y452 y457.At)] (.slice (some ⟨b503, 0, none⟩) 1 1) hg506 (ref05_Truth.mk y56 t.Strengths) (.slice a38 t.Strengths.length c39) (SL.mono RInt.mono (HSub.trans hs60 (HSub.trans hs438 hs504)) ht_3) y466 hy466) rfl en_20 .none rfl ?_
            refine JA.after hE hs504 (.cons_cons _ (.cons_cons _ (.cons_cons _ (.cons_cons _ (.cons_cons _ (.cons_cons _ (List.nil_sublist _))))))) ?_
            refine JA.take 17 (listed' := #[true, true, true, true, true, true, true, true, true, true, true, true, true, true, true, true, true, true]) hQ rfl (by kernel_rfl) (by kernel_rfl) (by kernel_rfl) (by kernel_rfl) (by kernel_rfl) hE hs504 (.cons_cons _ (.cons_cons _ (.cons_cons _ (.cons_cons _ (.cons_cons _ (.cons_cons _ (List.nil_sublist _))))))) ?_
            refine JL.not rfl .none rfl ?_
            refine JA.cont ?_
            refine JA.done hQ (by kernel_rfl) ?_
            refine JQ.go ?_
            refine JC.fresh (fun f => f 3 = .pointer (some ⟨b1, 0, none⟩) ∧ f 4 = .pointer (some ⟨b2, 0, none⟩) ∧ f 5 = .pointer (some ⟨b3, 0, none⟩) ∧ f 7 = .pointer (some ⟨b22, 0, none⟩) ∧ f 9 = .pointer (some ⟨b24, 0, none⟩) ∧ f 11 = .int .i64 y25.1 ∧ f 13 = .pointer (some ⟨b59, 0, none⟩) ∧ f 14 = .int .i64 harmed_436 ∧ f 15 = .int .i64 i_437 ∧ f 111 = .bool (!y466)) ⟨rfl, rfl, rfl, rfl, rfl, rfl, rfl, rfl, rfl, rfl⟩ ?_
            rintro f ⟨hf3, hf4, hf5, hf7, hf9, hf11, hf13, hf14, hf15, hf111⟩
            refine (JC.norm (i := 3) hf3 (JC.norm (i := 4) hf4 (JC.norm (i := 5) hf5 (JC.norm (i := 7) hf7 (JC.norm (i := 9) hf9 (JC.norm (i := 11) hf11 (JC.norm (i := 13) hf13 (JC.norm (i := 14) hf14 (JC.norm (i := 15) hf15 (JC.norm (i := 111) hf111 ?_))))))))))
            obtain ⟨r510, hlr510, hKr510⟩ := bind_some hF
            refine JC.join (fun (harmed_508 : Int) H509 f bs gs => f 3 = .pointer (some ⟨b1, 0, none⟩) ∧ f 4 = .pointer (some ⟨b2, 0, none⟩) ∧ f 5 = .pointer (some ⟨b3, 0, none⟩) ∧ f 7 = .pointer (some ⟨b22, 0, none⟩) ∧ f 9 = .pointer (some ⟨b24, 0, none⟩) ∧ f 11 = .int .i64 y25.1 ∧ f 13 = .pointer (some ⟨b59, 0, none⟩) ∧ f 14 = .int .i64 harmed_508 ∧ f 15 = .int .i64 i_437 ∧ bs = [(b59, .cells [.int .i64 y56, (.slice a38 t.Strengths.length c39)].toArray 59), (b24, .cells [.int .i64 y23.1.Low, .int .i64 y23.1.High].toArray 42), (b22, .cells [.int .i64 y21.1.Low, .int .i64 y21.1.High].toArray 42), (b3, .cells [.int .i64 x_.Blow, .int .i64 x_.Meter, .int .i64 x_.Limit].toArray 54), (b2, .cells [(.slice a35 t.Forces.length c36), .int .i64 t.Pair.Arm, .int .i64 t.Pair.Stretch, (.slice a38 t.Strengths.length c39)].toArray 52), (b1, .cells [(.slice a41 r.Canopy.Frame.Sections.length c42), .int .i64 r.Canopy.Frame.Low, .int .i64 r.Canopy.Frame.High, .int .i64 r.Canopy.Frame.Ease.Num, .int .i64 r.Canopy.Frame.Ease.Den, .int .i64 r.Canopy.Frame.Rod, .int .i64 r.Canopy.Frame.Case, (.slice a44 r.Canopy.Ribs.length c45), (.slice a47 r.Canopy.Shares.length c48), (.slice a50 r.Blows.length c51), (.slice a53 r.Meters.length c54), .int .i64 r.Wrong].toArray 34)] ∧ gs = [] ∧ HSub H504 H509 ∧ harmed_508 = r510) ?_ ?_
            ·have hF := hlr510
             rcases ite_some hF with ⟨hc511, hF⟩ | ⟨hc511, hF⟩
             ·refine JC.cond_t (b := (!y466)) rfl hc511 ?_
              refine JC.region (by rfl) ?_
              intro hQ
              refine JL.move .none rfl ?_
              refine JL.bin rfl rfl rfl .none rfl ?_
              refine JL.assign .none rfl ?_
              refine JL.done hQ ?_
              obtain rfl := Option.some.inj hF
              exact JQ.join (w64 (harmed_436 + 1)) ⟨rfl, rfl, rfl, rfl, rfl, rfl, rfl, rfl, rfl, rfl, rfl, (HSub.refl _), rfl⟩
             ·refine JC.cond_f (b := (!y466)) rfl hc511 ?_
              refine JC.skip ?_
              obtain rfl := Option.some.inj hF
              exact JQ.join harmed_436 ⟨rfl, rfl, rfl, rfl, rfl, rfl, rfl, rfl, rfl, rfl, rfl, (HSub.refl _), rfl⟩
            ·rintro harmed_508 H509 f bs gs ⟨hf3, hf4, hf5, hf7, hf9, hf11, hf13, hf14, hf15, rfl, rfl, hs509, rfl⟩
             have hF := hKr510
             try dsimp only at hF
             refine (JQ.norm (i := 3) hf3 (JQ.norm (i := 4) hf4 (JQ.norm (i := 5) hf5 (JQ.norm (i := 7) hf7 (JQ.norm (i := 9) hf9 (JQ.norm (i := 11) hf11 (JQ.norm (i := 13) hf13 (JQ.norm (i := 14) hf14 (JQ.norm (i := 15) hf15 ?_)))))))))
             refine JQ.normal_block ?_
             refine JQ.go ?_
             refine JC.region (by rfl) ?_
             intro hQ
             refine JL.move .none rfl ?_
             refine JL.bin rfl rfl rfl .none rfl ?_
             refine JL.assign .none rfl ?_
             refine JL.done hQ ?_
             obtain rfl := Option.some.inj hF
             exact JQ.next rfl ⟨rfl, rfl, rfl, rfl, rfl, rfl, rfl, rfl, rfl, rfl, rfl, (HSub.trans hs438 (HSub.trans hs504 hs509))⟩
           ·refine JC.cond_f (b := decide (i_437 < (r.Blows.length : Int))) rfl hc441 ?_
            refine JC.exit ?_
            refine JQ.exit_then ?_
            refine JQ.exit_then ?_
            refine JQ.exit_block ?_
            obtain rfl := Option.some.inj hF
            have ehr439 := hr439 _ rfl
            subst ehr439
            refine JQ.mask [false, true, true, true, true, true] [] ?_
            exact JQ.join harmed_436 ⟨rfl, rfl, rfl, rfl, rfl, rfl, rfl, rfl, rfl, hs438, rfl⟩
          ·rintro harmed_285 H286 f bs gs ⟨hf3, hf4, hf5, hf7, hf9, hf11, hf14, rfl, rfl, hs286, rfl⟩
           have hF := hKr287
           try dsimp only at hF
           refine (JQ.norm (i := 3) hf3 (JQ.norm (i := 4) hf4 (JQ.norm (i := 5) hf5 (JQ.norm (i := 7) hf7 (JQ.norm (i := 9) hf9 (JQ.norm (i := 11) hf11 (JQ.norm (i := 14) hf14 ?_)))))))
           refine JQ.go ?_
           refine JC.seq ?_
           refine JC.seq ?_
           refine JC.region (by rfl) ?_
           intro hQ
           refine JL.fieldAddr fo_52_0 rfl .none rfl ?_
           refine JL.loadOwn 3 az_28 rfl rfl rfl .none rfl ?_
           refine JL.fieldAddr fo_54_2 rfl .none rfl ?_
           refine JL.loadOwn 2 az_3 rfl rfl rfl .none rfl ?_
           obtain ⟨y512, hy512, hF⟩ := bind_some hF
           refine JL.callS (c_ref13_Above n H286 t.Forces (.slice a35 t.Forces.length c36) (SL.mono RInt.mono (HSub.trans hs60 hs286) ht_0) x_.Limit y512 hy512) rfl en_21 .none rfl ?_
           refine JL.assign .none rfl ?_
           refine JL.done hQ ?_
           refine JQ.go ?_
           refine JC.seq ?_
           refine JC.region (by rfl) ?_
           intro hQ
           refine JL.move .none rfl ?_
           refine JL.fieldAddr fo_42_0 rfl .none rfl ?_
           refine JL.loadOwn 1 az_3 rfl rfl rfl .none rfl ?_
           refine JL.bin rfl rfl rfl .none rfl ?_
           refine JL.move .none rfl ?_
           refine JL.cut 5 (fun f => f 3 = .pointer (some ⟨b1, 0, none⟩) ∧ f 4 = .pointer (some ⟨b2, 0, none⟩) ∧ f 5 = .pointer (some ⟨b3, 0, none⟩) ∧ f 9 = .pointer (some ⟨b24, 0, none⟩) ∧ f 11 = .int .i64 y25.1 ∧ f 14 = .int .i64 harmed_285 ∧ f 128 = .bool ((decide (y512 < y21.1.Low)) || (decide (y21.1.High < y512)))) ?_ ?_
           ·intro hJ513
            rcases bcases (decide (y512 < y21.1.Low)) with hc514 | hc514
            ·skip
             refine JL.skip (.bool rfl rfl rfl hc514) rfl ?_
             refine JL.skip (.bool rfl rfl rfl hc514) rfl ?_
             refine JL.skip (.bool rfl rfl rfl hc514) rfl ?_
             refine JL.skip (.bool rfl rfl rfl hc514) rfl ?_
             refine JL.pick_t (b := decide (y512 < y21.1.Low)) rfl hc514 .none rfl ?_
             exact hJ513 _ ⟨rfl, rfl, rfl, rfl, rfl, rfl, or_t hc514 rfl⟩
            ·skip
             refine JL.move (.some rfl rfl rfl hc514) rfl ?_
             refine JL.fieldAddr fo_42_1 rfl (.some rfl rfl rfl hc514) rfl ?_
             refine JL.loadOwn 1 az_3 rfl rfl rfl (.some rfl rfl rfl hc514) rfl ?_
             refine JL.bin rfl rfl rfl (.some rfl rfl rfl hc514) rfl ?_
             refine JL.pick_f (b := decide (y512 < y21.1.Low)) rfl hc514 .none rfl ?_
             exact hJ513 _ ⟨rfl, rfl, rfl, rfl, rfl, rfl, or_f hc514 rfl⟩
           ·rintro f ⟨hf3, hf4, hf5, hf9, hf11, hf14, hf128⟩
            refine (JL.norm (i := 3) hf3 (JL.norm (i := 4) hf4 (JL.norm (i := 5) hf5 (JL.norm (i := 9) hf9 (JL.norm (i := 11) hf11 (JL.norm (i := 14) hf14 (JL.norm (i := 128) hf128 ?_)))))))
            refine JL.move .none rfl ?_
            refine JL.cut 5 (fun f => f 3 = .pointer (some ⟨b1, 0, none⟩) ∧ f 4 = .pointer (some ⟨b2, 0, none⟩) ∧ f 5 = .pointer (some ⟨b3, 0, none⟩) ∧ f 9 = .pointer (some ⟨b24, 0, none⟩) ∧ f 11 = .int .i64 y25.1 ∧ f 14 = .int .i64 harmed_285 ∧ f 134 = .bool (((decide (y512 < y21.1.Low)) || (decide (y21.1.High < y512))) || (decide (harmed_285 < y23.1.Low)))) ?_ ?_
            ·intro hJ515
             rcases bcases ((decide (y512 < y21.1.Low)) || (decide (y21.1.High < y512))) with hc516 | hc516
             ·skip
              refine JL.skip (.bool rfl rfl rfl hc516) rfl ?_
              refine JL.skip (.bool rfl rfl rfl hc516) rfl ?_
              refine JL.skip (.bool rfl rfl rfl hc516) rfl ?_
              refine JL.skip (.bool rfl rfl rfl hc516) rfl ?_
              refine JL.pick_t (b := ((decide (y512 < y21.1.Low)) || (decide (y21.1.High < y512)))) rfl hc516 .none rfl ?_
              exact hJ515 _ ⟨rfl, rfl, rfl, rfl, rfl, rfl, or_t hc516 rfl⟩
             ·skip
              refine JL.move (.some rfl rfl rfl hc516) rfl ?_
              refine JL.fieldAddr fo_42_0 rfl (.some rfl rfl rfl hc516) rfl ?_
              refine JL.loadOwn 0 az_3 rfl rfl rfl (.some rfl rfl rfl hc516) rfl ?_
              refine JL.bin rfl rfl rfl (.some rfl rfl rfl hc516) rfl ?_
              refine JL.pick_f (b := ((decide (y512 < y21.1.Low)) || (decide (y21.1.High < y512)))) rfl hc516 .none rfl ?_
              exact hJ515 _ ⟨rfl, rfl, rfl, rfl, rfl, rfl, or_f hc516 rfl⟩
            ·rintro f ⟨hf3, hf4, hf5, hf9, hf11, hf14, hf134⟩
             refine (JL.norm (i := 3) hf3 (JL.norm (i := 4) hf4 (JL.norm (i := 5) hf5 (JL.norm (i := 9) hf9 (JL.norm (i := 11) hf11 (JL.norm (i := 14) hf14 (JL.norm (i := 134) hf134 ?_)))))))
             refine JL.move .none rfl ?_
             refine JL.cut 5 (fun f => f 3 = .pointer (some ⟨b1, 0, none⟩) ∧ f 4 = .pointer (some ⟨b2, 0, none⟩) ∧ f 5 = .pointer (some ⟨b3, 0, none⟩) ∧ f 11 = .int .i64 y25.1 ∧ f 14 = .int .i64 harmed_285 ∧ f 140 = .bool ((((decide (y512 < y21.1.Low)) || (decide (y21.1.High < y512))) || (decide (harmed_285 < y23.1.Low))) || (decide (y23.1.High < harmed_285)))) ?_ ?_
             ·intro hJ517
              rcases bcases (((decide (y512 < y21.1.Low)) || (decide (y21.1.High < y512))) || (decide (harmed_285 < y23.1.Low))) with hc518 | hc518
              ·skip
               refine JL.skip (.bool rfl rfl rfl hc518) rfl ?_
               refine JL.skip (.bool rfl rfl rfl hc518) rfl ?_
               refine JL.skip (.bool rfl rfl rfl hc518) rfl ?_
               refine JL.skip (.bool rfl rfl rfl hc518) rfl ?_
               refine JL.pick_t (b := (((decide (y512 < y21.1.Low)) || (decide (y21.1.High < y512))) || (decide (harmed_285 < y23.1.Low)))) rfl hc518 .none rfl ?_
               exact hJ517 _ ⟨rfl, rfl, rfl, rfl, rfl, or_t hc518 rfl⟩
              ·skip
               refine JL.move (.some rfl rfl rfl hc518) rfl ?_
               refine JL.fieldAddr fo_42_1 rfl (.some rfl rfl rfl hc518) rfl ?_
               refine JL.loadOwn 0 az_3 rfl rfl rfl (.some rfl rfl rfl hc518) rfl ?_
               refine JL.bin rfl rfl rfl (.some rfl rfl rfl hc518) rfl ?_
               refine JL.pick_f (b := (((decide (y512 < y21.1.Low)) || (decide (y21.1.High < y512))) || (decide (harmed_285 < y23.1.Low)))) rfl hc518 .none rfl ?_
               exact hJ517 _ ⟨rfl, rfl, rfl, rfl, rfl, or_f hc518 rfl⟩
             ·rintro f ⟨hf3, hf4, hf5, hf11, hf14, hf140⟩
              refine (JL.norm (i := 3) hf3 (JL.norm (i := 4) hf4 (JL.norm (i := 5) hf5 (JL.norm (i := 11) hf11 (JL.norm (i := 14) hf14 (JL.norm (i := 140) hf140 ?_))))))
              refine JL.move .none rfl ?_
              obtain ⟨p520, hp520, hF⟩ := bind_some hF
              refine JL.cut 6 (fun f => f 3 = .pointer (some ⟨b1, 0, none⟩) ∧ f 4 = .pointer (some ⟨b2, 0, none⟩) ∧ f 5 = .pointer (some ⟨b3, 0, none⟩) ∧ f 147 = .bool p520) ?_ ?_
              ·intro hJ521
               rcases ite_some hp520 with ⟨hc522, hF⟩ | ⟨hc522, hF⟩
               ·skip
                refine JL.skip (.bool rfl rfl rfl hc522) rfl ?_
                refine JL.skip (.bool rfl rfl rfl hc522) rfl ?_
                refine JL.skip (.bool rfl rfl rfl hc522) rfl ?_
                refine JL.skip (.bool rfl rfl rfl hc522) rfl ?_
                refine JL.skip (.bool rfl rfl rfl hc522) rfl ?_
                refine JL.pick_t (b := ((((decide (y512 < y21.1.Low)) || (decide (y21.1.High < y512))) || (decide (harmed_285 < y23.1.Low))) || (decide (y23.1.High < harmed_285)))) rfl hc522 .none rfl ?_
                obtain rfl := Option.some.inj hF
                exact hJ521 _ ⟨rfl, rfl, rfl, rfl⟩
               ·skip
                refine JL.move (.some rfl rfl rfl hc522) rfl ?_
                refine JL.move (.some rfl rfl rfl hc522) rfl ?_
                refine JL.bin rfl rfl rfl (.some rfl rfl rfl hc522) rfl ?_
                obtain ⟨y523, hy523, hF⟩ := bind_some hF
                refine JL.callS (c_law13_agrees n H286 y25.1 (harmed_285 == 0) y523 hy523) rfl en_22 (.some rfl rfl rfl hc522) rfl ?_
                refine JL.not rfl (.some rfl rfl rfl hc522) rfl ?_
                refine JL.pick_f (b := ((((decide (y512 < y21.1.Low)) || (decide (y21.1.High < y512))) || (decide (harmed_285 < y23.1.Low))) || (decide (y23.1.High < harmed_285)))) rfl hc522 .none rfl ?_
                obtain rfl := Option.some.inj hF
                exact hJ521 _ ⟨rfl, rfl, rfl, rfl⟩
              ·rintro f ⟨hf3, hf4, hf5, hf147⟩
               refine (JL.norm (i := 3) hf3 (JL.norm (i := 4) hf4 (JL.norm (i := 5) hf5 (JL.norm (i := 147) hf147 ?_))))
               refine JL.done hQ ?_
               refine JQ.go ?_
               rcases ite_some hF with ⟨hc524, hF⟩ | ⟨hc524, hF⟩
               ·refine JC.cond_t (b := p520) rfl hc524 ?_
                refine JC.seq ?_
                refine JC.region (by rfl) ?_
                intro hQ
                refine JL.assign .none rfl ?_
                refine JL.done hQ ?_
                refine JQ.go ?_
                refine JC.ret ?_
                refine JQ.ret_then ?_
                obtain rfl := Option.some.inj hF
                exact JQ.outS rfl (.tmp .nil) rfl
               ·refine JC.cond_f (b := p520) rfl hc524 ?_
                refine JC.skip ?_
                refine JQ.go ?_
                refine JC.seq ?_
                refine JC.seq ?_
                refine JC.region (by rfl) ?_
                intro hQ
                refine JL.fieldAddr fo_54_0 rfl .none rfl ?_
                refine JL.loadOwn 2 az_3 rfl rfl rfl .none rfl ?_
                refine JL.bin rfl rfl rfl .none rfl ?_
                refine JL.move .none rfl ?_
                refine JL.cut 7 (fun f => f 3 = .pointer (some ⟨b1, 0, none⟩) ∧ f 4 = .pointer (some ⟨b2, 0, none⟩) ∧ f 5 = .pointer (some ⟨b3, 0, none⟩) ∧ f 158 = .bool ((decide (0 ≤ x_.Blow)) && (decide (x_.Blow < (r.Blows.length : Int))))) ?_ ?_
                ·intro hJ525
                 rcases bcases (decide (0 ≤ x_.Blow)) with hc526 | hc526
                 ·skip
                  refine JL.fieldAddr fo_54_0 rfl (.some rfl rfl rfl hc526) rfl ?_
                  refine JL.loadOwn 2 az_3 rfl rfl rfl (.some rfl rfl rfl hc526) rfl ?_
                  refine JL.fieldAddr fo_34_1 rfl (.some rfl rfl rfl hc526) rfl ?_
                  refine JL.loadOwn 4 az_31 rfl rfl rfl (.some rfl rfl rfl hc526) rfl ?_
                  refine JL.lenSL (R := R_Blow) ul_31 (SL.mono R_Blow_mono (HSub.trans hs60 hs286) hr_9) (.some rfl rfl rfl hc526) rfl ?_
                  refine JL.bin rfl rfl rfl (.some rfl rfl rfl hc526) rfl ?_
                  refine JL.pick_t (b := decide (0 ≤ x_.Blow)) rfl hc526 .none rfl ?_
                  exact hJ525 _ ⟨rfl, rfl, rfl, and_t hc526 rfl⟩
                 ·skip
                  refine JL.skip (.bool rfl rfl rfl hc526) rfl ?_
                  refine JL.skip (.bool rfl rfl rfl hc526) rfl ?_
                  refine JL.skip (.bool rfl rfl rfl hc526) rfl ?_
                  refine JL.skip (.bool rfl rfl rfl hc526) rfl ?_
                  refine JL.skip (.bool rfl rfl rfl hc526) rfl ?_
                  refine JL.skip (.bool rfl rfl rfl hc526) rfl ?_
                  refine JL.pick_f (b := decide (0 ≤ x_.Blow)) rfl hc526 .none rfl ?_
                  exact hJ525 _ ⟨rfl, rfl, rfl, and_f hc526 rfl⟩
                ·rintro f ⟨hf3, hf4, hf5, hf158⟩
                 refine (JL.norm (i := 3) hf3 (JL.norm (i := 4) hf4 (JL.norm (i := 5) hf5 (JL.norm (i := 158) hf158 ?_))))
                 refine JL.done hQ ?_
                 refine JQ.go ?_
                 obtain ⟨r550, hlr550, hKr550⟩ := bind_some hF
                 refine JC.join (fun (_ : Unit) H549 f bs gs => f 3 = .pointer (some ⟨b1, 0, none⟩) ∧ f 4 = .pointer (some ⟨b2, 0, none⟩) ∧ f 5 = .pointer (some ⟨b3, 0, none⟩) ∧ bs = [(b3, .cells [.int .i64 x_.Blow, .int .i64 x_.Meter, .int .i64 x_.Limit].toArray 54), (b2, .cells [(.slice a35 t.Forces.length c36), .int .i64 t.Pair.Arm, .int .i64 t.Pair.Stretch, (.slice a38 t.Strengths.length c39)].toArray 52), (b1, .cells [(.slice a41 r.Canopy.Frame.Sections.length c42), .int .i64 r.Canopy.Frame.Low, .int .i64 r.Canopy.Frame.High, .int .i64 r.Canopy.Frame.Ease.Num, .int .i64 r.Canopy.Frame.Ease.Den, .int .i64 r.Canopy.Frame.Rod, .int .i64 r.Canopy.Frame.Case, (.slice a44 r.Canopy.Ribs.length c45), (.slice a47 r.Canopy.Shares.length c48), (.slice a50 r.Blows.length c51), (.slice a53 r.Meters.length c54), .int .i64 r.Wrong].toArray 34)] ∧ gs = [] ∧ HSub H286 H549 ∧ Sum.inr () = r550) ?_ ?_
                 ·have hF := hlr550
                  rcases ite_some hF with ⟨hc551, hF⟩ | ⟨hc551, hF⟩
                  ·refine JC.cond_t (b := ((decide (0 ≤ x_.Blow)) && (decide (x_.Blow < (r.Blows.length : Int))))) rfl hc551 ?_
                   refine JC.seq ?_
                   refine JC.region (by rfl) ?_
                   intro hQ
                   refine JL.loadOwn 4 az_34 rfl rfl rfl .none rfl ?_
                   refine JL.fieldAddr fo_54_0 rfl .none rfl ?_
                   refine JL.loadOwn 2 az_3 rfl rfl rfl .none rfl ?_
                   obtain ⟨y552, hy552, hF⟩ := bind_some hF
                   refine JL.callH (c_counts_Forces n H286 r (.slice a41 r.Canopy.Frame.Sections.length c42) (SL.mono R_Section_mono (HSub.trans hs60 hs286) hr_0) (.slice a44 r.Canopy.Ribs.length c45) (SL.mono R_Span_mono (HSub.trans hs60 hs286) hr_7) (.slice a47 r.Canopy.Shares.length c48) (SL.mono RInt.mono (HSub.trans hs60 hs286) hr_8) (.slice a50 r.Blows.length c51) (SL.mono R_Blow_mono (HSub.trans hs60 hs286) hr_9) (.slice a53 r.Meters.length c54) (SL.mono R_Meter_mono (HSub.trans hs60 hs286) hr_10) x_.Blow y552 hy552) rfl en_23 .none rfl ?_
                   rintro H553 vv554 hs553 ⟨y552a_v0, rfl, hy552a_0⟩
                   refine JL.move .none rfl ?_
                   refine JL.extract rfl rfl .none rfl ?_
                   refine JL.extract rfl rfl .none rfl ?_
                   refine JL.assign .none rfl ?_
                   refine JL.assign .none rfl ?_
                   refine JL.done hQ ?_
                   refine JQ.go ?_
                   refine JC.seq ?_
                   refine JC.region (by rfl) ?_
                   intro hQ
                   refine JL.move .none rfl ?_
                   refine JL.bin rfl rfl rfl .none rfl ?_
                   refine JL.move .none rfl ?_
                   refine JL.cut 4 (fun f => f 3 = .pointer (some ⟨b1, 0, none⟩) ∧ f 4 = .pointer (some ⟨b2, 0, none⟩) ∧ f 5 = .pointer (some ⟨b3, 0, none⟩) ∧ f 17 = y552a_v0 ∧ f 172 = .bool ((y552.2 != 0) || (decide (20 < (y552.1.length : Int))))) ?_ ?_
                   ·intro hJ555
                    rcases bcases (y552.2 != 0) with hc556 | hc556
                    ·skip
                     refine JL.skip (.bool rfl rfl rfl hc556) rfl ?_
                     refine JL.skip (.bool rfl rfl rfl hc556) rfl ?_
                     refine JL.skip (.bool rfl rfl rfl hc556) rfl ?_
                     refine JL.pick_t (b := (y552.2 != 0)) rfl hc556 .none rfl ?_
                     exact hJ555 _ ⟨rfl, rfl, rfl, rfl, or_t hc556 rfl⟩
                    ·skip
                     refine JL.move (.some rfl rfl rfl hc556) rfl ?_
                     refine JL.lenSL (R := RInt) ul_28 hy552a_0 (.some rfl rfl rfl hc556) rfl ?_
                     refine JL.bin rfl rfl rfl (.some rfl rfl rfl hc556) rfl ?_
                     refine JL.pick_f (b := (y552.2 != 0)) rfl hc556 .none rfl ?_
                     exact hJ555 _ ⟨rfl, rfl, rfl, rfl, or_f hc556 rfl⟩
                   ·rintro f ⟨hf3, hf4, hf5, hf17, hf172⟩
                    refine (JL.norm (i := 3) hf3 (JL.norm (i := 4) hf4 (JL.norm (i := 5) hf5 (JL.norm (i := 17) hf17 (JL.norm (i := 172) hf172 ?_)))))
                    refine JL.move .none rfl ?_
                    obtain ⟨p563, hp563, hF⟩ := bind_some hF
                    refine JL.cut 10 (fun f => f 3 = .pointer (some ⟨b1, 0, none⟩) ∧ f 4 = .pointer (some ⟨b2, 0, none⟩) ∧ f 5 = .pointer (some ⟨b3, 0, none⟩) ∧ f 183 = .bool p563) ?_ ?_
                    ·intro hJ564
                     rcases ite_some hp563 with ⟨hc565, hF⟩ | ⟨hc565, hF⟩
                     ·skip
                      refine JL.skip (.bool rfl rfl rfl hc565) rfl ?_
                      refine JL.skip (.bool rfl rfl rfl hc565) rfl ?_
                      refine JL.skip (.bool rfl rfl rfl hc565) rfl ?_
                      refine JL.skip (.bool rfl rfl rfl hc565) rfl ?_
                      refine JL.skip (.bool rfl rfl rfl hc565) rfl ?_
                      refine JL.skip (.bool rfl rfl rfl hc565) rfl ?_
                      refine JL.skip (.bool rfl rfl rfl hc565) rfl ?_
                      refine JL.skip (.bool rfl rfl rfl hc565) rfl ?_
                      refine JL.skip (.bool rfl rfl rfl hc565) rfl ?_
                      refine JL.pick_t (b := ((y552.2 != 0) || (decide (20 < (y552.1.length : Int))))) rfl hc565 .none rfl ?_
                      obtain rfl := Option.some.inj hF
                      exact hJ564 _ ⟨rfl, rfl, rfl, rfl⟩
                     ·skip
                      refine JL.move (.some rfl rfl rfl hc565) rfl ?_
                      refine JL.fieldAddr fo_52_0 rfl (.some rfl rfl rfl hc565) rfl ?_
                      refine JL.loadOwn 3 az_28 rfl rfl rfl (.some rfl rfl rfl hc565) rfl ?_
                      refine JL.fieldAddr fo_54_0 rfl (.some rfl rfl rfl hc565) rfl ?_
                      refine JL.loadOwn 2 az_3 rfl rfl rfl (.some rfl rfl rfl hc565) rfl ?_
                      obtain ⟨y566, hy566, hF⟩ := bind_some hF
                      refine JL.indexSL (R := RInt) sl_28 (SL.mono RInt.mono (HSub.trans hs60 (HSub.trans hs286 hs553)) ht_0) rfl hy566 (.some rfl rfl rfl hc565) rfl ?_
                      rintro b567 o568 cs569 hc570 - rfl
                      refine JL.loadH 0 az_3 rfl hc570 rfl (.some rfl rfl rfl hc565) rfl ?_
                      obtain ⟨y571, hy571, hF⟩ := bind_some hF
                      refine JL.callS (c_law13_has n H553 y552.1 y552a_v0 hy552a_0 y566 y571 hy571) rfl en_24 (.some rfl rfl rfl hc565) rfl ?_
                      refine JL.not rfl (.some rfl rfl rfl hc565) rfl ?_
                      refine JL.pick_f (b := ((y552.2 != 0) || (decide (20 < (y552.1.length : Int))))) rfl hc565 .none rfl ?_
                      obtain rfl := Option.some.inj hF
                      exact hJ564 _ ⟨rfl, rfl, rfl, rfl⟩
                    ·rintro f ⟨hf3, hf4, hf5, hf183⟩
                     refine (JL.norm (i := 3) hf3 (JL.norm (i := 4) hf4 (JL.norm (i := 5) hf5 (JL.norm (i := 183) hf183 ?_))))
                     refine JL.done hQ ?_
                     refine JQ.go ?_
                     rcases ite_some hF with ⟨hc572, hF⟩ | ⟨hc572, hF⟩
                     ·refine JC.cond_t (b := p563) rfl hc572 ?_
                      refine JC.seq ?_
                      refine JC.region (by rfl) ?_
                      intro hQ
                      refine JL.assign .none rfl ?_
                      refine JL.done hQ ?_
                      refine JQ.go ?_
                      refine JC.ret ?_
                      refine JQ.ret_join ?_
                      refine JQ.ret_then ?_
                      obtain rfl := Option.some.inj hF
                      have hF := hKr550
                      try dsimp only at hF
                      obtain rfl := Option.some.inj hF
                      exact JQ.outS rfl (.tmp .nil) rfl
                     ·refine JC.cond_f (b := p563) rfl hc572 ?_
                      refine JC.skip ?_
                      obtain rfl := Option.some.inj hF
                      refine JQ.mask [false, false, true, true, true] [] ?_
                      exact JQ.join () ⟨rfl, rfl, rfl, rfl, rfl, hs553, rfl⟩
                  ·refine JC.cond_f (b := ((decide (0 ≤ x_.Blow)) && (decide (x_.Blow < (r.Blows.length : Int))))) rfl hc551 ?_
                   refine JC.skip ?_
                   obtain rfl := Option.some.inj hF
                   refine JQ.mask [false, false, true, true, true] [] ?_
                   exact JQ.join () ⟨rfl, rfl, rfl, rfl, rfl, (HSub.refl _), rfl⟩
                 ·rintro _ H549 f bs gs ⟨hf3, hf4, hf5, rfl, rfl, hs549, rfl⟩
                  have hF := hKr550
                  try dsimp only at hF
                  refine (JQ.norm (i := 3) hf3 (JQ.norm (i := 4) hf4 (JQ.norm (i := 5) hf5 ?_)))
                  refine JQ.go ?_
                  refine JC.seq ?_
                  refine JC.seq ?_
                  refine JC.region (by rfl) ?_
                  intro hQ
                  refine JL.fieldAddr fo_54_1 rfl .none rfl ?_
                  refine JL.loadOwn 0 az_3 rfl rfl rfl .none rfl ?_
                  refine JL.bin rfl rfl rfl .none rfl ?_
                  refine JL.move .none rfl ?_
                  refine JL.cut 7 (fun f => f 3 = .pointer (some ⟨b1, 0, none⟩) ∧ f 4 = .pointer (some ⟨b2, 0, none⟩) ∧ f 5 = .pointer (some ⟨b3, 0, none⟩) ∧ f 194 = .bool ((decide (x_.Meter < 0)) || (decide ((r.Meters.length : Int) ≤ x_.Meter)))) ?_ ?_
                  ·intro hJ573
                   rcases bcases (decide (x_.Meter < 0)) with hc574 | hc574
                   ·skip
                    refine JL.skip (.bool rfl rfl rfl hc574) rfl ?_
                    refine JL.skip (.bool rfl rfl rfl hc574) rfl ?_
                    refine JL.skip (.bool rfl rfl rfl hc574) rfl ?_
                    refine JL.skip (.bool rfl rfl rfl hc574) rfl ?_
                    refine JL.skip (.bool rfl rfl rfl hc574) rfl ?_
                    refine JL.skip (.bool rfl rfl rfl hc574) rfl ?_
                    refine JL.pick_t (b := decide (x_.Meter < 0)) rfl hc574 .none rfl ?_
                    exact hJ573 _ ⟨rfl, rfl, rfl, or_t hc574 rfl⟩
                   ·skip
                    refine JL.fieldAddr fo_54_1 rfl (.some rfl rfl rfl hc574) rfl ?_
                    refine JL.loadOwn 0 az_3 rfl rfl rfl (.some rfl rfl rfl hc574) rfl ?_
                    refine JL.fieldAddr fo_34_2 rfl (.some rfl rfl rfl hc574) rfl ?_
                    refine JL.loadOwn 2 az_32 rfl rfl rfl (.some rfl rfl rfl hc574) rfl ?_
                    refine JL.lenSL (R := R_Meter) ul_32 (SL.mono R_Meter_mono (HSub.trans hs60 (HSub.trans hs286 hs549)) hr_10) (.some rfl rfl rfl hc574) rfl ?_
                    refine JL.bin rfl rfl rfl (.some rfl rfl rfl hc574) rfl ?_
                    refine JL.pick_f (b := decide (x_.Meter < 0)) rfl hc574 .none rfl ?_
                    exact hJ573 _ ⟨rfl, rfl, rfl, or_f hc574 rfl⟩
                  ·rintro f ⟨hf3, hf4, hf5, hf194⟩
                   refine (JL.norm (i := 3) hf3 (JL.norm (i := 4) hf4 (JL.norm (i := 5) hf5 (JL.norm (i := 194) hf194 ?_))))
                   refine JL.done hQ ?_
                   refine JQ.go ?_
                   rcases ite_some hF with ⟨hc575, hF⟩ | ⟨hc575, hF⟩
                   ·refine JC.cond_t (b := ((decide (x_.Meter < 0)) || (decide ((r.Meters.length : Int) ≤ x_.Meter)))) rfl hc575 ?_
                    refine JC.seq ?_
                    refine JC.region (by rfl) ?_
                    intro hQ
                    obtain ⟨y576, hy576, hF⟩ := bind_some hF
                    refine JL.callS (c_law13_works n H549 y576 hy576) rfl en_7 .none rfl ?_
                    refine JL.assign .none rfl ?_
                    refine JL.done hQ ?_
                    refine JQ.go ?_
                    refine JC.ret ?_
                    refine JQ.ret_then ?_
                    obtain rfl := Option.some.inj hF
                    exact JQ.outS rfl (.tmp .nil) rfl
                   ·refine JC.cond_f (b := ((decide (x_.Meter < 0)) || (decide ((r.Meters.length : Int) ≤ x_.Meter)))) rfl hc575 ?_
                    refine JC.skip ?_
                    refine JQ.go ?_
                    refine JC.seq ?_
                    refine JC.region (by rfl) ?_
                    intro hQ
                    refine JL.loadOwn 2 az_34 rfl rfl rfl .none rfl ?_
                    refine JL.fieldAddr fo_54_1 rfl .none rfl ?_
                    refine JL.loadOwn 0 az_3 rfl rfl rfl .none rfl ?_
                    obtain ⟨y577, hy577, hF⟩ := bind_some hF
                    refine JL.callS (c_counts_Right n H549 r (.slice a41 r.Canopy.Frame.Sections.length c42) (SL.mono R_Section_mono (HSub.trans hs60 (HSub.trans hs286 hs549)) hr_0) (.slice a44 r.Canopy.Ribs.length c45) (SL.mono R_Span_mono (HSub.trans hs60 (HSub.trans hs286 hs549)) hr_7) (.slice a47 r.Canopy.Shares.length c48) (SL.mono RInt.mono (HSub.trans hs60 (HSub.trans hs286 hs549)) hr_8) (.slice a50 r.Blows.length c51) (SL.mono R_Blow_mono (HSub.trans hs60 (HSub.trans hs286 hs549)) hr_9) (.slice a53 r.Meters.length c54) (SL.mono R_Meter_mono (HSub.trans hs60 (HSub.trans hs286 hs549)) hr_10) x_.Meter y577 hy577) rfl en_25 .none rfl ?_
                    refine JL.move .none rfl ?_
                    refine JL.extract rfl rfl .none rfl ?_
                    refine JL.extract rfl rfl .none rfl ?_
                    refine JL.assign .none rfl ?_
                    refine JL.assign .none rfl ?_
                    refine JL.done hQ ?_
                    refine JQ.go ?_
                    refine JC.seq ?_
                    refine JC.draw (by rfl) mo_ (by kernel_rfl) ?_
                    intro hQ
                    refine JL.move .none rfl ?_
                    refine JL.bin rfl rfl rfl .none rfl ?_
                    refine JL.move .none rfl ?_
                    obtain ⟨p607, hp607, hF⟩ := bind_some hF
                    refine JL.cut 12 (fun f => f 217 = .bool p607) ?_ ?_
                    ·intro hJ608
                     rcases ite_some hp607 with ⟨hc609, hF⟩ | ⟨hc609, hF⟩
                     ·skip
                      refine JL.move (.some rfl rfl rfl hc609) rfl ?_
                      refine JL.fieldAddr fo_34_2 rfl (.some rfl rfl rfl hc609) rfl ?_
                      refine JL.loadOwn 2 az_32 rfl rfl rfl (.some rfl rfl rfl hc609) rfl ?_
                      refine JL.fieldAddr fo_54_1 rfl (.some rfl rfl rfl hc609) rfl ?_
                      refine JL.loadOwn 0 az_3 rfl rfl rfl (.some rfl rfl rfl hc609) rfl ?_
                      obtain ⟨y610, hy610, hF⟩ := bind_some hF
                      refine JL.indexSL (R := R_Meter) sl_32 (SL.mono R_Meter_mono (HSub.trans hs60 (HSub.trans hs286 hs549)) hr_10) rfl hy610 (.some rfl rfl rfl hc609) rfl ?_
                      rintro b611 o612 cs613 hc614 - rfl
                      refine JL.loadH 0 az_73 rfl hc614 rfl (.some rfl rfl rfl hc609) rfl ?_
                      refine JL.fieldAddr fo_52_0 rfl (.some rfl rfl rfl hc609) rfl ?_
                      refine JL.loadOwn 1 az_28 rfl rfl rfl (.some rfl rfl rfl hc609) rfl ?_
                      obtain ⟨y615, hy615, hF⟩ := bind_some hF
                      refine JL.callS (c_ref13_IsRight n H549 y610 t.Forces (.slice a35 t.Forces.length c36) (SL.mono RInt.mono (HSub.trans hs60 (HSub.trans hs286 hs549)) ht_0) y615 hy615) rfl en_26 (.some rfl rfl rfl hc609) rfl ?_
                      obtain ⟨y616, hy616, hF⟩ := bind_some hF
                      refine JL.callS (c_law13_agrees n H549 y577.1 y615 y616 hy616) rfl en_22 (.some rfl rfl rfl hc609) rfl ?_
                      refine JL.pick_t (b := (y577.2 == 0)) rfl hc609 .none rfl ?_
                      obtain rfl := Option.some.inj hF
                      exact hJ608 _ (rfl)
                     ·skip
                      refine JL.skip (.bool rfl rfl rfl hc609) rfl ?_
                      refine JL.skip (.bool rfl rfl rfl hc609) rfl ?_
                      refine JL.skip (.bool rfl rfl rfl hc609) rfl ?_
                      refine JL.skip (.bool rfl rfl rfl hc609) rfl ?_
                      refine JL.skip (.bool rfl rfl rfl hc609) rfl ?_
                      refine JL.skip (.bool rfl rfl rfl hc609) rfl ?_
                      refine JL.skip (.bool rfl rfl rfl hc609) rfl ?_
                      refine JL.skip (.bool rfl rfl rfl hc609) rfl ?_
                      refine JL.skip (.bool rfl rfl rfl hc609) rfl ?_
                      refine JL.skip (.bool rfl rfl rfl hc609) rfl ?_
                      refine JL.skip (.bool rfl rfl rfl hc609) rfl ?_
                      refine JL.pick_f (b := (y577.2 == 0)) rfl hc609 .none rfl ?_
                      obtain rfl := Option.some.inj hF
                      exact hJ608 _ (rfl)
                    ·rintro f hf217
                     refine (JL.norm (i := 217) hf217 ?_)
                     refine JL.move .none rfl ?_
                     obtain ⟨p618, hp618, hF⟩ := bind_some hF
                     refine JL.cut 2 (fun f => f 220 = .bool p618) ?_ ?_
                     ·intro hJ619
                      rcases ite_some hp618 with ⟨hc620, hF⟩ | ⟨hc620, hF⟩
                      ·skip
                       obtain ⟨y621, hy621, hF⟩ := bind_some hF
                       refine JL.callS (c_law13_works n H549 y621 hy621) rfl en_7 (.some rfl rfl rfl hc620) rfl ?_
                       refine JL.pick_t (b := p607) rfl hc620 .none rfl ?_
                       obtain rfl := Option.some.inj hF
                       exact hJ619 _ (rfl)
                      ·skip
                       refine JL.skip (.bool rfl rfl rfl hc620) rfl ?_
                       refine JL.pick_f (b := p607) rfl hc620 .none rfl ?_
                       obtain rfl := Option.some.inj hF
                       exact hJ619 _ (rfl)
                     ·rintro f hf220
                      refine (JL.norm (i := 220) hf220 ?_)
                      refine JL.assign .none rfl ?_
                      refine JL.doneQ hQ ?_
                      refine JQ.go ?_
                      refine JC.ret ?_
                      obtain rfl := Option.some.inj hF
                      exact JQ.outS rfl (.tmp .nil) rfl
         intro nd59_0
         refine JA.take 0 (listed' := #[true, false, false, false, false, false, false, false, false, false]) hQ rfl (by kernel_rfl) (by kernel_rfl) (by kernel_rfl) (by kernel_rfl) (by kernel_rfl) hE (HSub.refl _) (.cons_cons _ (.cons_cons _ (.cons_cons _ (.cons_cons _ (.cons_cons _ (List.nil_sublist _)))))) ?_
         refine JL.fieldAddr fo_34_0 rfl .none rfl ?_
         refine JA.cont ?_
         refine JA.take 1 (listed' := #[true, true, false, false, false, false, false, false, false, false]) hQ rfl (by kernel_rfl) (by kernel_rfl) (by kernel_rfl) (by kernel_rfl) (by kernel_rfl) hE (HSub.refl _) (.cons_cons _ (.cons_cons _ (.cons_cons _ (.cons_cons _ (.cons_cons _ (List.nil_sublist _)))))) ?_
         refine JL.loadOwn 4 az_30 rfl rfl rfl .none rfl ?_
         refine JA.cont ?_
         refine JA.take 2 (listed' := #[true, true, true, false, false, false, false, false, false, false]) hQ rfl (by kernel_rfl) (by kernel_rfl) (by kernel_rfl) (by kernel_rfl) (by kernel_rfl) hE (HSub.refl _) (.cons_cons _ (.cons_cons _ (.cons_cons _ (.cons_cons _ (.cons_cons _ (List.nil_sublist _)))))) ?_
         refine JL.fieldAddr fo_52_1 rfl .none rfl ?_
         refine JA.cont ?_
         refine JA.take 3 (listed' := #[true, true, true, true, false, false, false, false, false, false]) hQ rfl (by kernel_rfl) (by kernel_rfl) (by kernel_rfl) (by kernel_rfl) (by kernel_rfl) hE (HSub.refl _) (.cons_cons _ (.cons_cons _ (.cons_cons _ (.cons_cons _ (.cons_cons _ (List.nil_sublist _)))))) ?_
         refine JL.loadOwn 3 az_50 rfl rfl rfl .none rfl ?_
         refine JA.cont ?_
         refine JA.take 5 (listed' := #[true, true, true, true, false, true, false, false, false, false]) hQ rfl (by kernel_rfl) (by kernel_rfl) (by kernel_rfl) (by kernel_rfl) (by kernel_rfl) hE (HSub.refl _) (.cons_cons _ (.cons_cons _ (.cons_cons _ (.cons_cons _ (.cons_cons _ (List.nil_sublist _)))))) ?_
         refine JL.fieldAddr fo_52_2 rfl .none rfl ?_
         refine JA.cont ?_
         refine JA.take 6 (listed' := #[true, true, true, true, false, true, true, false, false, false]) hQ rfl (by kernel_rfl) (by kernel_rfl) (by kernel_rfl) (by kernel_rfl) (by kernel_rfl) hE (HSub.refl _) (.cons_cons _ (.cons_cons _ (.cons_cons _ (.cons_cons _ (.cons_cons _ (List.nil_sublist _)))))) ?_
         refine JL.loadOwn 3 az_28 rfl rfl rfl .none rfl ?_
         refine JA.cont ?_
         refine JA.many [4, 8] (by kernel_rfl) (by simp) (all_cons ⟨_, #[true, true, true, true, true, true, true, false, false, false], rfl, (by kernel_rfl), ?_⟩ (all_one ⟨_, #[true, true, true, true, false, true, true, false, true, false], rfl, (by kernel_rfl), ?_⟩))
         ·skip
          refine JL.callS (c_ref05_LiftOf n H r.Canopy (.slice a41 r.Canopy.Frame.Sections.length c42) hr_0 (.slice a44 r.Canopy.Ribs.length c45) hr_7 (.slice a47 r.Canopy.Shares.length c48) hr_8 t.Pair y56 hy56) rfl en_19 .none rfl ?_
          refine JA.after hE (HSub.refl _) (.cons_cons _ (.cons_cons _ (.cons_cons _ (.cons_cons _ (.cons_cons _ (List.nil_sublist _)))))) ?_
          refine JA.take 7 (listed' := #[true, true, true, true, true, true, true, true, false, false]) hQ rfl (by kernel_rfl) (by kernel_rfl) (by kernel_rfl) (by kernel_rfl) (by kernel_rfl) hE (HSub.refl _) (.cons_cons _ (.cons_cons _ (.cons_cons _ (.cons_cons _ (.cons_cons _ (List.nil_sublist _)))))) ?_
          refine JL.build (l := [.int .i64 y56, (.slice a38 t.Strengths.length c39)]) (by kernel_rfl) .none rfl ?_
          refine JA.cont ?_
          refine JA.many [8] (by kernel_rfl) (by simp) (all_one ⟨_, #[true, true, true, true, true, true, true, true, true, false], rfl, (by kernel_rfl), ?_⟩)
          refine JL.alloc ze_59 .none rfl ?_
          intro b622
          refine JA.after hE (HSub.refl _) (.cons _ (.cons_cons _ (.cons_cons _ (.cons_cons _ (.cons_cons _ (.cons_cons _ (List.nil_sublist _))))))) ?_
          exact nd59_0 _ _ _ _ ⟨b622, rfl, rfl, rfl, rfl, rfl, rfl, rfl, rfl, rfl, rfl, (HSub.refl _)⟩
         ·skip
          refine JL.alloc ze_59 .none rfl ?_
          intro b623
          refine JA.after hE (HSub.refl _) (.cons _ (.cons_cons _ (.cons_cons _ (.cons_cons _ (.cons_cons _ (.cons_cons _ (List.nil_sublist _))))))) ?_
          refine JA.many [4] (by kernel_rfl) (by simp) (all_one ⟨_, #[true, true, true, true, true, true, true, false, true, false], rfl, (by kernel_rfl), ?_⟩)
          refine JL.callS (c_ref05_LiftOf n H r.Canopy (.slice a41 r.Canopy.Frame.Sections.length c42) hr_0 (.slice a44 r.Canopy.Ribs.length c45) hr_7 (.slice a47 r.Canopy.Shares.length c48) hr_8 t.Pair y56 hy56) rfl en_19 .none rfl ?_
          refine JA.after hE (HSub.refl _) (.cons _ (.cons_cons _ (.cons_cons _ (.cons_cons _ (.cons_cons _ (.cons_cons _ (List.nil_sublist _))))))) ?_
          refine JA.take 7 (listed' := #[true, true, true, true, true, true, true, true, true, false]) hQ rfl (by kernel_rfl) (by kernel_rfl) (by kernel_rfl) (by kernel_rfl) (by kernel_rfl) hE (HSub.refl _) (.cons _ (.cons_cons _ (.cons_cons _ (.cons_cons _ (.cons_cons _ (.cons_cons _ (List.nil_sublist _))))))) ?_
          refine JL.build (l := [.int .i64 y56, (.slice a38 t.Strengths.length c39)]) (by kernel_rfl) .none rfl ?_
          refine JA.cont ?_
          exact nd59_0 _ _ _ _ ⟨b623, rfl, rfl, rfl, rfl, rfl, rfl, rfl, rfl, rfl, rfl, (HSub.refl _)⟩
end Go.Proofs.YtcipdblhopffbaaGreat
end
section
namespace Go.Proofs.YtcipdblhopffbaaGreat
open Go Go.RowKit Go.Dec
theorem p_IsTruth {n : Nat} (hn : 100000000 ≤ n) {d : Canopy} (hd : DOk d) (p : ref01_Pair) (st : List Int) : ∃ b, F_ref05_IsTruth n d p st = some b ∧ (b = true → st.length = d.Ribs.length ∧ (∀ j, j < d.Ribs.length → stW d j ≤ (st[j]?).getD 0 ∧ (st[j]?).getD 0 ≤ stB d j) ∧ toS p ∈ sidesL (secAt d.Frame 0)) := by
  have hr := hd.r
  have hk : min st.length d.Ribs.length ≤ 10 := by omega
  have kk := loop_all (step := F_ref05_IsTruth_s1 n d st) (min st.length d.Ribs.length) (fun j => wi ((st[j]?).getD 0) (stW d j) (stB d j)) false (n := n) (by omega) (fun i hi => ?_) ?_ (by omega)
  · have hsec : geti d.Frame.Sections 0 = some (secAt d.Frame 0) := by
      have := secAt_get (f := d.Frame) (i := 0) (by have := hd.f.n; omega)
      rw [← geti_nat] at this; exact this
    have hw : ∀ a b c, F_ref01_Within n a b c = some (wi a b c) := fun _ _ _ => rfl
    unfold F_ref05_IsTruth
    rw [kk]
    cases hall : (List.range (min st.length d.Ribs.length)).all fun j => wi ((st[j]?).getD 0) (stW d j) (stB d j)
    · exact ⟨false, rfl, fun h => by simp at h⟩
    · simp only [cond_true, Option.bind_some, F_ref01_IsPair, hsec, hw, and_br]
      refine ⟨_, rfl, fun hb => ?_⟩
      simp only [Bool.and_eq_true, beq_iff_eq, wi_t] at hb
      obtain ⟨hb1, hb2, hb3⟩ := hb
      have hlen : st.length = d.Ribs.length := by omega
      refine ⟨hlen, fun j hj => ?_, sides_mem.2 ⟨hb2, hb3⟩⟩
      rw [List.all_eq_true] at hall
      exact wi_t.1 (hall j (List.mem_range.2 (by omega)))
  · have h1 : i < st.length := by omega
    have h2 : i < d.Ribs.length := by omega
    obtain ⟨s, hs1, _⟩ := rib_get h2
    have hx : st[i]? = some st[i] := List.getElem?_eq_getElem h1
    simp only [F_ref05_IsTruth_s1, lt_nat, h1, h2, decide_true, Bool.and_self, if_true, geti_nat, hx, hs1, Option.bind_some, p_within05, stW_get hs1, stB_get hs1, Option.getD_some, w64_nat (show i ≤ 4611686018427387904 by omega)]
    cases wi st[i] s.Low s.High <;> rfl
  · have : ((decide (((min st.length d.Ribs.length : Nat) : Int) < (st.length : Int))) && (decide (((min st.length d.Ribs.length : Nat) : Int) < (d.Ribs.length : Int)))) = false := by
      by_cases h : st.length ≤ d.Ribs.length
      · have : ¬ ((min st.length d.Ribs.length : Nat) : Int) < (st.length : Int) := by omega
        simp only [this, decide_false, Bool.false_and]
      · have : ¬ ((min st.length d.Ribs.length : Nat) : Int) < (d.Ribs.length : Int) := by omega
        simp only [this, decide_false, Bool.and_false]
    simp only [F_ref05_IsTruth_s1, this, Bool.false_eq_true, if_false]
/-- a truth of the dome is between what is known of it -/
theorem stand_truth {d : Canopy} (hd : DOk d) {pair : ref01_Pair} {st : List Int} (hsl : st.length = d.Ribs.length) (hstr : ∀ j, j < d.Ribs.length → stW d j ≤ (st[j]?).getD 0 ∧ (st[j]?).getD 0 ≤ stB d j) (hpm : toS pair ∈ sidesL (secAt d.Frame 0)) {g : Gust} (hg : GOk d.Ribs.length g) :
    TOk d.Ribs.length (ref05_Truth.mk (liftAt d (toS pair)) st) ∧ (standsI d [g] = 1 → standIn d [g] (ref05_Truth.mk (liftAt d (toS pair)) st) = true) ∧ (standsI d [g] = 2 → standIn d [g] (ref05_Truth.mk (liftAt d (toS pair)) st) = false) := by
  have hr := hd.r
  obtain ⟨lsp, _, _⟩ := lift_spec hd
  have hlift := lsp _ hpm
  have hli := lift_in hd
  generalize hT : ref05_Truth.mk (liftAt d (toS pair)) st = t
  have tl : t.Lift = liftAt d (toS pair) := by rw [← hT]
  have tst : ∀ j, trS t j = (st[j]?).getD 0 := fun j => by rw [← hT]; rfl
  have tok : TOk d.Ribs.length t := ⟨by rw [tl]; omega, by rw [← hT]; exact hsl⟩
  have up : ∀ m j, j < d.Ribs.length → G (ldB d g) (stB d) d.Ribs.length m j = true → G (ldT d t g) (trS t) d.Ribs.length m j = true := fun m j hj h =>
    G_mono (by omega) (fun i hi => load_mono hli.1 (by rw [tl]; exact hlift.1) hd.sh rfl hg.f.1 (Int.le_refl _) (sh_pos hd) i) (fun i hi => by rw [tst]; exact (hstr i hi).2) m j hj h
  have dn : ∀ m j, j < d.Ribs.length → G (ldT d t g) (trS t) d.Ribs.length m j = true → G (ldW d g) (stW d) d.Ribs.length m j = true := fun m j hj h =>
    G_mono (by omega) (fun i hi => load_mono tok.l.1 (by rw [tl]; exact hlift.2) hd.sh rfl hg.f.1 (Int.le_refl _) (sh_pos hd) i) (fun i hi => by rw [tst]; exact (hstr i hi).1) m j hj h
  refine ⟨tok, fun hm => ?_, fun hm => ?_⟩
  · refine List.all_eq_true.2 fun z hz => ?_
    obtain rfl := List.mem_singleton.1 hz
    have h1 := stands_one.1 hm z hz
    have h2 : noneP d.Ribs.length (G (ldW d z) (stW d) d.Ribs.length d.Ribs.length) = true := by rw [none_G (by omega)]; exact h1
    exact noneP_mono (fun j hj h => dn _ j hj h) h2
  · cases hc : standIn d [g] t
    · rfl
    · exfalso
      refine (stands_two hd fun z hz => by rw [List.mem_singleton.1 hz]; exact hg.f.1).1 hm fun z hz => ?_
      obtain rfl := List.mem_singleton.1 hz
      have h1 := List.all_eq_true.1 hc z hz
      rw [none_G (by omega)] at h1
      exact noneP_mono (fun j hj h => up _ j hj h) h1
theorem p_IsCase {n : Nat} (hn : 100000000 ≤ n) {r : Run} (hb : r.Blows.length ≤ 1000) (c : List Int) : ∃ b, F_ref13_IsCase n r c = some b ∧ (b = true → c ∈ casesS r.Blows) := by
  have kk := loop_all (step := F_ref13_IsCase_s1 n r c) (min c.length r.Blows.length) (fun j => wi ((c[j]?).getD 0) (blowAt r (j : Int)).Force.Low (blowAt r (j : Int)).Force.High) false (n := n) (by omega) (fun i hi => ?_) ?_ (by omega)
  · unfold F_ref13_IsCase
    rw [kk]
    cases hall : (List.range (min c.length r.Blows.length)).all fun j => wi ((c[j]?).getD 0) (blowAt r (j : Int)).Force.Low (blowAt r (j : Int)).Force.High
    · exact ⟨false, rfl, fun h => by simp at h⟩
    · refine ⟨_, rfl, fun h => ?_⟩
      have hl : c.length = r.Blows.length := by
        have h := beq_iff_eq.1 h
        omega
      refine mem_cases.2 ⟨hl, fun i b x hb hx => ?_⟩
      have hi : i < c.length := (List.getElem?_eq_some_iff.1 hx).1
      have := wi_t.1 (List.all_eq_true.1 hall i (List.mem_range.2 (by omega)))
      unfold blowAt at this
      rw [Int.toNat_natCast, hb, hx] at this
      exact this
  · have h1 : i < c.length := by omega
    have h2 : i < r.Blows.length := by omega
    have hx : c[i]? = some c[i] := List.getElem?_eq_getElem h1
    have hy : r.Blows[i]? = some r.Blows[i] := List.getElem?_eq_getElem h2
    have hbl : blowAt r (i : Int) = r.Blows[i] := by unfold blowAt; rw [Int.toNat_natCast, hy]; rfl
    simp only [F_ref13_IsCase_s1, lt_nat, h1, h2, decide_true, Bool.and_self, if_true, geti_nat, hx, hy, Option.bind_some, p_within13, hbl, Option.getD_some, w64_nat (show i ≤ 4611686018427387904 by omega)]
    cases wi c[i] r.Blows[i].Force.Low r.Blows[i].Force.High <;> rfl
  · have : ((decide (((min c.length r.Blows.length : Nat) : Int) < (c.length : Int))) && (decide (((min c.length r.Blows.length : Nat) : Int) < (r.Blows.length : Int)))) = false := by
      by_cases h : c.length ≤ r.Blows.length
      · have : ¬ ((min c.length r.Blows.length : Nat) : Int) < (c.length : Int) := by omega
        simp only [this, decide_false, Bool.false_and]
      · have : ¬ ((min c.length r.Blows.length : Nat) : Int) < (r.Blows.length : Int) := by omega
        simp only [this, decide_false, Bool.and_false]
    simp only [F_ref13_IsCase_s1, this, Bool.false_eq_true, if_false]
theorem law_CountsTrue (r : Run) (t : law13_Real) (x : law13_Ask) (_ : W_Run r) (ht : W_law13_Real t) (_ : W_law13_Ask x) : ∃ n, F_law13_CountsTrue n r t x = some true := by
  have hn2 : 200000000 ≤ 200000000 := Nat.le_refl _
  have hn : 100000000 ≤ 200000000 := by omega
  refine ⟨200000000, ?_⟩
  have hw := works13 hn
  simp only [F_law13_CountsTrue]
  rcases p_ready hn r with h | ⟨h, hr⟩
  · simp [h, hw]
  · have hs := hr.small
    have nb := hr.nb
    have nm := hr.nm
    have hd := hr.d
    have hdr := hd.r
    obtain ⟨F, pair, st⟩ := t
    obtain ⟨b1, hb1, hb2⟩ := p_IsCase hn (r := r) (by omega) F
    obtain ⟨b3, hb3, hb4⟩ := p_IsTruth hn hd pair st
    simp only [h, Option.bind_some, Bool.not_true, Bool.false_eq_true, if_false, F_ref13_IsTruth, hb1]
    by_cases hq1 : b1 = true
    rotate_left
    · simp [hq1, hw]
    have hcase := hb2 hq1
    have hFl := casesS_len hcase
    simp only [hq1, if_true, p_Wrongs hn2 (r := r) (c := F) (by omega) (by omega), Option.bind_some]
    by_cases hq2 : (wrongC r.Meters F : Int) ≤ r.Wrong
    rotate_left
    · simp [hq2, hw]
    have htr : F ∈ truthsC r := List.mem_filter.2 ⟨hcase, by simpa [truthC] using hq2⟩
    simp only [decide_eq_true hq2, Bool.not_true, Bool.false_eq_true, if_false, hb3, Option.bind_some]
    by_cases hq3 : b3 = true
    rotate_left
    · simp [hq3, hw]
    obtain ⟨hsl, hstr, hpm⟩ := hb4 hq3
    simp only [hq3, Bool.not_true, Bool.false_or]
    split
    · rw [hw]; rfl
    rename_i hC
    simp only [Bool.or_eq_true, decide_eq_true_eq, not_or] at hC
    have e : errR r true = 0 := by
      rw [errR_true hr, if_neg]
      intro h0; rw [h0] at htr; cases htr
    obtain ⟨s0, s1, s2, s3, s4, s5⟩ := harm_spec e
    have hst : stoodT r = (if (harmT r).1.High = 0 then 1 else if 0 < (harmT r).1.Low then 2 else 3, 0) := by unfold stoodT; rw [if_pos e]
    simp only [p_Reads hn hs, p_Harm hn hs, p_Stood hn hs, Option.bind_some, hst, harm_err, reads_in (r := r) (a := x.Limit) (by omega) (by omega), e, if_true, bne_self_eq_false, Bool.or_self, Bool.false_eq_true, if_false]
    have hxo := sides_ok (sec0 hd) hpm
    rw [p_LiftOf hn hd hxo]
    simp only [Option.bind_some]
    -- the blows that the dome does not stand in this truth
    have hloop := loop_run (step := F_law13_CountsTrue_s1 200000000 r ⟨F, pair, st⟩ (liftAt r.Canopy (toS pair))) (fun j => ((((r.Blows.zip F).take j).countP (fun p => !standIn r.Canopy [⟨p.2, p.1.At⟩] (ref05_Truth.mk (liftAt r.Canopy (toS pair)) st)) : Int), (j : Int))) (r := ((r.Blows.zip F).countP (fun p => !standIn r.Canopy [⟨p.2, p.1.At⟩] (ref05_Truth.mk (liftAt r.Canopy (toS pair)) st)) : Int)) r.Blows.length 0 200000000 (fun j _ hj => by
      have hj : j < r.Blows.length := by omega
      have hjF : j < F.length := by omega
      have hxj : F[j]? = some F[j] := List.getElem?_eq_getElem hjF
      have hyj : r.Blows[j]? = some r.Blows[j] := List.getElem?_eq_getElem hj
      have hzip : (r.Blows.zip F)[j]? = some (r.Blows[j], F[j]) := List.getElem?_zip_eq_some.2 ⟨hyj, hxj⟩
      have hbo := hr.b _ (List.getElem_mem hj)
      have hin := (mem_cases.1 hcase).2 j _ _ hyj hxj
      have hg := stands_at hd hbo hin.1 hin.2
      obtain ⟨tok, _, _⟩ := stand_truth hd hsl hstr hpm hg
      have hcl : ((r.Blows.zip F).take j).countP (fun p => !standIn r.Canopy [⟨p.2, p.1.At⟩] (ref05_Truth.mk (liftAt r.Canopy (toS pair)) st)) ≤ j := by
        refine Nat.le_trans List.countP_le_length ?_
        rw [List.length_take]; omega
      have hps := p_StandsIn (n := 200000000) hn hd (l := [⟨F[j], r.Blows[j].At⟩]) (by simp) (fun z hz => by rw [List.mem_singleton.1 hz]; exact hg) tok
      simp only [F_law13_CountsTrue_s1, lt_nat, hj, decide_true, if_true, geti_nat, hxj, hyj, Option.bind_some, hps, w64_nat (show j ≤ 4611686018427387904 by omega), List.take_add_one, hzip, Option.toList_some, List.countP_append, List.countP_singleton]
      cases standIn r.Canopy [⟨F[j], r.Blows[j].At⟩] (ref05_Truth.mk (liftAt r.Canopy (toS pair)) st)
      · simp only [Bool.not_false, if_true, Option.bind_some]
        rw [w64_nat (by omega)]
      · simp only [Bool.not_true, Bool.false_eq_true, if_false, Option.bind_some, Nat.add_zero]) (by
      have hzl : (r.Blows.zip F).length = r.Blows.length := by rw [List.length_zip]; omega
      rw [Nat.zero_add, List.take_of_length_le (by omega)]
      simp [F_law13_CountsTrue_s1]) (by omega)
    simp only [List.take_zero, List.countP_nil, show ((0 : Nat) : Int) = 0 from rfl] at hloop
    rw [hloop]
    simp only [Option.bind_some, p_Above13 hn2 (c := F) (by omega)]
    have hle1 : askN (fellA r.Canopy true) r.Blows F ≤ (r.Blows.zip F).countP (fun p => !standIn r.Canopy [⟨p.2, p.1.At⟩] (ref05_Truth.mk (liftAt r.Canopy (toS pair)) st)) := by
      unfold askN
      refine List.countP_mono_left fun p hp hf => ?_
      have hz := zip_case hcase hp
      have hg := stands_at hd (hr.b _ hz.1) hz.2.1 hz.2.2
      rw [(stand_truth hd hsl hstr hpm hg).2.2 (fell_t.1 hf)]; rfl
    have hle2 : (r.Blows.zip F).countP (fun p => !standIn r.Canopy [⟨p.2, p.1.At⟩] (ref05_Truth.mk (liftAt r.Canopy (toS pair)) st)) ≤ askN (fellA r.Canopy false) r.Blows F := by
      unfold askN
      refine List.countP_mono_left fun p hp hf => ?_
      have hz := zip_case hcase hp
      have hg := stands_at hd (hr.b _ hz.1) hz.2.1 hz.2.2
      refine fell_f.2 fun h1 => ?_
      rw [(stand_truth hd hsl hstr hpm hg).2.1 h1] at hf
      simp at hf
    obtain ⟨b5, b6⟩ := s3 F htr
    generalize (r.Blows.zip F).countP (fun p => !standIn r.Canopy [⟨p.2, p.1.At⟩] (ref05_Truth.mk (liftAt r.Canopy (toS pair)) st)) = H at *
    obtain ⟨⟨l1, l2⟩, _⟩ := fmin_spec (fun c => (askN (readsA x.Limit) r.Blows c : Int)) (truthsC r) r.Blows.length
    obtain ⟨⟨u1, u2⟩, _⟩ := fmax_spec (fun c => (askN (readsA x.Limit) r.Blows c : Int)) (truthsC r) 0
    have l3 := l2 F htr
    have u3 := u2 F htr
    simp only [askN_readsA hFl] at l3 u3
    have c1 : (((decide ((aboveS F x.Limit : Int) < fmin (fun c => (askN (readsA x.Limit) r.Blows c : Int)) (truthsC r) r.Blows.length) || decide (fmax (fun c => (askN (readsA x.Limit) r.Blows c : Int)) (truthsC r) 0 < (aboveS F x.Limit : Int))) || decide ((H : Int) < (harmT r).1.Low)) || decide ((harmT r).1.High < (H : Int))) = false := by
      rw [decide_eq_false (by omega), decide_eq_false (by omega), decide_eq_false (by omega), decide_eq_false (by omega)]; rfl
    have c2 : F_law13_agrees 200000000 (if (harmT r).1.High = 0 then (1 : Int) else if 0 < (harmT r).1.Low then 2 else 3) ((H : Int) == 0) = some true := by
      unfold F_law13_agrees
      by_cases hA : (harmT r).1.High = 0
      · have : H = 0 := by omega
        simp [hA, this]
      · by_cases hB : 0 < (harmT r).1.Low
        · have : H ≠ 0 := by omega
          simp [hA, hB, this]
        · simp [hA, hB]
    simp only [c1, Bool.false_eq_true, if_false, c2, Option.bind_some, Bool.not_true]
    have c3 : (if (decide (0 ≤ x.Blow) && decide (x.Blow < (r.Blows.length : Int))) = true then ((F_counts_Forces 200000000 r x.Blow).bind fun y552 => (if ((y552.2 != 0) || (decide (20 < (y552.1.length : Int)))) = true then (some true) else ((geti F x.Blow).bind fun y566 => (F_law13_has 200000000 y552.1 y566).bind fun y571 => some (!y571)) : Option Bool).bind fun p563 => if p563 = true then (some (Sum.inl false)) else (some (Sum.inr ()))) else (some (Sum.inr ())) : Option (Bool ⊕ Unit)) = some (Sum.inr ()) := by
      split
      · rename_i hb
        simp only [Bool.and_eq_true, decide_eq_true_eq] at hb
        obtain ⟨i, hi⟩ : ∃ i : Nat, x.Blow = i := ⟨x.Blow.toNat, by omega⟩
        rw [hi] at hb ⊢
        have hil : i < F.length := by omega
        have hfi : F[i]? = some F[i] := List.getElem?_eq_getElem hil
        have hfl := forces_len hr (i := (i : Int)) (by omega) (by omega)
        have hmem : F[i] ∈ forcesL r (i : Int) := (forces_mem hr (by omega) (by omega)).2 ⟨F, htr, by rw [Int.toNat_natCast]; exact hfi⟩
        have hcon : (forcesL r (i : Int)).contains F[i] = true := List.contains_iff_mem.2 hmem
        simp only [p_Forces hn hs, forces_in (r := r) (i := (i : Int)) (by omega) (by omega), e, if_true, Option.bind_some, bne_self_eq_false, Bool.false_or, geti_nat, hfi]
        rw [if_neg (show ¬ decide (20 < ((forcesL r (i : Int)).length : Int)) = true by rw [decide_eq_true_eq]; omega)]
        simp only [p_hasI hn (l := forcesL r (i : Int)) (by omega), hcon, Option.bind_some, Bool.not_true, Bool.false_eq_true, if_false]
      · rfl
    rw [c3]
    simp only [Option.bind_some]
    split
    · rw [hw]; rfl
    · rename_i hM
      simp only [Bool.or_eq_true, decide_eq_true_eq, not_or] at hM
      obtain ⟨m, hm⟩ : ∃ m : Nat, x.Meter = m := ⟨x.Meter.toNat, by omega⟩
      rw [hm] at hM ⊢
      have hml : m < r.Meters.length := by omega
      have hmt : r.Meters[m]? = some r.Meters[m] := List.getElem?_eq_getElem hml
      have hma : meterAt r (m : Int) = r.Meters[m] := by unfold meterAt; rw [Int.toNat_natCast, hmt]; rfl
      simp only [p_Right hn hs, right_in (r := r) (i := (m : Int)) (by omega) (by omega), e, if_true, Option.bind_some, beq_self_eq_true, geti_nat, hmt, p_IsRight13 hn2 (c := F) (by omega), hma]
      have c4 : F_law13_agrees 200000000 (if ((truthsC r).all (rightC r.Meters[m])) = true then (1 : Int) else if ((truthsC r).all fun c => !rightC r.Meters[m] c) = true then 2 else 3) (rightC r.Meters[m] F) = some true := by
        unfold F_law13_agrees
        by_cases hA : ((truthsC r).all (rightC r.Meters[m])) = true
        · have := List.all_eq_true.1 hA F htr
          simp [hA, this]
        · by_cases hB : ((truthsC r).all fun c => !rightC r.Meters[m] c) = true
          · have := List.all_eq_true.1 hB F htr
            have h3 : rightC r.Meters[m] F = false := by simpa using this
            simp only [hA, hB, if_true, Bool.false_eq_true, if_false, h3]; rfl
          · simp only [hA, hB, Bool.false_eq_true, if_false]; rfl
      simp only [c4, if_true, Option.bind_some, hw]
end Go.Proofs.YtcipdblhopffbaaGreat
end
