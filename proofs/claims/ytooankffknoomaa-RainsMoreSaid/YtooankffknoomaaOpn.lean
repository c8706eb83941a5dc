/-
  Printed by a program: what is well-formed, and how a datum is opened.
-/
import Derived.Test.YtooankffknoomaaGenT
import Derived.Test.YtooankffknoomaaEngM
namespace Go.Proofs.Ytooankffknoomaa
open Go Go.RowKit Go.Dec
set_option linter.unusedVariables false
def W_Span (x : Span) : Prop := I64 x.Low ∧ I64 x.High
set_option maxRecDepth 100000 in
theorem o_Span {T : Type} {enc : TypeId × Value → T} : Opens enc Try.prog 31 2 R_Span W_Span := by
  intro w base sp held fuel cs y h
  obtain ⟨xs, n, _, rfl, hl, hlen, hf⟩ := DataW.trod_struct Try.underlying31 h
  have hl2 : cs.length = 2 := hl.trans (by kernel_rfl)
  have hx : xs.length = 2 := hlen
  obtain ⟨c0, c1, rfl⟩ : ∃ c0 c1, cs = [c0, c1] := by
    match cs, hl2 with
    | [c0, c1], _ => exact ⟨_, _, rfl⟩
  have co3 : Try.prog.cellsOf 3 = 1 := by kernel_rfl
  have e0 : DataW.trod enc Try.prog w base sp held n 3 (([c0, c1].drop 0).take (Try.prog.cellsOf 3)) = xs[0]? := hf 0 _ rfl
  rw [co3] at e0
  obtain ⟨_, x0, r0, w0⟩ := (Opens.int (by kernel_rfl)) _ _ _ _ _ _ _ (e0.trans (List.getElem?_eq_getElem (by omega)))
  have e1 : DataW.trod enc Try.prog w base sp held n 3 (([c0, c1].drop 1).take (Try.prog.cellsOf 3)) = xs[1]? := hf 1 _ rfl
  rw [co3] at e1
  obtain ⟨_, x1, r1, w1⟩ := (Opens.int (by kernel_rfl)) _ _ _ _ _ _ _ (e1.trans (List.getElem?_eq_getElem (by omega)))
  have q0 : [c0] = [_] := r0
  cases q0
  have q1 : [c1] = [_] := r1
  cases q1
  exact ⟨rfl, ⟨x0, x1⟩, rfl, w0, w1⟩
def W_Rain (x : Rain) : Prop := I64 x.Day ∧ W_Span x.Level
set_option maxRecDepth 100000 in
theorem o_Rain {T : Type} {enc : TypeId × Value → T} : Opens enc Try.prog 37 3 R_Rain W_Rain := by
  intro w base sp held fuel cs y h
  obtain ⟨xs, n, _, rfl, hl, hlen, hf⟩ := DataW.trod_struct Try.underlying37 h
  have hl2 : cs.length = 3 := hl.trans (by kernel_rfl)
  have hx : xs.length = 2 := hlen
  obtain ⟨c0, c1, c2, rfl⟩ : ∃ c0 c1 c2, cs = [c0, c1, c2] := by
    match cs, hl2 with
    | [c0, c1, c2], _ => exact ⟨_, _, _, rfl⟩
  have co3 : Try.prog.cellsOf 3 = 1 := by kernel_rfl
  have co31 : Try.prog.cellsOf 31 = 2 := by kernel_rfl
  have e0 : DataW.trod enc Try.prog w base sp held n 3 (([c0, c1, c2].drop 0).take (Try.prog.cellsOf 3)) = xs[0]? := hf 0 _ rfl
  rw [co3] at e0
  obtain ⟨_, x0, r0, w0⟩ := (Opens.int (by kernel_rfl)) _ _ _ _ _ _ _ (e0.trans (List.getElem?_eq_getElem (by omega)))
  have e1 : DataW.trod enc Try.prog w base sp held n 31 (([c0, c1, c2].drop 1).take (Try.prog.cellsOf 31)) = xs[1]? := hf 1 _ rfl
  rw [co31] at e1
  obtain ⟨_, x1, r1, w1⟩ := o_Span _ _ _ _ _ _ _ (e1.trans (List.getElem?_eq_getElem (by omega)))
  have q0 : [c0] = [_] := r0
  cases q0
  have q1 : [c1, c2] = _ := r1
  cases q1
  exact ⟨rfl, ⟨x0, x1⟩, rfl, w0, w1⟩
def W_Fair (x : Fair) : Prop := I64 x.Price ∧ (fun (l : List Int) => (∀ x ∈ l, I64 x) ∧ l.length ≤ 9223372036854775807) x.Sells
set_option maxRecDepth 100000 in
theorem o_Fair {T : Type} {enc : TypeId × Value → T} : Opens enc Try.prog 41 2 R_Fair W_Fair := by
  intro w base sp held fuel cs y h
  obtain ⟨xs, n, _, rfl, hl, hlen, hf⟩ := DataW.trod_struct Try.underlying41 h
  have hl2 : cs.length = 2 := hl.trans (by kernel_rfl)
  have hx : xs.length = 2 := hlen
  obtain ⟨c0, c1, rfl⟩ : ∃ c0 c1, cs = [c0, c1] := by
    match cs, hl2 with
    | [c0, c1], _ => exact ⟨_, _, rfl⟩
  have co3 : Try.prog.cellsOf 3 = 1 := by kernel_rfl
  have co26 : Try.prog.cellsOf 26 = 1 := by kernel_rfl
  have e0 : DataW.trod enc Try.prog w base sp held n 3 (([c0, c1].drop 0).take (Try.prog.cellsOf 3)) = xs[0]? := hf 0 _ rfl
  rw [co3] at e0
  obtain ⟨_, x0, r0, w0⟩ := (Opens.int (by kernel_rfl)) _ _ _ _ _ _ _ (e0.trans (List.getElem?_eq_getElem (by omega)))
  have e1 : DataW.trod enc Try.prog w base sp held n 26 (([c0, c1].drop 1).take (Try.prog.cellsOf 26)) = xs[1]? := hf 1 _ rfl
  rw [co26] at e1
  obtain ⟨_, x1, r1, w1⟩ := (Opens.slice (e := 3) (sz := 1) (by kernel_rfl) (by kernel_rfl) rfl (Opens.int (by kernel_rfl))) _ _ _ _ _ _ _ (e1.trans (List.getElem?_eq_getElem (by omega)))
  have q0 : [c0] = [_] := r0
  cases q0
  obtain ⟨v1, q1, s1⟩ := r1
  have q1 : [c1] = [v1] := q1
  cases q1
  exact ⟨rfl, ⟨x0, x1⟩, ⟨c1, rfl, s1⟩, w0, w1⟩
def W_Tour (x : Tour) : Prop := I64 x.Days ∧ I64 x.Step ∧ (fun (l : List Rain) => (∀ x ∈ l, W_Rain x) ∧ l.length ≤ 9223372036854775807) x.Rains ∧ I64 x.Wrong ∧ (fun (l : List Fair) => (∀ x ∈ l, W_Fair x) ∧ l.length ≤ 9223372036854775807) x.Fairs ∧ I64 x.Reach ∧ I64 x.Stock
set_option maxRecDepth 100000 in
theorem o_Tour {T : Type} {enc : TypeId × Value → T} : Opens enc Try.prog 25 7 R_Tour W_Tour := by
  intro w base sp held fuel cs y h
  obtain ⟨xs, n, _, rfl, hl, hlen, hf⟩ := DataW.trod_struct Try.underlying25 h
  have hl2 : cs.length = 7 := hl.trans (by kernel_rfl)
  have hx : xs.length = 7 := hlen
  obtain ⟨c0, c1, c2, c3, c4, c5, c6, rfl⟩ : ∃ c0 c1 c2 c3 c4 c5 c6, cs = [c0, c1, c2, c3, c4, c5, c6] := by
    match cs, hl2 with
    | [c0, c1, c2, c3, c4, c5, c6], _ => exact ⟨_, _, _, _, _, _, _, rfl⟩
  have co3 : Try.prog.cellsOf 3 = 1 := by kernel_rfl
  have co22 : Try.prog.cellsOf 22 = 1 := by kernel_rfl
  have co23 : Try.prog.cellsOf 23 = 1 := by kernel_rfl
  have e0 : DataW.trod enc Try.prog w base sp held n 3 (([c0, c1, c2, c3, c4, c5, c6].drop 0).take (Try.prog.cellsOf 3)) = xs[0]? := hf 0 _ rfl
  rw [co3] at e0
  obtain ⟨_, x0, r0, w0⟩ := (Opens.int (by kernel_rfl)) _ _ _ _ _ _ _ (e0.trans (List.getElem?_eq_getElem (by omega)))
  have e1 : DataW.trod enc Try.prog w base sp held n 3 (([c0, c1, c2, c3, c4, c5, c6].drop 1).take (Try.prog.cellsOf 3)) = xs[1]? := hf 1 _ rfl
  rw [co3] at e1
  obtain ⟨_, x1, r1, w1⟩ := (Opens.int (by kernel_rfl)) _ _ _ _ _ _ _ (e1.trans (List.getElem?_eq_getElem (by omega)))
  have e2 : DataW.trod enc Try.prog w base sp held n 22 (([c0, c1, c2, c3, c4, c5, c6].drop 2).take (Try.prog.cellsOf 22)) = xs[2]? := hf 2 _ rfl
  rw [co22] at e2
  obtain ⟨_, x2, r2, w2⟩ := (Opens.slice (e := 37) (sz := 3) (by kernel_rfl) (by kernel_rfl) rfl o_Rain) _ _ _ _ _ _ _ (e2.trans (List.getElem?_eq_getElem (by omega)))
  have e3 : DataW.trod enc Try.prog w base sp held n 3 (([c0, c1, c2, c3, c4, c5, c6].drop 3).take (Try.prog.cellsOf 3)) = xs[3]? := hf 3 _ rfl
  rw [co3] at e3
  obtain ⟨_, x3, r3, w3⟩ := (Opens.int (by kernel_rfl)) _ _ _ _ _ _ _ (e3.trans (List.getElem?_eq_getElem (by omega)))
  have e4 : DataW.trod enc Try.prog w base sp held n 23 (([c0, c1, c2, c3, c4, c5, c6].drop 4).take (Try.prog.cellsOf 23)) = xs[4]? := hf 4 _ rfl
  rw [co23] at e4
  obtain ⟨_, x4, r4, w4⟩ := (Opens.slice (e := 41) (sz := 2) (by kernel_rfl) (by kernel_rfl) rfl o_Fair) _ _ _ _ _ _ _ (e4.trans (List.getElem?_eq_getElem (by omega)))
  have e5 : DataW.trod enc Try.prog w base sp held n 3 (([c0, c1, c2, c3, c4, c5, c6].drop 5).take (Try.prog.cellsOf 3)) = xs[5]? := hf 5 _ rfl
  rw [co3] at e5
  obtain ⟨_, x5, r5, w5⟩ := (Opens.int (by kernel_rfl)) _ _ _ _ _ _ _ (e5.trans (List.getElem?_eq_getElem (by omega)))
  have e6 : DataW.trod enc Try.prog w base sp held n 3 (([c0, c1, c2, c3, c4, c5, c6].drop 6).take (Try.prog.cellsOf 3)) = xs[6]? := hf 6 _ rfl
  rw [co3] at e6
  obtain ⟨_, x6, r6, w6⟩ := (Opens.int (by kernel_rfl)) _ _ _ _ _ _ _ (e6.trans (List.getElem?_eq_getElem (by omega)))
  have q0 : [c0] = [_] := r0
  cases q0
  have q1 : [c1] = [_] := r1
  cases q1
  obtain ⟨v2, q2, s2⟩ := r2
  have q2 : [c2] = [v2] := q2
  cases q2
  have q3 : [c3] = [_] := r3
  cases q3
  obtain ⟨v4, q4, s4⟩ := r4
  have q4 : [c4] = [v4] := q4
  cases q4
  have q5 : [c5] = [_] := r5
  cases q5
  have q6 : [c6] = [_] := r6
  cases q6
  exact ⟨rfl, ⟨x0, x1, x2, x3, x4, x5, x6⟩, ⟨c2, c4, rfl, s2, s4⟩, w0, w1, w2, w3, w4, w5, w6⟩
def W_law11_Trip (x : law11_Trip) : Prop := (fun (l : List Int) => (∀ x ∈ l, I64 x) ∧ l.length ≤ 9223372036854775807) x.Route ∧ (fun (l : List Int) => (∀ x ∈ l, I64 x) ∧ l.length ≤ 9223372036854775807) x.Levels
set_option maxRecDepth 100000 in
theorem o_law11_Trip {T : Type} {enc : TypeId × Value → T} : Opens enc Try.prog 50 2 R_law11_Trip W_law11_Trip := by
  intro w base sp held fuel cs y h
  obtain ⟨xs, n, _, rfl, hl, hlen, hf⟩ := DataW.trod_struct Try.underlying50 h
  have hl2 : cs.length = 2 := hl.trans (by kernel_rfl)
  have hx : xs.length = 2 := hlen
  obtain ⟨c0, c1, rfl⟩ : ∃ c0 c1, cs = [c0, c1] := by
    match cs, hl2 with
    | [c0, c1], _ => exact ⟨_, _, rfl⟩
  have co26 : Try.prog.cellsOf 26 = 1 := by kernel_rfl
  have e0 : DataW.trod enc Try.prog w base sp held n 26 (([c0, c1].drop 0).take (Try.prog.cellsOf 26)) = xs[0]? := hf 0 _ rfl
  rw [co26] at e0
  obtain ⟨_, x0, r0, w0⟩ := (Opens.slice (e := 3) (sz := 1) (by kernel_rfl) (by kernel_rfl) rfl (Opens.int (by kernel_rfl))) _ _ _ _ _ _ _ (e0.trans (List.getElem?_eq_getElem (by omega)))
  have e1 : DataW.trod enc Try.prog w base sp held n 26 (([c0, c1].drop 1).take (Try.prog.cellsOf 26)) = xs[1]? := hf 1 _ rfl
  rw [co26] at e1
  obtain ⟨_, x1, r1, w1⟩ := (Opens.slice (e := 3) (sz := 1) (by kernel_rfl) (by kernel_rfl) rfl (Opens.int (by kernel_rfl))) _ _ _ _ _ _ _ (e1.trans (List.getElem?_eq_getElem (by omega)))
  obtain ⟨v0, q0, s0⟩ := r0
  have q0 : [c0] = [v0] := q0
  cases q0
  obtain ⟨v1, q1, s1⟩ := r1
  have q1 : [c1] = [v1] := q1
  cases q1
  exact ⟨rfl, ⟨x0, x1⟩, ⟨c0, c1, rfl, s0, s1⟩, w0, w1⟩
def W_law11_Ask (x : law11_Ask) : Prop := I64 x.Day ∧ I64 x.Rain
set_option maxRecDepth 100000 in
theorem o_law11_Ask {T : Type} {enc : TypeId × Value → T} : Opens enc Try.prog 52 2 R_law11_Ask W_law11_Ask := by
  intro w base sp held fuel cs y h
  obtain ⟨xs, n, _, rfl, hl, hlen, hf⟩ := DataW.trod_struct Try.underlying52 h
  have hl2 : cs.length = 2 := hl.trans (by kernel_rfl)
  have hx : xs.length = 2 := hlen
  obtain ⟨c0, c1, rfl⟩ : ∃ c0 c1, cs = [c0, c1] := by
    match cs, hl2 with
    | [c0, c1], _ => exact ⟨_, _, rfl⟩
  have co3 : Try.prog.cellsOf 3 = 1 := by kernel_rfl
  have e0 : DataW.trod enc Try.prog w base sp held n 3 (([c0, c1].drop 0).take (Try.prog.cellsOf 3)) = xs[0]? := hf 0 _ rfl
  rw [co3] at e0
  obtain ⟨_, x0, r0, w0⟩ := (Opens.int (by kernel_rfl)) _ _ _ _ _ _ _ (e0.trans (List.getElem?_eq_getElem (by omega)))
  have e1 : DataW.trod enc Try.prog w base sp held n 3 (([c0, c1].drop 1).take (Try.prog.cellsOf 3)) = xs[1]? := hf 1 _ rfl
  rw [co3] at e1
  obtain ⟨_, x1, r1, w1⟩ := (Opens.int (by kernel_rfl)) _ _ _ _ _ _ _ (e1.trans (List.getElem?_eq_getElem (by omega)))
  have q0 : [c0] = [_] := r0
  cases q0
  have q1 : [c1] = [_] := r1
  cases q1
  exact ⟨rfl, ⟨x0, x1⟩, rfl, w0, w1⟩
end Go.Proofs.Ytooankffknoomaa
