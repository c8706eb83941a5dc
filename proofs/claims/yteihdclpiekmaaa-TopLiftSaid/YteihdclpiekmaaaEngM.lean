/-
  What a law is given, read as data.
-/
import Derived.Test.YteihdclpiekmaaaEngL
import Derived.ProofKit
namespace Go.Dec
open Go Go.RowKit

/-- all that lies in a world, as data -/
def hw (w : World) : Hp := fun b => w.heap[b]?
theorem hw_le (w : World) : HLe (hw w) w := fun _ _ h => h

def Opens {T α : Type} (enc : TypeId × Value → T) (P : Program) (t : TypeId) (sz : Nat) (R : Rl α) (Wf : α → Prop) : Prop :=
  ∀ (w : World) (base : Nat) (sp : Nat → Bool) (held : Bool) (fuel : Nat) (cs : List Value) (y : DataW T × List MemPlace), DataW.trod enc P w base sp held fuel t cs = some y → cs.length = sz ∧ ∃ x, R (hw w) cs x ∧ Wf x

def I64 (n : Int) : Prop := -9223372036854775808 ≤ n ∧ n ≤ 9223372036854775807

section
variable {T α : Type} {enc : TypeId × Value → T} {P : Program} {t : TypeId}
theorem Opens.int (ht : P.underlying t = some (.int .i64)) : Opens enc P t 1 RInt I64 := by
  intro w base sp held fuel cs y h
  obtain ⟨n, rfl, rfl, hwf⟩ := DataW.trod_int ht h
  refine ⟨rfl, n, rfl, ?_⟩
  simpa [Lit.wf, IntKind.min, IntKind.max, IntKind.signed, IntKind.bits, I64] using hwf
theorem Opens.bool (ht : P.underlying t = some .bool) : Opens enc P t 1 RBool (fun _ => True) := by
  intro w base sp held fuel cs y h
  obtain ⟨n, rfl, rfl⟩ := DataW.trod_bool ht h
  exact ⟨rfl, n, rfl, trivial⟩

theorem list_of {Pr : Nat → α → Prop} : ∀ n, (∀ i, i < n → ∃ x, Pr i x) → ∃ l : List α, l.length = n ∧ ∀ i x, l[i]? = some x → Pr i x
  | 0, _ => ⟨[], rfl, by simp⟩
  | n + 1, h => by
    obtain ⟨l, h1, h2⟩ := list_of n (fun i hi => h i (by omega))
    obtain ⟨x, hx⟩ := h n (by omega)
    refine ⟨l ++ [x], by simp [h1], fun i y hi => ?_⟩
    rw [List.getElem?_append] at hi
    split at hi
    · exact h2 i y hi
    · rename_i hge
      have : i - l.length = 0 := by
        have := (List.getElem?_eq_some_iff.1 hi).1
        simp at this; omega
      rw [this] at hi
      simp at hi
      have e : i = n := by omega
      subst e; subst hi; exact hx

theorem cells_of {w : World} {base sz : Nat} {a : Addr} {cs : List Value} (h : w.cells? base a sz = some cs) (hpos : 0 < sz) : cs.length = sz ∧ a.spot = none ∧ Cells (hw w) a.block a.off cs := by
  obtain ⟨_, hlen, hget⟩ := World.cells?_some h
  have h0 := hget 0 hpos
  have hs : a.spot = none := by
    cases hsp : a.spot with
    | none => rfl
    | some x =>
      have h1 : w.cell? (a.add 0) = none := by
        unfold Addr.add World.cell?
        simp [hsp]
        split <;> rfl
      rw [h1] at h0
      have := (List.getElem?_eq_none_iff.1 h0.symm)
      omega
  refine ⟨hlen, hs, ?_⟩
  have hblk : ∃ c e fz, w.heap[a.block]? = some (.cells c e fz) := by
    unfold Addr.add World.cell? at h0
    simp only [if_true] at h0
    split at h0
    · rename_i c e fz hb; exact ⟨c, e, fz, hb⟩
    · have := (List.getElem?_eq_none_iff.1 h0.symm); omega
  obtain ⟨c, e, fz, hb⟩ := hblk
  refine ⟨c, e, fz, hb, fun j v hv => ?_⟩
  have hj : j < sz := by have := (List.getElem?_eq_some_iff.1 hv).1; omega
  have h2 := hget j hj
  rw [hv] at h2
  unfold Addr.add World.cell? at h2
  by_cases hj0 : j = 0
  · subst hj0
    simp [hb, hs] at h2
    simpa using h2
  · simp [hj0, hb] at h2
    exact h2

theorem Opens.slice {e : TypeId} {sz : Nat} {R : Rl α} {Wf : α → Prop} (ht : P.underlying t = some (.slice e)) (hc : P.cellsOf e = sz) (hpos : Nat.blt 0 sz = true) (he : Opens enc P e sz R Wf) : Opens enc P t 1 (RSl sz R) (fun l => (∀ x ∈ l, Wf x) ∧ l.length ≤ 9223372036854775807) := by
  have hpos : 0 < sz := Nat.le_of_ble_eq_true hpos
  intro w base sp held fuel cs y h
  rcases DataW.trod_slice ht h with ⟨rfl, rfl⟩ | ⟨a, len, cap, elems, rest, n, _, rfl, rfl, hb, hl, hm, hlen, hel, _, _⟩
  · exact ⟨rfl, [], ⟨_, rfl, SL.nil⟩, by simp⟩
  · refine ⟨rfl, ?_⟩
    rw [hc] at hel
    have each : ∀ i, i < len → ∃ x, (∃ cs', Cells (hw w) a.block (a.off + i * sz) cs' ∧ cs'.length = sz ∧ R (hw w) cs' x ∧ a.spot = none) ∧ Wf x := fun i hi => by
      have h1 := hel i hi
      rw [List.getElem?_eq_getElem (by omega)] at h1
      obtain ⟨cs', h2, h3⟩ := Option.bind_eq_some_iff.1 h1
      obtain ⟨h4, x, h5, h6⟩ := he w base sp held n cs' _ h3
      obtain ⟨_, h7, h8⟩ := cells_of h2 hpos
      have hsp : a.spot = none := by
        by_cases h0 : i * sz = 0
        · rw [h0] at h7; simpa [Addr.add] using h7
        · -- the first element says it
          have h1' := hel 0 (by omega)
          rw [List.getElem?_eq_getElem (by omega)] at h1'
          obtain ⟨cs'', h2', _⟩ := Option.bind_eq_some_iff.1 h1'
          have := (cells_of h2' hpos).2.1
          simpa [Addr.add] using this
      refine ⟨x, ⟨cs', ?_, h4, h5, hsp⟩, h6⟩
      have e1 : (a.add (i * sz)).block = a.block := by unfold Addr.add; split <;> rfl
      have e2 : (a.add (i * sz)).off = a.off + i * sz := by unfold Addr.add; split <;> simp_all
      rw [e1, e2] at h8
      exact h8
    obtain ⟨l, h1, h2⟩ := list_of len each
    have hcap : l.length ≤ 9223372036854775807 ∧ l.length ≤ cap := by
      simp only [maxLen] at hm; omega
    refine ⟨l, ⟨_, rfl, ?_⟩, fun x hx => ?_, hcap.1⟩
    · refine ⟨some a, cap, by rw [h1], hcap, ?_⟩
      by_cases h0 : l = []
      · exact .inl h0
      · right
        have hne : 0 < len := by rw [← h1]; exact List.length_pos_iff.2 h0
        obtain ⟨_, ⟨_, _, _, _, hsp⟩, _⟩ := each 0 hne
        refine ⟨a.block, a.off, ?_, fun i x hi => ?_⟩
        · cases a; simp only at hsp; subst hsp; rfl
        · obtain ⟨⟨cs', k1, k2, k3, _⟩, _⟩ := h2 i x hi
          exact ⟨cs', k1, k2, k3⟩
    · obtain ⟨i, hi⟩ := List.mem_iff_getElem?.1 hx
      exact (h2 i x hi).2
end
end Go.Dec
