/-
  A small logic over the model: frames as functions, own blocks, own growing slices, frozen data. No program in sight.
-/
import Derived.WalkKit
import Derived.WalkSpells
import Derived.WalkLawsBesides
import Derived.RangeFuncNested
import Derived.Deep.Quiet
import Derived.RangeFuncCalls
import Derived.Shelf.Abstract
import Derived.Maps.AppendAt
namespace Go.Dec
open Go Go.RowKit

/-! ### frames -/
def upd (f : Nat → Value) (d : Nat) (v : Value) : Nat → Value := fun i => cond (Nat.beq i d) v (f i)

structure Fr (N : Nat) (ds : List Deferred) (a : Act) (f : Nat → Value) : Prop where
  size : a.tmps.size = N
  defers : a.defers = ds
  get : ∀ i, a.tmps.getD i undef = f i

def ev (f : Nat → Value) : Operand → Value
  | .tmp t => f t
  | .const v => v
  | .global g => .pointer (some ⟨g, 0, none⟩)
  | .func k => .func (.func k) #[] #[]

theorem Fr.eval {N : Nat} {ds : List Deferred} {a : Act} {f : Nat → Value} (h : Fr N ds a f) : a.eval = ev f := by
  funext x; cases x <;> simp [Act.eval, ev, h.get]

theorem Fr.put {N : Nat} {ds : List Deferred} {a : Act} {f : Nat → Value} (h : Fr N ds a f) {d : Nat} (hd : Nat.blt d N = true) (v : Value) : Fr N ds (a.put (some d) v) (upd f d v) := by
  have hd' : d < N := Nat.le_of_ble_eq_true hd
  refine ⟨by simp [Act.put, h.size], h.defers, fun i => ?_⟩
  simp only [Act.put, upd]
  by_cases e : i = d
  · subst e
    have : i < a.tmps.size := by rw [h.size]; exact hd'
    simp [Array.getD, this]
  · have : Nat.beq i d = false := by cases hb : Nat.beq i d; rfl; exact absurd (Nat.eq_of_beq_eq_true hb) e
    rw [this]
    simp only [cond_false]
    rw [← h.get i]
    simp only [Array.getD_eq_getD_getElem?, Array.getElem?_setIfInBounds]
    rw [if_neg (fun e' => e e'.symm)]

/-! ### frozen data, own blocks, own growing slices -/
abbrev Hp := Nat → Option Obj
def HLe (H : Hp) (w : World) : Prop := ∀ b o, H b = some o → w.heap[b]? = some o
def HSub (H H' : Hp) : Prop := ∀ b o, H b = some o → H' b = some o
theorem HSub.refl (H : Hp) : HSub H H := fun _ _ h => h
theorem HSub.trans {A B C : Hp} (h : HSub A B) (k : HSub B C) : HSub A C := fun b o e => k b o (h b o e)

structure GS where
  v : Value
  e : TypeId
  sz : Nat
  n : Nat
  xs : List Value

/-- where the call began -/
structure Bs where
  w : World
  H : Hp

structure St (B : Bs) (H : Hp) (bs : List (Nat × Obj)) (gs : List GS) (w : World) : Prop where
  below : Below B.w.heap.size B.w w
  hle : HLe H w
  ext : HSub B.H H ∧ ∀ b, b < B.w.heap.size → H b = B.H b
  own : ∀ p ∈ bs, w.heap[p.1]? = some p.2 ∧ B.w.heap.size ≤ p.1 ∧ H p.1 = none
  nodup : bs.Pairwise (fun p q => p.1 ≠ q.1)
  row : ∀ g ∈ gs, w.ownsRow B.w.heap.size g.e g.sz g.v g.n g.xs
  rfresh : ∀ g ∈ gs, ∀ b, g.v.ownBlock = some b → H b = none ∧ ∀ p ∈ bs, p.1 ≠ b
  rdisj : gs.Pairwise (fun g h => ∀ b, g.v.ownBlock = some b → h.v.ownBlock ≠ some b)

theorem St.start {w : World} {H : Hp} (h : HLe H w) : St ⟨w, H⟩ H [] [] w :=
  ⟨Below.refl _ _, h, ⟨HSub.refl _, fun _ _ => rfl⟩, by simp, .nil, by simp, by simp, .nil⟩

theorem HLe.lt {H : Hp} {w : World} (h : HLe H w) {b : Nat} {o : Obj} (hb : H b = some o) : b < w.heap.size :=
  (Array.getElem?_eq_some_iff.1 (h b o hb)).1

section
variable {B : Bs} {H : Hp} {bs : List (Nat × Obj)} {gs : List GS} {w w' : World}

theorem St.own_lt (h : St B H bs gs w) {p : Nat × Obj} (hp : p ∈ bs) : p.1 < w.heap.size := (Array.getElem?_eq_some_iff.1 (h.own p hp).1).1

/-- what leaves all that stood as it was -/
theorem St.kept (h : St B H bs gs w) (hb : Below w.heap.size w w') : St B H bs gs w' := by
  refine ⟨h.below.trans (hb.mono h.below.size), fun b o hbo => ?_, h.ext, fun p hp => ?_, h.nodup, fun g hg => ?_, h.rfresh, h.rdisj⟩
  · rw [hb.block b (h.hle.lt hbo)]; exact h.hle b o hbo
  · rw [hb.block p.1 (h.own_lt hp)]; exact h.own p hp
  · exact (h.row g hg).kept (row := none) ⟨hb.os, hb.tape, hb.output, hb.size, fun k hk _ => hb.block k hk⟩ (by cases g.v.ownBlock <;> simp)

theorem Below.drawn (w : World) (n : Nat) : Below w.heap.size w { w with drawn := n } := ⟨rfl, rfl, rfl, Nat.le_refl _, fun _ _ => rfl⟩

theorem St.drew (h : St B H bs gs w) (n : Nat) : St B H bs gs { w with drawn := n } := h.kept (Below.drawn w n)

/-- a new block -/
theorem St.alloc (h : St B H bs gs w) (o : Obj) : St B H ((w.heap.size, o) :: bs) gs (w.alloc o) := by
  have k := h.kept ((Below.refl _ w).alloc (Nat.le_refl _) o)
  refine ⟨k.below, k.hle, k.ext, fun p hp => ?_, List.pairwise_cons.2 ⟨fun p hp e => ?_, h.nodup⟩, k.row, fun g hg b hb => ?_, h.rdisj⟩
  · rcases List.mem_cons.1 hp with rfl | hp
    · refine ⟨heap_alloc_new w o, h.below.size, ?_⟩
      cases hH : H w.heap.size with
      | none => rfl
      | some o' => exact absurd (h.hle.lt hH) (Nat.lt_irrefl _)
    · exact k.own p hp
  · have := h.own_lt hp
    simp only at e
    omega
  · refine ⟨(h.rfresh g hg b hb).1, fun p hp => ?_⟩
    rcases List.mem_cons.1 hp with rfl | hp
    · have := ((h.row g hg).lt b hb).2
      simp only
      omega
    · exact (h.rfresh g hg b hb).2 p hp

/-- a world that differs at one own block -/
theorem St.setOwn (h : St B H bs gs w) {i b : Nat} {o o' : Obj} (hi : bs[i]? = some (b, o)) (hos : w'.os = w.os) (ht : w'.tape = w.tape) (ho : w'.output = w.output) (hs : w'.heap.size = w.heap.size)
    (hother : ∀ k, k ≠ b → w'.heap[k]? = w.heap[k]?) (hself : w'.heap[b]? = some o') : St B H (bs.set i (b, o')) gs w' := by
  have hmem : (b, o) ∈ bs := List.mem_of_getElem? hi
  have hb := h.own _ hmem
  have hil : i < bs.length := (List.getElem?_eq_some_iff.1 hi).1
  have hb0 : ∀ c ob, H c = some ob → c ≠ b := fun c ob hc e => by subst e; simp [hb.2.2] at hc
  have hpos : ∀ (j : Nat) (p : Nat × Obj), bs[j]? = some p → j ≠ i → p.1 ≠ b := fun j p hj hne e => by
    have hj' := (List.getElem?_eq_some_iff.1 hj)
    have hi' := (List.getElem?_eq_some_iff.1 hi)
    obtain ⟨hjl, hj2⟩ := hj'
    obtain ⟨hil', hi2⟩ := hi'
    have hp := List.pairwise_iff_getElem.1 h.nodup
    rcases Nat.lt_or_gt_of_ne hne with hlt | hgt
    · exact hp j i hjl hil' hlt (by rw [hj2, hi2]; exact e)
    · exact hp i j hil' hjl hgt (by rw [hj2, hi2]; exact e.symm)
  have hset : ∀ p ∈ bs.set i (b, o'), p = (b, o') ∨ (p ∈ bs ∧ p.1 ≠ b) := fun p hp => by
    obtain ⟨j, hj⟩ := List.mem_iff_getElem?.1 hp
    rw [List.getElem?_set] at hj
    by_cases hji : i = j
    · subst hji; simp [hil] at hj; exact .inl hj.symm
    · simp [hji] at hj
      exact .inr ⟨List.mem_of_getElem? hj, hpos j p hj (Ne.symm hji)⟩
  refine ⟨?_, fun c ob hc => ?_, h.ext, fun p hp => ?_, ?_, fun g hg => ?_, fun g hg c hc => ⟨(h.rfresh g hg c hc).1, fun p hp => ?_⟩, h.rdisj⟩
  · exact h.below.trans ⟨hos, ht, ho, Nat.le_of_eq hs.symm, fun k hk => hother k (by have := hb.2.1; simp only at this; omega)⟩
  · rw [hother c (hb0 c ob hc)]; exact h.hle c ob hc
  · rcases hset p hp with rfl | ⟨hp', hne⟩
    · exact ⟨hself, hb.2⟩
    · rw [hother p.1 hne]; exact h.own p hp'
  · have : (bs.set i (b, o')).map (·.1) = bs.map (·.1) := by
      apply List.ext_getElem?
      intro j
      simp only [List.getElem?_map, List.getElem?_set]
      by_cases hji : i = j
      · subst hji; simp [hil]
        have := List.getElem?_eq_getElem hil
        rw [hi] at this
        have e := Option.some.inj this
        rw [← e]
      · simp [hji]
    have hp : (bs.map (·.1)).Pairwise (· ≠ ·) := List.pairwise_map.2 h.nodup
    rw [← this] at hp
    exact List.pairwise_map.1 hp
  · refine (h.row g hg).kept (row := some b) ⟨hos, ht, ho, Nat.le_of_eq hs.symm, fun k _ hk => hother k (fun e => hk (by rw [e]))⟩ ?_
    cases hv : g.v.ownBlock with
    | none => exact .inl rfl
    | some c => exact .inr (fun e => (h.rfresh g hg c hv).2 _ hmem (by simpa using (Option.some.inj e).symm))
  · rcases hset p hp with rfl | ⟨hp', _⟩
    · exact (h.rfresh g hg c hc).2 (b, o) hmem
    · exact (h.rfresh g hg c hc).2 p hp'

/-- fewer own blocks, fewer own slices -/
theorem St.sub (h : St B H bs gs w) {bs' : List (Nat × Obj)} {gs' : List GS} (hb : bs'.Sublist bs) (hg : gs'.Sublist gs) : St B H bs' gs' w :=
  ⟨h.below, h.hle, h.ext, fun p hp => h.own p (hb.subset hp), h.nodup.sublist hb, fun g hg' => h.row g (hg.subset hg'), fun g hg' b hb' => ⟨(h.rfresh g (hg.subset hg') b hb').1, fun p hp => (h.rfresh g (hg.subset hg') b hb').2 p (hb.subset hp)⟩, h.rdisj.sublist hg⟩

/-- a block handed over to the frozen data -/
def ins (H : Hp) (b : Nat) (o : Obj) : Hp := fun k => if k = b then some o else H k
theorem HSub.ins {b : Nat} (hb : H b = none) (o : Obj) : HSub H (ins H b o) := fun k ob hk => by
  unfold Dec.ins; split
  · rename_i e; subst e; simp [hb] at hk
  · exact hk

theorem St.freeze (h : St B H bs gs w) {i b : Nat} {o : Obj} (hi : bs[i]? = some (b, o)) : H b = none ∧ St B (ins H b o) (bs.eraseIdx i) gs w := by
  have hmem : (b, o) ∈ bs := List.mem_of_getElem? hi
  have hb := h.own _ hmem
  have hsub : (bs.eraseIdx i).Sublist bs := List.eraseIdx_sublist ..
  have hil : i < bs.length := (List.getElem?_eq_some_iff.1 hi).1
  have hne : ∀ p ∈ bs.eraseIdx i, p.1 ≠ b := fun p hp e => by
    obtain ⟨j, hj⟩ := List.mem_iff_getElem?.1 hp
    rw [List.getElem?_eraseIdx] at hj
    have hpw := List.pairwise_iff_getElem.1 h.nodup
    obtain ⟨hil', hi2⟩ := List.getElem?_eq_some_iff.1 hi
    split at hj
    · rename_i hlt
      obtain ⟨hjl, hj2⟩ := List.getElem?_eq_some_iff.1 hj
      exact hpw j i hjl hil' hlt (by rw [hj2, hi2]; exact e)
    · rename_i hge
      obtain ⟨hjl, hj2⟩ := List.getElem?_eq_some_iff.1 hj
      exact hpw i (j + 1) hil' hjl (by omega) (by rw [hj2, hi2]; exact e.symm)
  refine ⟨hb.2.2, h.below, fun k ob hk => ?_, ⟨h.ext.1.trans (HSub.ins hb.2.2 o), fun k hk => ?_⟩, fun p hp => ?_, h.nodup.sublist hsub, h.row, fun g hg c hc => ⟨?_, fun p hp => (h.rfresh g hg c hc).2 p (hsub.subset hp)⟩, h.rdisj⟩
  · unfold Dec.ins at hk; split at hk
    · rename_i e; subst e; cases hk; exact hb.1
    · exact h.hle k ob hk
  · unfold Dec.ins; rw [if_neg (fun e => by have := hb.2.1; simp only at this; omega)]; exact h.ext.2 k hk
  · have := h.own p (hsub.subset hp)
    exact ⟨this.1, this.2.1, by unfold Dec.ins; rw [if_neg (hne p hp)]; exact this.2.2⟩
  · unfold Dec.ins; rw [if_neg (fun e => (h.rfresh g hg c hc).2 _ hmem e.symm)]; exact (h.rfresh g hg c hc).1

/-- more data has been frozen by a callee -/
theorem St.grow (h : St B H bs gs w) {H' : Hp} (hb : Below w.heap.size w w') (hle : HLe H' w') (hsub : HSub H H') (hold : ∀ b, b < w.heap.size → H' b = H b) : St B H' bs gs w' := by
  have k := h.kept hb
  exact ⟨k.below, hle, ⟨h.ext.1.trans hsub, fun b hlt => by rw [hold b (by have := h.below.size; omega)]; exact h.ext.2 b hlt⟩, fun p hp => ⟨(k.own p hp).1, (k.own p hp).2.1, by rw [hold p.1 (h.own_lt hp)]; exact (h.own p hp).2.2⟩, k.nodup, k.row,
    fun g hg c hc => ⟨by rw [hold c ((h.row g hg).lt c hc).2]; exact (h.rfresh g hg c hc).1, (k.rfresh g hg c hc).2⟩, k.rdisj⟩
end
end Go.Dec
