/-
  A part of the proof of RiRib: the texts EngA, EngB, EngC, EngD, EngE, EngF.
-/
import Derived.WalkKit
import Derived.WalkSpells
import Derived.WalkLawsBesides
import Derived.RangeFuncNested
import Derived.Deep.Quiet
import Derived.RangeFuncCalls
import Derived.Shelf.Abstract
import Derived.Maps.AppendAt
import Derived.Deep.MidRow
import Derived.OrdersHeld
import Derived.Great.BuildSlice
section
namespace Go.Dec
open Go Go.RowKit
def upd (f : Nat → Value) (d : Nat) (v : Value) : Nat → Value := fun i => cond (Nat.beq i d) v (f i)
structure Fr (N : Nat) (ds : List Deferred) (a : Act) (f : Nat → Value) : Prop where
  size : a.tmps.size = N
  defers : a.defers = ds
  get : ∀ i, a.tmps.getD i undef = f i
def ev (f : Nat → Value) : Operand → Value
  | .tmp t => f t
  | .const v => v
  | .global g => .pointer (some ⟨g, 0, none⟩)
  | .func k => .func (.func k) #[] #[]
theorem Fr.eval {N : Nat} {ds : List Deferred} {a : Act} {f : Nat → Value} (h : Fr N ds a f) : a.eval = ev f := by
  funext x; cases x <;> simp [Act.eval, ev, h.get]
theorem Fr.put {N : Nat} {ds : List Deferred} {a : Act} {f : Nat → Value} (h : Fr N ds a f) {d : Nat} (hd : Nat.blt d N = true) (v : Value) : Fr N ds (a.put (some d) v) (upd f d v) := by
  have hd' : d < N := Nat.le_of_ble_eq_true hd
  refine ⟨by simp [Act.put, h.size], h.defers, fun i => ?_⟩
  simp only [Act.put, upd]
  by_cases e : i = d
  · subst e
    have : i < a.tmps.size := by rw [h.size]; exact hd'
    simp [Array.getD, this]
  · have : Nat.beq i d = false := by cases hb : Nat.beq i d; rfl; exact absurd (Nat.eq_of_beq_eq_true hb) e
    rw [this]
    simp only [cond_false]
    rw [← h.get i]
    simp only [Array.getD_eq_getD_getElem?, Array.getElem?_setIfInBounds]
    rw [if_neg (fun e' => e e'.symm)]
/-- frozen data, and a block that is no data: whoever is called may turn it, as long as what is said of it stays so -/
structure Hp where
  fz : Nat → Option Obj
  hole : Option (Nat × (Obj → Prop))
instance : CoeFun Hp (fun _ => Nat → Option Obj) := ⟨Hp.fz⟩
def Hok (H : Hp) (w : World) : Prop := ∀ K I, H.hole = some (K, I) → H K = none ∧ ∃ o, w.heap[K]? = some o ∧ I o
structure HLe (H : Hp) (w : World) : Prop where
  le : ∀ b o, H b = some o → w.heap[b]? = some o
  ok : Hok H w
structure HSub (H H' : Hp) : Prop where
  le : ∀ b o, H b = some o → H' b = some o
  hole : H'.hole = H.hole
theorem HSub.refl (H : Hp) : HSub H H := ⟨fun _ _ h => h, rfl⟩
theorem HSub.trans {A B C : Hp} (h : HSub A B) (k : HSub B C) : HSub A C := ⟨fun b o e => k.le b o (h.le b o e), k.hole.trans h.hole⟩
theorem HLe.at {H : Hp} {w : World} (h : HLe H w) (b : Nat) (o : Obj) (hb : H b = some o) : w.heap[b]? = some o := h.le b o hb
/-- nothing below n is turned but the hole -/
structure BelowX (H : Hp) (n : Nat) (w w' : World) : Prop where
  os : w'.os = w.os
  tape : w'.tape = w.tape
  output : w'.output = w.output
  size : w.heap.size ≤ w'.heap.size
  block : ∀ k, k < n → (∀ I, H.hole ≠ some (k, I)) → w'.heap[k]? = w.heap[k]?
  lt : ∀ K I, H.hole = some (K, I) → K < n
theorem HLe.holeLt {H : Hp} {w : World} (h : HLe H w) {K : Nat} {I : Obj → Prop} (hK : H.hole = some (K, I)) : K < w.heap.size := by
  obtain ⟨_, o, ho, _⟩ := h.ok K I hK
  exact (Array.getElem?_eq_some_iff.1 ho).1
theorem BelowX.of {H : Hp} {w w' : World} (h : HLe H w) (hb : Below w.heap.size w w') : BelowX H w.heap.size w w' := ⟨hb.os, hb.tape, hb.output, hb.size, fun k hk _ => hb.block k hk, fun _ _ hK => h.holeLt hK⟩
theorem BelowX.refl {H : Hp} {w : World} (h : HLe H w) : BelowX H w.heap.size w w := .of h (Below.refl _ _)
theorem BelowX.trans {H : Hp} {n : Nat} {a b c : World} (h : BelowX H n a b) (k : BelowX H n b c) : BelowX H n a c :=
  ⟨k.os.trans h.os, k.tape.trans h.tape, k.output.trans h.output, Nat.le_trans h.size k.size, fun i hi hne => (k.block i hi hne).trans (h.block i hi hne), h.lt⟩
theorem BelowX.mono {H H' : Hp} {n m : Nat} {a b : World} (h : BelowX H n a b) (hm : m ≤ n) (hh : H.hole = H'.hole) (hl : ∀ K I, H'.hole = some (K, I) → K < m) : BelowX H' m a b :=
  ⟨h.os, h.tape, h.output, h.size, fun i hi hne => h.block i (by omega) (fun I e => hne I (by rw [← hh]; exact e)), hl⟩
/-- what a call keeps -/
structure Kept (H : Hp) (w w' : World) : Prop where
  below : BelowX H w.heap.size w w'
  ok : Hok H w'
theorem Kept.of {H : Hp} {w w' : World} (h : HLe H w) (hb : Below w.heap.size w w') : Kept H w w' := ⟨.of h hb, fun K I hK => by
  obtain ⟨h1, o, ho, hI⟩ := h.ok K I hK
  exact ⟨h1, o, (hb.block K (h.holeLt hK)).trans ho, hI⟩⟩
structure GS where
  v : Value
  e : TypeId
  sz : Nat
  n : Nat
  xs : List Value
/-- where the call began -/
structure Bs where
  w : World
  H : Hp
structure St (B : Bs) (H : Hp) (bs : List (Nat × Obj)) (gs : List GS) (w : World) : Prop where
  below : BelowX B.H B.w.heap.size B.w w
  hle : HLe H w
  ext : HSub B.H H ∧ ∀ b, b < B.w.heap.size → H b = B.H b
  own : ∀ p ∈ bs, w.heap[p.1]? = some p.2 ∧ B.w.heap.size ≤ p.1 ∧ H p.1 = none
  nodup : bs.Pairwise (fun p q => p.1 ≠ q.1)
  row : ∀ g ∈ gs, w.ownsRow B.w.heap.size g.e g.sz g.v g.n g.xs
  rfresh : ∀ g ∈ gs, ∀ b, g.v.ownBlock = some b → H b = none ∧ ∀ p ∈ bs, p.1 ≠ b
  rdisj : gs.Pairwise (fun g h => ∀ b, g.v.ownBlock = some b → h.v.ownBlock ≠ some b)
theorem St.start {w : World} {H : Hp} (h : HLe H w) : St ⟨w, H⟩ H [] [] w :=
  ⟨BelowX.refl h, h, ⟨HSub.refl _, fun _ _ => rfl⟩, by simp, .nil, by simp, by simp, .nil⟩
theorem HLe.lt {H : Hp} {w : World} (h : HLe H w) {b : Nat} {o : Obj} (hb : H b = some o) : b < w.heap.size :=
  (Array.getElem?_eq_some_iff.1 (h.le b o hb)).1
theorem HLe.sub {H H' : Hp} {w : World} (h : HLe H' w) (hs : HSub H H') : HLe H w := ⟨fun b o hb => h.le b o (hs.le b o hb), fun K I hK => by
  obtain ⟨h1, h2⟩ := h.ok K I (hs.hole.trans hK)
  refine ⟨?_, h2⟩
  cases hH : H K with
  | none => rfl
  | some o => rw [hs.le K o hH] at h1; cases h1⟩
theorem Kept.down {H H' : Hp} {w w' : World} (h : Kept H' w w') (hs : HSub H H') : Kept H w w' := ⟨h.below.mono (Nat.le_refl _) hs.hole (fun K I hK => h.below.lt K I (hs.hole.trans hK)), fun K I hK => by
  obtain ⟨h1, h2⟩ := h.ok K I (hs.hole.trans hK)
  refine ⟨?_, h2⟩
  cases hH : H K with
  | none => rfl
  | some o => rw [hs.le K o hH] at h1; cases h1⟩
theorem Kept.up {H H' : Hp} {w w' : World} (h : Kept H w w') (hs : HSub H H') (hle : HLe H' w) : Kept H' w w' := ⟨h.below.mono (Nat.le_refl _) hs.hole.symm (fun _ _ hK => hle.holeLt hK), fun K I hK =>
  ⟨(hle.ok K I hK).1, (h.ok K I (hs.hole.symm.trans hK)).2⟩⟩
theorem ownsRow_at {w w' : World} {base : Nat} {e : TypeId} {sz : Nat} {v : Value} {n : Nat} {xs : List Value} (h : w.ownsRow base e sz v n xs) (hb : ∀ b, v.ownBlock = some b → w'.heap[b]? = w.heap[b]?) : w'.ownsRow base e sz v n xs := by
  obtain ⟨h1, h2⟩ := h
  refine ⟨h1, h2.imp id ?_⟩
  rintro ⟨b, cap, cur, hv, h3, h4, h5⟩
  exact ⟨b, cap, cur, hv, h3, (hb b (by rw [hv]; rfl)).trans h4, h5⟩
section
variable {B : Bs} {H : Hp} {bs : List (Nat × Obj)} {gs : List GS} {w w' : World}
theorem St.own_lt (h : St B H bs gs w) {p : Nat × Obj} (hp : p ∈ bs) : p.1 < w.heap.size := (Array.getElem?_eq_some_iff.1 (h.own p hp).1).1
theorem St.hole (h : St B H bs gs w) : H.hole = B.H.hole := h.ext.1.hole
theorem St.notHole (h : St B H bs gs w) {k : Nat} (hk : B.w.heap.size ≤ k) : ∀ I, H.hole ≠ some (k, I) := fun I e => by
  have := h.below.lt k I (by rw [← h.hole]; exact e)
  omega
/-- what leaves all that stood as it was -/
theorem St.keptX (h : St B H bs gs w) (hb : Kept H w w') : St B H bs gs w' := by
  refine ⟨h.below.trans (hb.below.mono h.below.size h.hole h.below.lt), ⟨fun b o hbo => ?_, hb.ok⟩, h.ext, fun p hp => ?_, h.nodup, fun g hg => ?_, h.rfresh, h.rdisj⟩
  · rw [hb.below.block b (h.hle.lt hbo) (fun I e => by have := (h.hle.ok b I e).1; rw [hbo] at this; cases this)]; exact h.hle.le b o hbo
  · rw [hb.below.block p.1 (h.own_lt hp) (h.notHole (h.own p hp).2.1)]; exact h.own p hp
  · exact ownsRow_at (h.row g hg) fun b hv => hb.below.block b ((h.row g hg).lt b hv).2 (h.notHole ((h.row g hg).lt b hv).1)
theorem St.kept (h : St B H bs gs w) (hb : Below w.heap.size w w') : St B H bs gs w' := h.keptX (.of h.hle hb)
theorem Below.drawn (w : World) (n : Nat) : Below w.heap.size w { w with drawn := n } := ⟨rfl, rfl, rfl, Nat.le_refl _, fun _ _ => rfl⟩
theorem St.drew (h : St B H bs gs w) (n : Nat) : St B H bs gs { w with drawn := n } := h.kept (Below.drawn w n)
/-- a new block -/
theorem St.alloc (h : St B H bs gs w) (o : Obj) : St B H ((w.heap.size, o) :: bs) gs (w.alloc o) := by
  have k := h.kept ((Below.refl _ w).alloc (Nat.le_refl _) o)
  refine ⟨k.below, k.hle, k.ext, fun p hp => ?_, List.pairwise_cons.2 ⟨fun p hp e => ?_, h.nodup⟩, k.row, fun g hg b hb => ?_, h.rdisj⟩
  · rcases List.mem_cons.1 hp with rfl | hp
    · refine ⟨heap_alloc_new w o, h.below.size, ?_⟩
      cases hH : H w.heap.size with
      | none => rfl
      | some o' => exact absurd (h.hle.lt hH) (Nat.lt_irrefl _)
    · exact k.own p hp
  · have := h.own_lt hp
    simp only at e
    omega
  · refine ⟨(h.rfresh g hg b hb).1, fun p hp => ?_⟩
    rcases List.mem_cons.1 hp with rfl | hp
    · have := ((h.row g hg).lt b hb).2
      simp only
      omega
    · exact (h.rfresh g hg b hb).2 p hp
/-- a world that differs at one own block -/
theorem St.setOwn (h : St B H bs gs w) {i b : Nat} {o o' : Obj} (hi : bs[i]? = some (b, o)) (hos : w'.os = w.os) (ht : w'.tape = w.tape) (ho : w'.output = w.output) (hs : w'.heap.size = w.heap.size)
    (hother : ∀ k, k ≠ b → w'.heap[k]? = w.heap[k]?) (hself : w'.heap[b]? = some o') : St B H (bs.set i (b, o')) gs w' := by
  have hmem : (b, o) ∈ bs := List.mem_of_getElem? hi
  have hb := h.own _ hmem
  have hil : i < bs.length := (List.getElem?_eq_some_iff.1 hi).1
  have hb0 : ∀ c ob, H c = some ob → c ≠ b := fun c ob hc e => by subst e; simp [hb.2.2] at hc
  have hpos : ∀ (j : Nat) (p : Nat × Obj), bs[j]? = some p → j ≠ i → p.1 ≠ b := fun j p hj hne e => by
    have hj' := (List.getElem?_eq_some_iff.1 hj)
    have hi' := (List.getElem?_eq_some_iff.1 hi)
    obtain ⟨hjl, hj2⟩ := hj'
    obtain ⟨hil', hi2⟩ := hi'
    have hp := List.pairwise_iff_getElem.1 h.nodup
    rcases Nat.lt_or_gt_of_ne hne with hlt | hgt
    · exact hp j i hjl hil' hlt (by rw [hj2, hi2]; exact e)
    · exact hp i j hil' hjl hgt (by rw [hj2, hi2]; exact e.symm)
  have hset : ∀ p ∈ bs.set i (b, o'), p = (b, o') ∨ (p ∈ bs ∧ p.1 ≠ b) := fun p hp => by
    obtain ⟨j, hj⟩ := List.mem_iff_getElem?.1 hp
    rw [List.getElem?_set] at hj
    by_cases hji : i = j
    · subst hji; simp [hil] at hj; exact .inl hj.symm
    · simp [hji] at hj
      exact .inr ⟨List.mem_of_getElem? hj, hpos j p hj (Ne.symm hji)⟩
  refine ⟨?_, ⟨fun c ob hc => ?_, fun K I hK => ?_⟩, h.ext, fun p hp => ?_, ?_, fun g hg => ?_, fun g hg c hc => ⟨(h.rfresh g hg c hc).1, fun p hp => ?_⟩, h.rdisj⟩
  · exact h.below.trans ⟨hos, ht, ho, Nat.le_of_eq hs.symm, fun k hk _ => hother k (by have := hb.2.1; simp only at this; omega), h.below.lt⟩
  · rw [hother c (hb0 c ob hc)]; exact h.hle.le c ob hc
  · obtain ⟨k1, o1, k2, k3⟩ := h.hle.ok K I hK
    exact ⟨k1, o1, by rw [hother K (fun e => h.notHole hb.2.1 I (by rw [hK, e]))]; exact k2, k3⟩
  · rcases hset p hp with rfl | ⟨hp', hne⟩
    · exact ⟨hself, hb.2⟩
    · rw [hother p.1 hne]; exact h.own p hp'
  · have : (bs.set i (b, o')).map (·.1) = bs.map (·.1) := by
      apply List.ext_getElem?
      intro j
      simp only [List.getElem?_map, List.getElem?_set]
      by_cases hji : i = j
      · subst hji; simp [hil]
        have := List.getElem?_eq_getElem hil
        rw [hi] at this
        have e := Option.some.inj this
        rw [← e]
      · simp [hji]
    have hp : (bs.map (·.1)).Pairwise (· ≠ ·) := List.pairwise_map.2 h.nodup
    rw [← this] at hp
    exact List.pairwise_map.1 hp
  · refine (h.row g hg).kept (row := some b) ⟨hos, ht, ho, Nat.le_of_eq hs.symm, fun k _ hk => hother k (fun e => hk (by rw [e]))⟩ ?_
    cases hv : g.v.ownBlock with
    | none => exact .inl rfl
    | some c => exact .inr (fun e => (h.rfresh g hg c hv).2 _ hmem (by simpa using (Option.some.inj e).symm))
  · rcases hset p hp with rfl | ⟨hp', _⟩
    · exact (h.rfresh g hg c hc).2 (b, o) hmem
    · exact (h.rfresh g hg c hc).2 p hp'
/-- fewer own blocks, fewer own slices -/
theorem St.sub (h : St B H bs gs w) {bs' : List (Nat × Obj)} {gs' : List GS} (hb : bs'.Sublist bs) (hg : gs'.Sublist gs) : St B H bs' gs' w :=
  ⟨h.below, h.hle, h.ext, fun p hp => h.own p (hb.subset hp), h.nodup.sublist hb, fun g hg' => h.row g (hg.subset hg'), fun g hg' b hb' => ⟨(h.rfresh g (hg.subset hg') b hb').1, fun p hp => (h.rfresh g (hg.subset hg') b hb').2 p (hb.subset hp)⟩, h.rdisj.sublist hg⟩
/-- a block handed over to the frozen data -/
def ins (H : Hp) (b : Nat) (o : Obj) : Hp := ⟨fun k => if k = b then some o else H k, H.hole⟩
theorem ins_at (H : Hp) (b : Nat) (o : Obj) (k : Nat) : (ins H b o) k = if k = b then some o else H k := rfl
theorem HSub.ins {b : Nat} (hb : H b = none) (o : Obj) : HSub H (ins H b o) := ⟨fun k ob hk => by
  rw [ins_at]; split
  · rename_i e; subst e; rw [hb] at hk; cases hk
  · exact hk, rfl⟩
theorem St.freeze (h : St B H bs gs w) {i b : Nat} {o : Obj} (hi : bs[i]? = some (b, o)) : H b = none ∧ St B (ins H b o) (bs.eraseIdx i) gs w := by
  have hmem : (b, o) ∈ bs := List.mem_of_getElem? hi
  have hb := h.own _ hmem
  have hsub : (bs.eraseIdx i).Sublist bs := List.eraseIdx_sublist ..
  have hil : i < bs.length := (List.getElem?_eq_some_iff.1 hi).1
  have hne : ∀ p ∈ bs.eraseIdx i, p.1 ≠ b := fun p hp e => by
    obtain ⟨j, hj⟩ := List.mem_iff_getElem?.1 hp
    rw [List.getElem?_eraseIdx] at hj
    have hpw := List.pairwise_iff_getElem.1 h.nodup
    obtain ⟨hil', hi2⟩ := List.getElem?_eq_some_iff.1 hi
    split at hj
    · rename_i hlt
      obtain ⟨hjl, hj2⟩ := List.getElem?_eq_some_iff.1 hj
      exact hpw j i hjl hil' hlt (by rw [hj2, hi2]; exact e)
    · rename_i hge
      obtain ⟨hjl, hj2⟩ := List.getElem?_eq_some_iff.1 hj
      exact hpw i (j + 1) hil' hjl (by omega) (by rw [hj2, hi2]; exact e.symm)
  refine ⟨hb.2.2, h.below, ⟨fun k ob hk => ?_, fun K I hK => ?_⟩, ⟨h.ext.1.trans (HSub.ins hb.2.2 o), fun k hk => ?_⟩, fun p hp => ?_, h.nodup.sublist hsub, h.row, fun g hg c hc => ⟨?_, fun p hp => (h.rfresh g hg c hc).2 p (hsub.subset hp)⟩, h.rdisj⟩
  · rw [ins_at] at hk; split at hk
    · rename_i e; subst e; cases hk; exact hb.1
    · exact h.hle.le k ob hk
  · obtain ⟨k1, k2⟩ := h.hle.ok K I hK
    exact ⟨by rw [ins_at, if_neg (fun e => h.notHole hb.2.1 I (by rw [← e]; exact hK))]; exact k1, k2⟩
  · rw [ins_at, if_neg (fun e => by have := hb.2.1; simp only at this; omega)]; exact h.ext.2 k hk
  · have := h.own p (hsub.subset hp)
    exact ⟨this.1, this.2.1, by rw [ins_at, if_neg (hne p hp)]; exact this.2.2⟩
  · rw [ins_at, if_neg (fun e => (h.rfresh g hg c hc).2 _ hmem e.symm)]; exact (h.rfresh g hg c hc).1
theorem St.out (h : St B H bs gs w) : Kept B.H B.w w := ⟨h.below, (h.hle.sub h.ext.1).ok⟩
/-- more data has been frozen by a callee -/
theorem St.grow (h : St B H bs gs w) {H' : Hp} (hb : BelowX H w.heap.size w w') (hle : HLe H' w') (hsub : HSub H H') (hold : ∀ b, b < w.heap.size → H' b = H b) : St B H' bs gs w' := by
  have k : St B H bs gs w' := h.keptX ⟨hb, fun K I hK => by
    obtain ⟨k1, k2⟩ := hle.ok K I (hsub.hole.trans hK)
    exact ⟨by rw [← hold K (h.hle.holeLt hK)]; exact k1, k2⟩⟩
  exact ⟨k.below, hle, ⟨h.ext.1.trans hsub, fun b hlt => by rw [hold b (by have := h.below.size; omega)]; exact h.ext.2 b hlt⟩, fun p hp => ⟨(k.own p hp).1, (k.own p hp).2.1, by rw [hold p.1 (h.own_lt hp)]; exact (h.own p hp).2.2⟩, k.nodup, k.row,
    fun g hg c hc => ⟨by rw [hold c ((h.row g hg).lt c hc).2]; exact (h.rfresh g hg c hc).1, (k.rfresh g hg c hc).2⟩, k.rdisj⟩
end
end Go.Dec
end
section
namespace Go.Dec
open Go Go.RowKit
/-- how a list of operations is gone through: in the text's order · each quiet · each to be taken first -/
inductive Md where
  | plain
  | quiet (K : Act → Prop)
  | first (K : Act → Prop)
def Md.calls : Md → Bool
  | .first _ => false
  | _ => true
def wpFirst (P : Program) (ops : Array Oper) (S : World → Prop) (K : Act → Prop) : List Oper → Act → Prop
  | [], a => K a
  | o :: rest, a => ∃ v, YieldsIf P ops S o v a ∧ wpFirst P ops S K rest (a.put o.dst v)
/-- a list of operations, from a symbolic state -/
def JL (q : Md) (P : Program) (N : Nat) (ds : List Deferred) (B : Bs) (H : Hp) (ops : List Oper) (Q : Exit → Act → World → Prop) (l : List Oper) (f : Nat → Value) (bs : List (Nat × Obj)) (gs : List GS) : Prop :=
  match q with
  | .plain => ∀ a w, Fr N ds a f → St B H bs gs w → wpList P ops.toArray Q l a w
  | .quiet K => ∀ a, Fr N ds a f → wpQuiet P ops.toArray (St B H bs gs) K l a
  | .first K => ∀ a, Fr N ds a f → wpFirst P ops.toArray (St B H bs gs) K l a
/-- is the operation wanted? -/
inductive Want (ops : List Oper) (f : Nat → Value) : Option (Nat × Bool) → Prop
  | none : Want ops f none
  | some {j d : Nat} {b e : Bool} {o : Oper} (h1 : ops[j]? = some o) (h2 : o.dst = some d) (h3 : f d = .bool e) (h4 : e = b) : Want ops f (some (j, b))
inductive Skip (ops : List Oper) (f : Nat → Value) : Option (Nat × Bool) → Prop
  | bool {j d : Nat} {b e : Bool} {o : Oper} (h1 : ops[j]? = some o) (h2 : o.dst = some d) (h3 : f d = .bool e) (h4 : e = !b) : Skip ops f (some (j, b))
  | no {j d : Nat} {b : Bool} {o : Oper} (h1 : ops[j]? = some o) (h2 : o.dst = some d) (h3 : f d = Go.undef) : Skip ops f (some (j, b))
section
variable {q : Md} {P : Program} {N : Nat} {ds : List Deferred} {B : Bs} {H : Hp} {ops : List Oper} {Q : Exit → Act → World → Prop} {rest : List Oper} {f : Nat → Value} {bs : List (Nat × Obj)} {gs : List GS}
variable {d : Nat} {t : TypeId} {p : String} {af : Array Edge} {g : Option (Nat × Bool)}
theorem yielded_fr {a : Act} (ha : Fr N ds a f) {j d : Nat} {o : Oper} (h1 : ops[j]? = some o) (h2 : o.dst = some d) : yielded ops.toArray a.tmps j = (match f d with | .bool b => some b | _ => none) := by
  unfold yielded
  simp only [List.getElem?_toArray, h1, h2, Option.bind_some]
  have := ha.get d
  rw [Array.getD_eq_getD_getElem?] at this
  cases hd : a.tmps[d]? with
  | none => simp only [hd, Option.getD_none] at this; rw [← this]; simp [undef]
  | some v => simp only [hd, Option.getD_some] at this; rw [← this]; cases v <;> rfl
theorem Want.wanted {a : Act} (ha : Fr N ds a f) {o : Oper} (hw : Want ops f o.guard) : Region.wanted o (yielded ops.toArray a.tmps) = true := by
  unfold Region.wanted
  cases hg : o.guard with
  | none => rfl
  | some x =>
    rw [hg] at hw
    cases hw with
    | some h1 h2 h3 h4 => simp [yielded_fr ha h1 h2, h3, h4]
theorem Skip.wanted {a : Act} (ha : Fr N ds a f) {o : Oper} (hw : Skip ops f o.guard) : Region.wanted o (yielded ops.toArray a.tmps) = false := by
  unfold Region.wanted
  cases hg : o.guard with
  | none => rw [hg] at hw; cases hw
  | some x =>
    rw [hg] at hw
    cases hw with
    | bool h1 h2 h3 h4 => simp [yielded_fr ha h1 h2, h3, h4]
    | no h1 h2 h3 => simp [yielded_fr ha h1 h2, h3, undef]
theorem JL.nil (h : ∀ a w, Fr N ds a f → St B H bs gs w → Q .normal a w) : JL .plain P N ds B H ops Q [] f bs gs := fun a w ha hw => wpList_nil (h a w ha hw)
theorem JL.skip {op : Op} (hs : Skip ops f g) (hd : Nat.blt d N = true) (h : JL q P N ds B H ops Q rest (upd f d undef) bs gs) : JL q P N ds B H ops Q (⟨some d, op, t, p, af, g⟩ :: rest) f bs gs := by
  match q with
  | .plain =>
    intro a w ha hw
    unfold wpList
    rw [if_neg (by rw [Skip.wanted ha (o := ⟨some d, op, t, p, af, g⟩) hs]; exact Bool.false_ne_true)]
    exact h _ _ (ha.put hd _) hw
  | .quiet K =>
    intro a ha
    unfold wpQuiet
    rw [if_neg (by rw [Skip.wanted ha (o := ⟨some d, op, t, p, af, g⟩) hs]; exact Bool.false_ne_true)]
    exact h _ (ha.put hd _)
  | .first K =>
    intro a ha
    exact ⟨undef, .inr ⟨Skip.wanted ha (o := ⟨some d, op, t, p, af, g⟩) hs, rfl⟩, h _ (ha.put hd _)⟩
/-- one operation that is carried out -/
theorem JL.step {o : Oper} (hw : Want ops f o.guard) (h : ∀ a w, Fr N ds a f → St B H bs gs w → o.wp P a w (wpList P ops.toArray Q rest) Q) : JL .plain P N ds B H ops Q (o :: rest) f bs gs := fun a w ha hs => by
  unfold wpList
  rw [if_pos (Want.wanted ha hw)]
  exact .inl (h a w ha hs)
theorem JL.val {op : Op} {v : Value} (hw : Want ops f g) (hd : Nat.blt d N = true)
    (hrun : ∀ w, St B H bs gs w → (execOp (ev f) ⟨some d, op, t, p, af, g⟩).run P w = .ok (.value v) w)
    (h : JL q P N ds B H ops Q rest (upd f d v) bs gs) : JL q P N ds B H ops Q (⟨some d, op, t, p, af, g⟩ :: rest) f bs gs := by
  match q with
  | .plain =>
    exact .step hw fun a w ha hs => by
      unfold Oper.wp
      rw [ha.eval, hrun w hs]
      exact h _ _ (ha.put hd v) hs
  | .quiet K =>
    intro a ha
    unfold wpQuiet
    rw [if_pos (Want.wanted ha (o := ⟨some d, op, t, p, af, g⟩) hw)]
    refine ⟨v, fun w hs => ?_, h _ (ha.put hd v)⟩
    unfold Oper.quietAt
    rw [ha.eval, hrun w hs]
    exact ⟨rfl, rfl⟩
  | .first K =>
    intro a ha
    refine ⟨v, .inl ⟨Want.wanted ha (o := ⟨some d, op, t, p, af, g⟩) hw, fun w hs => ?_⟩, h _ (ha.put hd v)⟩
    rw [ha.eval, hrun w hs]
theorem JL.move {x : Operand} (hw : Want ops f g) (hd : Nat.blt d N = true) (h : JL q P N ds B H ops Q rest (upd f d (ev f x)) bs gs) : JL q P N ds B H ops Q (⟨some d, .move x, t, p, af, g⟩ :: rest) f bs gs :=
  .val hw hd (fun w _ => by simp [execOp]) h
theorem JL.assign {x : Operand} (hw : Want ops f g) (hd : Nat.blt d N = true) (h : JL q P N ds B H ops Q rest (upd f d (ev f x)) bs gs) : JL q P N ds B H ops Q (⟨some d, .assign x, t, p, af, g⟩ :: rest) f bs gs :=
  .val hw hd (fun w _ => by simp [execOp]) h
theorem JL.pick {c x y : Operand} {b : Bool} (hc : ev f c = .bool b) (hw : Want ops f g) (hd : Nat.blt d N = true) (h : JL q P N ds B H ops Q rest (upd f d (bif b then ev f x else ev f y)) bs gs) : JL q P N ds B H ops Q (⟨some d, .pick c x y, t, p, af, g⟩ :: rest) f bs gs :=
  .val hw hd (fun w _ => by cases b <;> simp [execOp, hc, asBool]) h
/-- what an operator on two integers of one kind gives -/
def ibin (op : BinOp) (k : IntKind) (m n : Int) : Option Value :=
  match op with
  | .add => some (.int k (k.wrap (m + n)))
  | .sub => some (.int k (k.wrap (m - n)))
  | .mul => some (.int k (k.wrap (m * n)))
  | .eql => some (.bool (m == n))
  | .neq => some (.bool (m != n))
  | .lss => some (.bool (decide (m < n)))
  | .leq => some (.bool (decide (m ≤ n)))
  | .gtr => some (.bool (decide (n < m)))
  | .geq => some (.bool (decide (n ≤ m)))
  | _ => none
theorem JL.bin {op : BinOp} {tx ty : TypeId} {x y : Operand} {k : IntKind} {m n : Int} {v : Value} (hx : ev f x = .int k m) (hy : ev f y = .int k n) (hv : ibin op k m n = some v) (hw : Want ops f g) (hd : Nat.blt d N = true)
    (h : JL q P N ds B H ops Q rest (upd f d v) bs gs) : JL q P N ds B H ops Q (⟨some d, .binOp op tx x y ty, t, p, af, g⟩ :: rest) f bs gs :=
  .val hw hd (fun w _ => by
    cases op <;> simp [ibin] at hv <;> subst hv <;> simp [execOp, hx, hy, eqGuard, binOp, Op.intArith, Op.intCmp, go_sem]) h
theorem JL.div {op : BinOp} {tx ty : TypeId} {x y : Operand} {k : IntKind} {m n : Int} {v : Value} (hx : ev f x = .int k m) (hy : ev f y = .int k n) (h0 : n ≠ 0)
    (hv : (match op with | .quo => some (Value.int k (k.wrap (m.tdiv n))) | .rem => some (Value.int k (m.tmod n)) | _ => none) = some v) (hw : Want ops f g) (hd : Nat.blt d N = true)
    (h : JL q P N ds B H ops Q rest (upd f d v) bs gs) : JL q P N ds B H ops Q (⟨some d, .binOp op tx x y ty, t, p, af, g⟩ :: rest) f bs gs :=
  .val hw hd (fun w _ => by
    cases op <;> simp at hv <;> subst hv <;> simp [execOp, hx, hy, eqGuard, binOp, Op.intDiv, h0]) h
theorem run_equalIn_bool (w : World) (d : Nat) {tx : TypeId} (m n : Bool) (ht : P.underlying tx = some .bool) : (Op.equalIn (d + 1) tx (.bool m) (.bool n)).run P w = .ok (m == n) w := by
  simp [Op.equalIn, run_underlying ht]
theorem run_eqBool (w : World) {tx : TypeId} (m n : Bool) (ht : P.underlying tx = some .bool) : (binOp .eql tx (.bool m) (.bool n)).run P w = .ok (.bool (m == n)) w ∧ (binOp .neq tx (.bool m) (.bool n)).run P w = .ok (.bool (m != n)) w := by
  constructor <;> simp only [binOp] <;> simp [Op.equal, Op.maxDepth, run_equalIn_bool w 9999 m n ht] <;> (cases m <;> cases n <;> rfl)
theorem JL.eqBool {tx ty : TypeId} {x y : Operand} {m n : Bool} (ht : P.underlying tx = some .bool) (hx : ev f x = .bool m) (hy : ev f y = .bool n) (hw : Want ops f g) (hd : Nat.blt d N = true)
    (h : JL q P N ds B H ops Q rest (upd f d (.bool (m == n))) bs gs) : JL q P N ds B H ops Q (⟨some d, .binOp .eql tx x y ty, t, p, af, g⟩ :: rest) f bs gs :=
  .val hw hd (fun w _ => by
    unfold execOp; simp only [hx, hy, eqGuard]; simp [(run_eqBool w m n ht).1]) h
theorem JL.neBool {tx ty : TypeId} {x y : Operand} {m n : Bool} (ht : P.underlying tx = some .bool) (hx : ev f x = .bool m) (hy : ev f y = .bool n) (hw : Want ops f g) (hd : Nat.blt d N = true)
    (h : JL q P N ds B H ops Q rest (upd f d (.bool (m != n))) bs gs) : JL q P N ds B H ops Q (⟨some d, .binOp .neq tx x y ty, t, p, af, g⟩ :: rest) f bs gs :=
  .val hw hd (fun w _ => by
    unfold execOp; simp only [hx, hy, eqGuard]; simp [(run_eqBool w m n ht).2]) h
theorem JL.not {tx : TypeId} {x : Operand} {b : Bool} (hx : ev f x = .bool b) (hw : Want ops f g) (hd : Nat.blt d N = true)
    (h : JL q P N ds B H ops Q rest (upd f d (.bool (!b))) bs gs) : JL q P N ds B H ops Q (⟨some d, .unOp .not tx x, t, p, af, g⟩ :: rest) f bs gs :=
  .val hw hd (fun w _ => by simp [execOp, hx, Op.unary]) h
theorem JL.neg {tx : TypeId} {x : Operand} {k : IntKind} {n : Int} (hx : ev f x = .int k n) (hw : Want ops f g) (hd : Nat.blt d N = true)
    (h : JL q P N ds B H ops Q rest (upd f d (.int k (k.wrap (-n)))) bs gs) : JL q P N ds B H ops Q (⟨some d, .unOp .neg tx x, t, p, af, g⟩ :: rest) f bs gs :=
  .val hw hd (fun w _ => by simp [execOp, hx, Op.unary, Op.intArith]) h
theorem JL.len {tx e : TypeId} {x : Operand} {a : Option Addr} {n c : Nat} (ht : P.underlying tx = some (.slice e)) (hx : ev f x = .slice a n c) (hw : Want ops f g) (hd : Nat.blt d N = true)
    (h : JL q P N ds B H ops Q rest (upd f d (.int .i64 n)) bs gs) : JL q P N ds B H ops Q (⟨some d, .call ⟨.builtin .len, #[x], #[tx]⟩, t, p, af, g⟩ :: rest) f bs gs :=
  .val hw hd (fun w _ => by simp [execOp, resolve, invoke, builtin, Builtin.len_, hx, goInt, run_underlying ht]) h
theorem JL.min {tt : Array TypeId} {x y : Operand} {k : IntKind} {m n : Int} (hx : ev f x = .int k m) (hy : ev f y = .int k n) (hw : Want ops f g) (hd : Nat.blt d N = true)
    (h : JL q P N ds B H ops Q rest (upd f d (.int k (Min.min m n))) bs gs) : JL q P N ds B H ops Q (⟨some d, .call ⟨.builtin .min, #[x, y], tt⟩, t, p, af, g⟩ :: rest) f bs gs :=
  .val hw hd (fun w _ => by simp [execOp, resolve, invoke, builtin, Builtin.min_, hx, hy, go_sem, Builtin.min2]; omega) h
theorem JL.max {tt : Array TypeId} {x y : Operand} {k : IntKind} {m n : Int} (hx : ev f x = .int k m) (hy : ev f y = .int k n) (hw : Want ops f g) (hd : Nat.blt d N = true)
    (h : JL q P N ds B H ops Q rest (upd f d (.int k (Max.max m n))) bs gs) : JL q P N ds B H ops Q (⟨some d, .call ⟨.builtin .max, #[x, y], tt⟩, t, p, af, g⟩ :: rest) f bs gs :=
  .val hw hd (fun w _ => by simp [execOp, resolve, invoke, builtin, Builtin.max_, hx, hy, go_sem, Builtin.max2]; omega) h
theorem JL.extract {x : Operand} {i : Nat} {vs : List Value} {v : Value} (hx : ev f x = .tuple vs.toArray) (hv : vs[i]? = some v) (hw : Want ops f g) (hd : Nat.blt d N = true)
    (h : JL q P N ds B H ops Q rest (upd f d v) bs gs) : JL q P N ds B H ops Q (⟨some d, .extract x i, t, p, af, g⟩ :: rest) f bs gs :=
  .val hw hd (fun w _ => by simp [execOp, hx, Instr.extract, hv]) h
theorem JL.nilCheck {x : Operand} {a : Addr} (hx : ev f x = .pointer (some a)) (hw : Want ops f g) (hd : Nat.blt d N = true)
    (h : JL q P N ds B H ops Q rest (upd f d (.pointer (some a))) bs gs) : JL q P N ds B H ops Q (⟨some d, .nilCheck x, t, p, af, g⟩ :: rest) f bs gs :=
  .val hw hd (fun w _ => by simp [execOp, hx]) h
theorem JL.makeFunc {fn : Fn} {l1 l2 : List Operand} (hw : Want ops f g) (hd : Nat.blt d N = true)
    (h : JL q P N ds B H ops Q rest (upd f d (.func fn (l1.map (ev f)).toArray (l2.map (ev f)).toArray)) bs gs) : JL q P N ds B H ops Q (⟨some d, .makeFunc fn l1.toArray l2.toArray, t, p, af, g⟩ :: rest) f bs gs :=
  .val hw hd (fun w _ => by simp [execOp, Instr.makeFunc]) h
end
/-- is it a struct or an array, and of how many cells? -/
def aggsz (P : Program) (t : TypeId) : Option (Bool × Nat) :=
  match P.underlying t, P.info? t with
  | some d, some i => some (d.isRow, i.size)
  | _, _ => none
def loadw : Bool × Nat → List Value → Nat → Option Value
  | (true, n), l, off => bif Nat.ble (off + n) l.length then some (.agg ((l.drop off).take n).toArray) else none
  | (false, _), l, off => l[off]?
def fieldOff (P : Program) (s : TypeId) (i : Nat) : Option Nat :=
  match P.underlying s with
  | some (.struct fs) => (match fs[i]? with
    | some fl => (match P.info? fl.type with | some ti => bif Nat.beq ti.size 0 then none else some fl.offset | none => none)
    | none => none)
  | _ => none
/-- a slice type's element: type, cells -/
def slT (P : Program) (t : TypeId) : Option (TypeId × Nat) :=
  match P.underlying t with
  | some (.slice e) => (match P.info? e with | some i => some (e, i.size) | none => none)
  | _ => none
section
variable {P : Program} {w : World}
theorem run_isAgg_of {t : TypeId} {r : Bool} {n : Nat} (h : aggsz P t = some (r, n)) : (isAgg t).run P w = .ok r w ∧ (sizeOf t).run P w = .ok n w ∧ ∃ i, P.info? t = some i ∧ i.size = n := by
  unfold aggsz at h
  split at h
  · rename_i d i hu hi
    simp only [Option.some.injEq, Prod.mk.injEq] at h
    obtain ⟨rfl, rfl⟩ := h
    refine ⟨?_, by simp [sizeOf, typeInfo, hi], i, hi, rfl⟩
    unfold isAgg
    rw [Sem.run_bind, run_underlying hu w]
    cases d <;> simp [TypeDesc.isRow]
  · cases h
/-- the cells from an offset on -/
def Has (w : World) (b off : Nat) (l : List Value) : Prop := ∀ j v, l[j]? = some v → w.cell? ⟨b, off + j, none⟩ = some v
theorem run_load_of {t : TypeId} {z : Bool × Nat} {b o k : Nat} {l : List Value} {v : Value} (hz : aggsz P t = some z) (hl : Has w b o l) (hv : loadw z l k = some v) :
    (Instr.loadAt t (.pointer (some ⟨b, o + k, none⟩))).run P w = .ok v w := by
  obtain ⟨r, n⟩ := z
  obtain ⟨h1, h2, _⟩ := run_isAgg_of (w := w) hz
  cases r with
  | false =>
    have := hl k v hv
    simp [Instr.loadAt, Instr.sureAddr, loadVar, h1, load, Sem.run, this]
  | true =>
    unfold loadw at hv
    cases hb : Nat.ble (k + n) l.length with
    | false => simp [hb] at hv
    | true =>
      simp only [hb, cond_true, Option.some.injEq] at hv
      subst hv
      have hle : k + n ≤ l.length := Nat.le_of_ble_eq_true hb
      have hlen : ((l.drop k).take n).length = n := by simp; omega
      have hcs : (loadCells ⟨b, o + k, none⟩ n).run P w = .ok ((l.drop k).take n).toArray w := by
        have := run_loadCells_list (P := P) w ⟨b, o + k, none⟩ ((l.drop k).take n) (fun j u hu => by
          rw [Addr.add_mid, Nat.add_assoc]
          refine hl (k + j) u ?_
          rw [List.getElem?_take] at hu
          split at hu
          · simpa using hu
          · cases hu)
        rwa [hlen] at this
      simp only [Instr.loadAt, Instr.sureAddr, loadVar, Sem.run_bind, Sem.run_pure, Result.andThen_ok, h1, h2, hcs, if_true]
theorem cell_of_cells {b : Nat} {c : Array Value} {e : TypeId} {fz : Nat × Nat} (h : w.heap[b]? = some (.cells c e fz)) (i : Nat) : w.cell? ⟨b, i, none⟩ = c[i]? := by
  simp [World.cell?, h]
end
/-- frozen: block b holds the cells l from o on -/
def Cells (H : Hp) (b o : Nat) (l : List Value) : Prop := ∃ c e fz, H b = some (.cells c e fz) ∧ ∀ j v, l[j]? = some v → c[o + j]? = some v
theorem Cells.mono {H H' : Hp} (h : HSub H H') {b o : Nat} {l : List Value} (hc : Cells H b o l) : Cells H' b o l := by
  obtain ⟨c, e, fz, h1, h2⟩ := hc; exact ⟨c, e, fz, h.le _ _ h1, h2⟩
theorem Cells.has {H : Hp} {w : World} (hH : HLe H w) {b o : Nat} {l : List Value} (hc : Cells H b o l) : Has w b o l := by
  obtain ⟨c, e, fz, h1, h2⟩ := hc
  intro j v hv
  rw [cell_of_cells (hH.le _ _ h1)]
  exact h2 j v hv
abbrev Rl (α : Type) := Hp → List Value → α → Prop
def Mono {α : Type} (R : Rl α) : Prop := ∀ H H', HSub H H' → ∀ cs x, R H cs x → R H' cs x
/-- a slice whose elements are read as l -/
def SL {α : Type} (H : Hp) (sz : Nat) (R : Rl α) (v : Value) (l : List α) : Prop :=
  ∃ a c, v = .slice a l.length c ∧ (l.length ≤ 9223372036854775807 ∧ l.length ≤ c) ∧ (l = [] ∨ ∃ b o, a = some ⟨b, o, none⟩ ∧ ∀ i x, l[i]? = some x → ∃ cs, Cells H b (o + i * sz) cs ∧ cs.length = sz ∧ R H cs x)
theorem SL.mono {α : Type} {H H' : Hp} {sz : Nat} {R : Rl α} (hR : Mono R) (h : HSub H H') {v : Value} {l : List α} (hs : SL H sz R v l) : SL H' sz R v l := by
  obtain ⟨a, c, h1, h2, h3⟩ := hs
  refine ⟨a, c, h1, h2, h3.imp id ?_⟩
  rintro ⟨b, o, h4, h5⟩
  exact ⟨b, o, h4, fun i x hi => let ⟨cs, k1, k2, k3⟩ := h5 i x hi; ⟨cs, k1.mono h, k2, hR _ _ h _ _ k3⟩⟩
theorem SL.one {α : Type} {H : Hp} {sz : Nat} {R : Rl α} {v : Value} {l : List α} (hs : SL H sz R v l) : v.oneCell' = true := by
  obtain ⟨a, c, rfl, _⟩ := hs; rfl
theorem SL.le {α : Type} {H : Hp} {sz : Nat} {R : Rl α} {v : Value} {l : List α} (hs : SL H sz R v l) : l.length ≤ 9223372036854775807 := by
  obtain ⟨a, c, _, h, _⟩ := hs; exact h.1
theorem SL.nil {α : Type} {H : Hp} {sz : Nat} {R : Rl α} : SL H sz R (.slice none 0 0) ([] : List α) := ⟨none, 0, rfl, by simp, .inl rfl⟩
def geti {α : Type} (l : List α) (i : Int) : Option α := if 0 ≤ i then l[i.toNat]? else none
def RInt : Rl Int := fun _ cs x => cs = [.int .i64 x]
theorem RInt.mono : Mono RInt := fun _ _ _ _ _ h => h
def RBool : Rl Bool := fun _ cs x => cs = [.bool x]
theorem RBool.mono : Mono RBool := fun _ _ _ _ _ h => h
/-- a call whose result is known, and that makes no data for the caller -/
def SC (P : Program) (k : Nat) (vs : List Value) (v : Value) (H : Hp) : Prop :=
  ∀ w, HLe H w → Calls P k vs.toArray w fun e w' => e = .returned v ∧ Kept H w w'
/-- a call whose result lies in new data -/
def HC (P : Program) (k : Nat) (vs : List Value) (H : Hp) (Res : Hp → Value → Prop) : Prop :=
  ∀ w, HLe H w → Calls P k vs.toArray w fun e w' => ∃ H' v, e = .returned v ∧ HSub H H' ∧ (∀ b, b < w.heap.size → H' b = H b) ∧ HLe H' w' ∧ BelowX H w.heap.size w w' ∧ Res H' v
def Ent (P : Program) (k : Nat) : Prop := ∀ args w, (callFunc k args).run P w = .ok (.enter k args) w
theorem SC.mono {P : Program} {k : Nat} {vs : List Value} {v : Value} {H H' : Hp} (h : SC P k vs v H) (hs : HSub H H') : SC P k vs v H' :=
  fun w hw => (h w (hw.sub hs)).mono fun _ _ he => ⟨he.1, he.2.up hs hw⟩
section
variable {q : Md} {P : Program} {N : Nat} {ds : List Deferred} {B : Bs} {H : Hp} {ops : List Oper} {Q : Exit → Act → World → Prop} {rest : List Oper} {f : Nat → Value} {bs : List (Nat × Obj)} {gs : List GS}
variable {d : Nat} {t : TypeId} {p : String} {af : Array Edge} {g : Option (Nat × Bool)}
theorem St.has {w : World} (h : St B H bs gs w) {i b : Nat} {l : List Value} {e : TypeId} {fz : Nat × Nat} (hi : bs[i]? = some (b, .cells l.toArray e fz)) : Has w b 0 l := fun j v hv => by
  rw [cell_of_cells (h.own _ (List.mem_of_getElem? hi)).1]
  simpa using hv
theorem JL.loadOwn {tx : TypeId} {x : Operand} {z : Bool × Nat} (i : Nat) {b k : Nat} {l : List Value} {e : TypeId} {fz : Nat × Nat} {v : Value} (hz : aggsz P tx = some z) (hx : ev f x = .pointer (some ⟨b, k, none⟩))
    (hi : bs[i]? = some (b, .cells l.toArray e fz)) (hv : loadw z l k = some v) (hw : Want ops f g) (hd : Nat.blt d N = true)
    (h : JL q P N ds B H ops Q rest (upd f d v) bs gs) : JL q P N ds B H ops Q (⟨some d, .load tx x, t, p, af, g⟩ :: rest) f bs gs :=
  .val hw hd (fun w hs => by
    have := run_load_of (P := P) (w := w) (o := 0) hz (hs.has hi) hv
    rw [Nat.zero_add] at this
    simp [execOp, hx, this]) h
theorem JL.loadH {tx : TypeId} {x : Operand} {z : Bool × Nat} (k : Nat) {b o : Nat} {l : List Value} {v : Value} (hz : aggsz P tx = some z) (hx : ev f x = .pointer (some ⟨b, o + k, none⟩))
    (hc : Cells H b o l) (hv : loadw z l k = some v) (hw : Want ops f g) (hd : Nat.blt d N = true)
    (h : JL q P N ds B H ops Q rest (upd f d v) bs gs) : JL q P N ds B H ops Q (⟨some d, .load tx x, t, p, af, g⟩ :: rest) f bs gs :=
  .val hw hd (fun w hs => by
    have := run_load_of (P := P) (w := w) hz (hc.has hs.hle) hv
    simp [execOp, hx, this]) h
theorem run_fieldAt {s : TypeId} {i b o k : Nat} (hf : fieldOff P s i = some k) (w : World) : (Instr.fieldAt s (.pointer (some ⟨b, o, none⟩)) i).run P w = .ok (.pointer (some ⟨b, o + k, none⟩)) w := by
  unfold fieldOff at hf
  split at hf
  · rename_i fs hu
    split at hf
    · rename_i fl hfl
      split at hf
      · rename_i ti hti
        cases hb : Nat.beq ti.size 0 with
        | true => simp [hb] at hf
        | false =>
          simp only [hb, cond_false, Option.some.injEq] at hf
          subst hf
          have hne : ti.size ≠ 0 := fun e => by simp [e] at hb
          simp [Instr.fieldAt, run_underlying hu, hfl, Instr.sureAddr, fieldPlace, sizeOf, typeInfo, hti, hne, Addr.add_mid]
      · cases hf
    · cases hf
  · cases hf
theorem JL.fieldAddr {s : TypeId} {x : Operand} {i b o k : Nat} (hf : fieldOff P s i = some k) (hx : ev f x = .pointer (some ⟨b, o, none⟩)) (hw : Want ops f g) (hd : Nat.blt d N = true)
    (h : JL q P N ds B H ops Q rest (upd f d (.pointer (some ⟨b, o + k, none⟩))) bs gs) : JL q P N ds B H ops Q (⟨some d, .fieldAddr s x i, t, p, af, g⟩ :: rest) f bs gs :=
  .val hw hd (fun w _ => by simp [execOp, hx, run_fieldAt hf]) h
theorem JL.indexSL {α : Type} {tx e : TypeId} {x ix : Operand} {k : IntKind} {i : Int} {sz : Nat} {R : Rl α} {l : List α} {y : α} (ht : slT P tx = some (e, sz)) (hs : SL H sz R (ev f x) l) (hi : ev f ix = .int k i) (hy : geti l i = some y) (hw : Want ops f g) (hd : Nat.blt d N = true)
    (h : ∀ b o cs, Cells H b o cs → cs.length = sz → R H cs y → JL q P N ds B H ops Q rest (upd f d (.pointer (some ⟨b, o, none⟩))) bs gs) : JL q P N ds B H ops Q (⟨some d, .indexAddr tx x ix, t, p, af, g⟩ :: rest) f bs gs := by
  obtain ⟨a, c, hv, ⟨hl, _⟩, h3⟩ := hs
  unfold geti at hy
  split at hy
  · rename_i h0
    rcases h3 with rfl | ⟨b, o, rfl, h5⟩
    · simp at hy
    · obtain ⟨cs, k1, k2, k3⟩ := h5 _ _ hy
      refine .val hw hd (fun w _ => ?_) (h b _ cs k1 k2 k3)
      have hlt : i < l.length := by have := (List.getElem?_eq_some_iff.1 hy).1; omega
      unfold slT at ht
      split at ht
      · rename_i e' hu
        split at ht
        · rename_i ti hti
          simp only [Option.some.injEq, Prod.mk.injEq] at ht
          obtain ⟨rfl, rfl⟩ := ht
          simp [execOp, hv, hi, Instr.indexAt, asIntOf, run_underlying hu, h0, hlt, sizeOf, typeInfo, hti, Addr.add_mid]
        · cases ht
      · cases ht
  · cases hy
theorem JL.callX {op : Op} {kf : Nat} {vs : List Value} {v : Value} (hc : SC P kf vs v H) (hr : ∀ w, (execOp (ev f) ⟨some d, op, t, p, af, g⟩).run P w = .ok (.enter kf vs.toArray) w) (hq : q.calls = true) (hw : Want ops f g) (hd : Nat.blt d N = true)
    (h : JL q P N ds B H ops Q rest (upd f d v) bs gs) : JL q P N ds B H ops Q (⟨some d, op, t, p, af, g⟩ :: rest) f bs gs := by
  match q with
  | .plain =>
    exact .step hw fun a w ha hs => by
      unfold Oper.wp
      rw [ha.eval, hr, Oper.upon_enter]
      refine (hc w hs.hle).mono fun e w' => ?_
      rintro ⟨rfl, hb⟩
      exact h _ _ (ha.put hd v) (hs.keptX hb)
  | .quiet K =>
    intro a ha
    unfold wpQuiet
    rw [if_pos (Want.wanted ha (o := ⟨some d, op, t, p, af, g⟩) hw)]
    refine ⟨v, fun w hs => ?_, h _ (ha.put hd v)⟩
    unfold Oper.quietAt
    rw [ha.eval, hr]
    refine ⟨rfl, (hc w hs.hle).mono fun e w' => ?_⟩
    rintro ⟨rfl, hb⟩
    exact ⟨rfl, hs.keptX hb⟩
  | .first K => cases hq
theorem run_callF {kf : Nat} {l : List Operand} {tt : Array TypeId} {vs : List Value} (hvs : l.map (ev f) = vs) (he : Ent P kf) (w : World) : (execOp (ev f) ⟨some d, .call ⟨.value (.func kf), l.toArray, tt⟩, t, p, af, g⟩).run P w = .ok (.enter kf vs.toArray) w := by
  simp [execOp, resolve, ev, Deferred.ofValue, invoke, ← hvs, he _ w]
theorem run_callV {x : Operand} {kf : Nat} {caps : List Value} {l : List Operand} {tt : Array TypeId} {vs : List Value} (hx : ev f x = .func (.func kf) #[] caps.toArray) (hvs : l.map (ev f) ++ caps = vs) (he : Ent P kf) (w : World) : (execOp (ev f) ⟨some d, .call ⟨.value x, l.toArray, tt⟩, t, p, af, g⟩).run P w = .ok (.enter kf vs.toArray) w := by
  simp [execOp, resolve, hx, Deferred.ofValue, invoke, ← hvs, he _ w]
theorem JL.callS {kf : Nat} {l : List Operand} {tt : Array TypeId} {vs : List Value} {v : Value} (hc : SC P kf vs v H) (hvs : l.map (ev f) = vs) (he : Ent P kf) (hw : Want ops f g) (hd : Nat.blt d N = true)
    (h : JL q P N ds B H ops Q rest (upd f d v) bs gs) (hq : q.calls = true := by rfl) : JL q P N ds B H ops Q (⟨some d, .call ⟨.value (.func kf), l.toArray, tt⟩, t, p, af, g⟩ :: rest) f bs gs :=
  .callX hc (run_callF hvs he) hq hw hd h
/-- a call of a function value -/
theorem JL.callV {x : Operand} {kf : Nat} {caps : List Value} {l : List Operand} {tt : Array TypeId} {vs : List Value} {v : Value} (hx : ev f x = .func (.func kf) #[] caps.toArray) (hc : SC P kf vs v H) (hvs : l.map (ev f) ++ caps = vs) (he : Ent P kf) (hw : Want ops f g) (hd : Nat.blt d N = true)
    (h : JL q P N ds B H ops Q rest (upd f d v) bs gs) (hq : q.calls = true := by rfl) : JL q P N ds B H ops Q (⟨some d, .call ⟨.value x, l.toArray, tt⟩, t, p, af, g⟩ :: rest) f bs gs :=
  .callX hc (run_callV hx hvs he) hq hw hd h
theorem JL.callH {kf : Nat} {l : List Operand} {tt : Array TypeId} {vs : List Value} {Res : Hp → Value → Prop} (hc : HC P kf vs H Res) (hvs : l.map (ev f) = vs) (he : Ent P kf) (hw : Want ops f g) (hd : Nat.blt d N = true)
    (h : ∀ H' v, HSub H H' → Res H' v → JL .plain P N ds B H' ops Q rest (upd f d v) bs gs) : JL .plain P N ds B H ops Q (⟨some d, .call ⟨.value (.func kf), l.toArray, tt⟩, t, p, af, g⟩ :: rest) f bs gs :=
  .step hw fun a w ha hs => by
    unfold Oper.wp
    have hr : (execOp (ev f) ⟨some d, .call ⟨.value (.func kf), l.toArray, tt⟩, t, p, af, g⟩).run P w = .ok (.enter kf vs.toArray) w := by
      simp [execOp, resolve, ev, Deferred.ofValue, invoke, ← hvs, he _ w]
    rw [ha.eval, hr, Oper.upon_enter]
    refine (hc w hs.hle).mono fun e w' => ?_
    rintro ⟨H', v, rfl, h1, h2, h3, hb, hres⟩
    exact h H' v h1 hres _ _ (ha.put hd v) (hs.grow hb h3 h1 h2)
end
end Go.Dec
end
section
namespace Go.Dec
open Go Go.RowKit
def vcells : Value → List Value
  | .agg cs => cs.toList
  | v => [v]
theorem vcells_eq (v : Value) : v.cells = (vcells v).toArray := by cases v <;> simp [Value.cells, vcells]
def zeroL (P : Program) (t : TypeId) : Option (List Value) := match P.info? t with | some i => i.zero.map vcells | none => none
def putC (l : List Value) (k : Nat) (cs : List Value) : List Value := l.take k ++ cs ++ l.drop (k + cs.length)
/-- a slice literal: element type and cells -/
def builtS (P : Program) (t : TypeId) (len : Nat) (parts : List (Nat × Value)) : Option (TypeId × Array Value) :=
  match P.underlying t with
  | some (.slice e) => (match P.info? e with
    | some ie => (match ie.zero with
      | some z => bif Nat.ble (len * ie.size) (2 ^ 24) && !Nat.beq (len * ie.size) 0 then (match Instr.fill (fun i => some (i * ie.size, ie.size)) ((Array.range (len * ie.size)).map (z.cells[· % z.cells.size]!)) parts with | some c => some (e, c) | none => none) else none
      | none => none)
    | none => none)
  | _ => none
theorem run_builtS {P : Program} {t e : TypeId} {len : Nat} {parts : Array (Nat × Value)} {c : Array Value} (h : builtS P t len parts.toList = some (e, c)) (w : World) :
    (Instr.buildSlice t len parts).run P w = .ok (.slice (some ⟨w.heap.size, 0, none⟩) len len) (w.alloc (.cells c e)) := by
  unfold builtS at h
  split at h
  · rename_i e' hu
    split at h
    · rename_i ie hie
      split at h
      · rename_i z hz
        cases hb : (Nat.ble (len * ie.size) (2 ^ 24) && !Nat.beq (len * ie.size) 0) with
        | false => simp [hb] at h
        | true =>
          simp only [hb, cond_true] at h
          split at h
          · rename_i c' hf
            simp only [Option.some.injEq, Prod.mk.injEq] at h
            obtain ⟨rfl, rfl⟩ := h
            simp only [Bool.and_eq_true] at hb
            have h1 : len * ie.size ≤ 2 ^ 24 := Nat.le_of_ble_eq_true hb.1
            have h2 : ¬ len * ie.size = 0 := fun e => by simp [e] at hb
            exact run_buildSlice w t e' len parts c' ie z hu hie hz (by omega) h2 hf
          · cases h
      · cases h
    · cases h
  · cases h
/-- facts on a slice type: element type, cells, bytes, a zero value -/
def apT (P : Program) (t : TypeId) : Option (TypeId × Nat × Nat) :=
  match P.underlying t with
  | some (.slice e) => (match P.info? e with
    | some i => (match i.zero with | some z => bif Nat.beq z.cells.size i.size && Nat.blt 0 i.size && Nat.ble i.bytes 32768 then some (e, i.size, i.bytes) else none | none => none)
    | none => none)
  | _ => none
theorem apT_spec {P : Program} {t e : TypeId} {sz by_ : Nat} (h : apT P t = some (e, sz, by_)) :
    ∃ i z, P.underlying t = some (.slice e) ∧ P.info? e = some i ∧ i.zero = some z ∧ i.size = sz ∧ i.bytes = by_ ∧ z.cells.size = sz ∧ 0 < sz ∧ by_ ≤ 32768 := by
  unfold apT at h
  split at h
  · rename_i e' hu
    split at h
    · rename_i i hi
      split at h
      · rename_i z hz
        cases hb : (Nat.beq z.cells.size i.size && Nat.blt 0 i.size && Nat.ble i.bytes 32768) with
        | false => simp [hb] at h
        | true =>
          simp only [hb, cond_true, Option.some.injEq, Prod.mk.injEq] at h
          obtain ⟨rfl, rfl, rfl⟩ := h
          simp only [Bool.and_eq_true] at hb
          exact ⟨i, z, hu, hi, hz, rfl, rfl, Nat.eq_of_beq_eq_true hb.1.1, Nat.le_of_ble_eq_true hb.1.2, Nat.le_of_ble_eq_true hb.2⟩
      · cases h
    · cases h
  · cases h
section
variable {P : Program} {N : Nat} {ds : List Deferred} {B : Bs} {H : Hp} {ops : List Oper} {Q : Exit → Act → World → Prop} {rest : List Oper} {f : Nat → Value} {bs : List (Nat × Obj)} {gs : List GS}
variable {d : Nat} {t : TypeId} {p : String} {af : Array Edge} {g : Option (Nat × Bool)}
theorem JL.box {e : TypeId} {x : Operand} {cs : List Value} (hc : vcells (ev f x) = cs) (hw : Want ops f g) (hd : Nat.blt d N = true)
    (h : ∀ b, JL .plain P N ds B H ops Q rest (upd f d (.pointer (some ⟨b, 0, none⟩))) ((b, .cells cs.toArray e) :: bs) gs) : JL .plain P N ds B H ops Q (⟨some d, .box e x, t, p, af, g⟩ :: rest) f bs gs :=
  .step hw fun a w ha hs => by
    unfold Oper.wp
    have hr : (execOp (ev f) ⟨some d, .box e x, t, p, af, g⟩).run P w = .ok (.value (.pointer (some ⟨w.heap.size, 0, none⟩))) (w.alloc (.cells cs.toArray e)) := by
      simp [execOp, Instr.box, newVar, newRow, vcells_eq, hc]
    rw [ha.eval, hr]
    exact h _ _ _ (ha.put hd _) (hs.alloc _)
theorem JL.alloc {e : TypeId} {cs : List Value} (hz : zeroL P e = some cs) (hw : Want ops f g) (hd : Nat.blt d N = true)
    (h : ∀ b, JL .plain P N ds B H ops Q rest (upd f d (.pointer (some ⟨b, 0, none⟩))) ((b, .cells cs.toArray e) :: bs) gs) : JL .plain P N ds B H ops Q (⟨some d, .alloc e, t, p, af, g⟩ :: rest) f bs gs :=
  .step hw fun a w ha hs => by
    unfold Oper.wp
    have hr : (execOp (ev f) ⟨some d, .alloc e, t, p, af, g⟩).run P w = .ok (.value (.pointer (some ⟨w.heap.size, 0, none⟩))) (w.alloc (.cells cs.toArray e)) := by
      unfold zeroL at hz
      split at hz
      · rename_i i hi
        cases hz0 : i.zero with
        | none => simp [hz0] at hz
        | some z =>
          simp only [hz0, Option.map_some, Option.some.injEq] at hz
          simp [execOp, Instr.alloc, zeroValue, typeInfo, hi, hz0, newVar, newRow, vcells_eq, hz]
      · cases hz
    rw [ha.eval, hr]
    exact h _ _ _ (ha.put hd _) (hs.alloc _)
theorem setRow_size (w : World) (b : Nat) (c : Array Value) : (w.setRow b c).heap.size = w.heap.size := by simp [World.setRow]
theorem JL.storeOwn {tx e : TypeId} {x y : Operand} (i : Nat) {b k n : Nat} {r : Bool} {l cs : List Value} (hz : aggsz P tx = some (r, n)) (hx : ev f x = .pointer (some ⟨b, k, none⟩)) (hy : vcells (ev f y) = cs) (hn : cs.length = n)
    (h1 : ∀ u ∈ cs, u.oneCell' = true) (hi : bs[i]? = some (b, .cells l.toArray e)) (hfit : Nat.ble (k + n) l.length = true) (hw : Want ops f g)
    (h : JL .plain P N ds B H ops Q rest f (bs.set i (b, .cells (putC l k cs).toArray e)) gs) : JL .plain P N ds B H ops Q (⟨none, .store tx x y, t, p, af, g⟩ :: rest) f bs gs :=
  .step hw fun a w ha hs => by
    unfold Oper.wp
    obtain ⟨_, hsz, _⟩ := run_isAgg_of (w := w) hz
    have hb := (hs.own _ (List.mem_of_getElem? hi)).1
    have hle : k + n ≤ l.length := Nat.le_of_ble_eq_true hfit
    have hst := run_storeCells_at P b k e cs 0 l.toArray w hb (by simp; omega) h1
    simp only [Nat.add_zero] at hst
    have hr : (execOp (ev f) ⟨none, .store tx x y, t, p, af, g⟩).run P w = .ok .skip (w.setRow b (putC l k cs).toArray) := by
      simp [execOp, hx, Instr.storeAt, Instr.sureAddr, storeVar, vcells_eq, hy, hsz, hn, hst, putC]
    rw [ha.eval, hr]
    refine h a _ ha (hs.setOwn hi rfl rfl rfl (setRow_size _ _ _) (fun j hj => setRow_other w b j _ hj) (setRow_heap w b _ _ _ _ hb))
theorem JL.build {q : Md} {t' : TypeId} {parts : List (Nat × Operand)} {l : List Value} (hb : P.built t' (parts.map fun (i, x) => (i, ev f x)) = some l.toArray) (hw : Want ops f g) (hd : Nat.blt d N = true)
    (h : JL q P N ds B H ops Q rest (upd f d (.agg l.toArray)) bs gs) : JL q P N ds B H ops Q (⟨some d, .build t' parts.toArray, t, p, af, g⟩ :: rest) f bs gs :=
  .val hw hd (fun w _ => by
    have := run_build (P := P) w t' (parts.map fun (i, x) => (i, ev f x)).toArray l.toArray (by simpa using hb)
    simp [execOp, this]) h
theorem JL.buildSlice {t' e : TypeId} {len : Nat} {parts : List (Nat × Operand)} {l : List Value} (hb : builtS P t' len (parts.map fun (i, x) => (i, ev f x)) = some (e, l.toArray)) (hw : Want ops f g) (hd : Nat.blt d N = true)
    (h : ∀ b, JL .plain P N ds B H ops Q rest (upd f d (.slice (some ⟨b, 0, none⟩) len len)) ((b, .cells l.toArray e) :: bs) gs) : JL .plain P N ds B H ops Q (⟨some d, .buildSlice t' len parts.toArray, t, p, af, g⟩ :: rest) f bs gs :=
  .step hw fun a w ha hs => by
    unfold Oper.wp
    have := run_builtS (P := P) (t := t') (len := len) (parts := (parts.map fun (i, x) => (i, ev f x)).toArray) (by simpa using hb) w
    have hr : (execOp (ev f) ⟨some d, .buildSlice t' len parts.toArray, t, p, af, g⟩).run P w = .ok (.value (.slice (some ⟨w.heap.size, 0, none⟩) len len)) (w.alloc (.cells l.toArray e)) := by
      simp [execOp, this]
    rw [ha.eval, hr]
    exact h _ _ _ (ha.put hd _) (hs.alloc _)
/-- an empty slice literal, to be grown -/
theorem JL.emptySlice {t' e : TypeId} {sz by_ : Nat} (hA : apT P t' = some (e, sz, by_)) (hw : Want ops f g) (hd : Nat.blt d N = true)
    (h : ∀ v, JL .plain P N ds B H ops Q rest (upd f d v) bs (⟨v, e, sz, 0, []⟩ :: gs)) : JL .plain P N ds B H ops Q (⟨some d, .buildSlice t' 0 #[], t, p, af, g⟩ :: rest) f bs gs :=
  .step hw fun a w ha hs => by
    unfold Oper.wp
    obtain ⟨i, z, hu, hi, hz, hsz, hby, hzs, hpos, _⟩ := apT_spec hA
    have hr : (execOp (ev f) ⟨some d, .buildSlice t' 0 #[], t, p, af, g⟩).run P w = .ok (.value (.slice (some ⟨w.heap.size, 0, none⟩) 0 0)) (w.alloc (.cells #[] e)) := by
      simp [execOp, Instr.buildSlice, run_underlying hu, sizeOf, typeInfo, hi, Instr.fill, newRow]
      have h0 : Array.map (fun (_ : Nat) => (default : Value)) (Array.range 0) = #[] := Array.eq_empty_of_size_eq_zero (by simp)
      rw [h0]
    rw [ha.eval, hr]
    refine h _ _ _ (ha.put hd _) ?_
    have k := hs.alloc (.cells #[] e)
    refine ⟨k.below, k.hle, k.ext, fun q hq => k.own q (List.mem_cons_of_mem _ hq), (List.pairwise_cons.1 k.nodup).2, fun q hq => ?_, fun q hq b hb => ?_, List.pairwise_cons.2 ⟨fun q hq b hb e => ?_, hs.rdisj⟩⟩
    · rcases List.mem_cons.1 hq with rfl | hq
      · exact World.ownsRow_made w #[] 0 hs.below.size (by simp [maxLen]) (by simp)
      · exact k.row q hq
    · rcases List.mem_cons.1 hq with rfl | hq
      · simp [Value.ownBlock] at hb
        subst hb
        exact ⟨(k.own _ (List.mem_cons_self ..)).2.2, fun q hq e => by have := hs.own_lt hq; omega⟩
      · exact ⟨(k.rfresh q hq b hb).1, fun r hr => (k.rfresh q hq b hb).2 r (List.mem_cons_of_mem _ hr)⟩
    · simp [Value.ownBlock] at hb
      subst hb
      have := ((hs.row q hq).lt _ e).2
      omega
/-- a nil slice, to be grown -/
theorem JL.newNil {e : TypeId} {sz : Nat} {l : List Oper} (h : JL .plain P N ds B H ops Q l f bs (⟨.slice none 0 0, e, sz, 0, []⟩ :: gs)) : JL .plain P N ds B H ops Q l f bs gs := fun a w ha hs =>
  h a w ha ⟨hs.below, hs.hle, hs.ext, hs.own, hs.nodup, fun q hq => by
      rcases List.mem_cons.1 hq with rfl | hq
      · exact World.ownsRow_nil w _ _ _
      · exact hs.row q hq,
    fun q hq b hb => by
      rcases List.mem_cons.1 hq with rfl | hq
      · simp [Value.ownBlock] at hb
      · exact hs.rfresh q hq b hb,
    List.pairwise_cons.2 ⟨fun q hq b hb => by simp [Value.ownBlock] at hb, hs.rdisj⟩⟩
/-- where the appended cells come from -/
inductive Src (H : Hp) (bs : List (Nat × Obj)) (sz : Nat) : Value → Nat → List Value → Prop
  | own {i b n c : Nat} {l : List Value} {e : TypeId} (hi : bs[i]? = some (b, .cells l.toArray e)) (hl : l.length = n * sz) : Src H bs sz (.slice (some ⟨b, 0, none⟩) n c) n l
  | data {b o n c : Nat} {l : List Value} (hc : Cells H b o l) (hl : l.length = n * sz) : Src H bs sz (.slice (some ⟨b, o, none⟩) n c) n l
/-- the slice number j of the own ones grows -/
theorem St.regrow {w w' : World} (hs : St B H bs gs w) {j : Nat} {q : GS} (hj : gs[j]? = some q) (hg : w.grownBy w' q.v.ownBlock) {v' : Value} {n' : Nat} {xs' : List Value}
    (hown : w'.ownsRow B.w.heap.size q.e q.sz v' n' xs') (hat : v'.ownBlock = q.v.ownBlock ∨ v'.ownBlock = some w.heap.size) : St B H bs (gs.set j ⟨v', q.e, q.sz, n', xs'⟩) w' := by
  have hmem : q ∈ gs := List.mem_of_getElem? hj
  have hjl : j < gs.length := (List.getElem?_eq_some_iff.1 hj).1
  have hqb : ∀ b, q.v.ownBlock = some b → B.w.heap.size ≤ b ∧ b < w.heap.size := (hs.row q hmem).lt
  have hset : ∀ r ∈ gs.set j ⟨v', q.e, q.sz, n', xs'⟩, r = ⟨v', q.e, q.sz, n', xs'⟩ ∨ (r ∈ gs ∧ (∀ b, r.v.ownBlock = some b → q.v.ownBlock ≠ some b)) := fun r hr => by
    obtain ⟨i, hi⟩ := List.mem_iff_getElem?.1 hr
    rw [List.getElem?_set] at hi
    by_cases hij : j = i
    · subst hij; simp [hjl] at hi; exact .inl hi.symm
    · simp [hij] at hi
      refine .inr ⟨List.mem_of_getElem? hi, fun b hb e => ?_⟩
      obtain ⟨hil, hi2⟩ := List.getElem?_eq_some_iff.1 hi
      obtain ⟨hjl', hj2⟩ := List.getElem?_eq_some_iff.1 hj
      have hp := List.pairwise_iff_getElem.1 hs.rdisj
      rcases Nat.lt_or_gt_of_ne hij with hlt | hgt
      · exact hp j i hjl' hil hlt b (by rw [hj2]; exact e) (by rw [hi2]; exact hb)
      · exact hp i j hil hjl' hgt b (by rw [hi2]; exact hb) (by rw [hj2]; exact e)
  have hnew : ∀ b, v'.ownBlock = some b → b = w.heap.size ∨ q.v.ownBlock = some b := fun b hb => by
    rcases hat with h | h
    · exact .inr (h ▸ hb)
    · left; rw [h] at hb; exact (Option.some.inj hb).symm
  have hblock : ∀ k, k < w.heap.size → q.v.ownBlock ≠ some k → w'.heap[k]? = w.heap[k]? := fun k hk hne => hg.block k hk (fun e => hne e.symm)
  refine ⟨?_, ⟨fun b o hb => ?_, fun K I hK => ?_⟩, hs.ext, fun r hr => ?_, hs.nodup, fun r hr => ?_, fun r hr b hb => ?_, ?_⟩
  · exact hs.below.trans ⟨hg.os, hg.tape, hg.output, hg.size, fun k hk _ => hblock k (by have := hs.below.size; omega) (fun e => by have := (hqb k e).1; omega), hs.below.lt⟩
  · rw [hblock b (hs.hle.lt hb) (fun e => by have := (hs.rfresh q hmem b e).1; rw [this] at hb; cases hb)]; exact hs.hle.le b o hb
  · obtain ⟨k1, o1, k2, k3⟩ := hs.hle.ok K I hK
    exact ⟨k1, o1, by rw [hblock K (hs.hle.holeLt hK) (fun e => hs.notHole (hqb K e).1 I hK)]; exact k2, k3⟩
  · rw [hblock r.1 (hs.own_lt hr) (fun e => (hs.rfresh q hmem r.1 e).2 r hr rfl)]; exact hs.own r hr
  · rcases hset r hr with rfl | ⟨hr', hne⟩
    · exact hown
    · refine (hs.row r hr').kept hg ?_
      cases hv : r.v.ownBlock with
      | none => exact .inl rfl
      | some b => exact .inr (fun e => hne b hv e.symm)
  · rcases hset r hr with rfl | ⟨hr', hne⟩
    · rcases hnew b hb with rfl | h
      · refine ⟨?_, fun x hx e => by have := hs.own_lt hx; omega⟩
        cases hH : H w.heap.size with
        | none => rfl
        | some o' => exact absurd (hs.hle.lt hH) (Nat.lt_irrefl _)
      · exact hs.rfresh q hmem b h
    · exact hs.rfresh r hr' b hb
  · rw [List.pairwise_iff_getElem]
    intro i k hi hk hik b
    simp only [List.length_set] at hi hk
    have hp := List.pairwise_iff_getElem.1 hs.rdisj
    have hj2 := (List.getElem?_eq_some_iff.1 hj).2
    simp only [List.getElem_set]
    by_cases h1 : j = i
    · have h2 : ¬ j = k := by omega
      rw [if_pos h1, if_neg h2]
      intro hb e
      rcases hnew b hb with rfl | h
      · have := ((hs.row _ (List.getElem_mem hk)).lt _ e).2; omega
      · subst h1
        exact hp j k hi hk hik b (by rw [hj2]; exact h) e
    · rw [if_neg h1]
      by_cases h2 : j = k
      · rw [if_pos h2]
        intro hb e
        rcases hnew b e with rfl | h
        · have := ((hs.row _ (List.getElem_mem hi)).lt _ hb).2; omega
        · subst h2
          exact hp i j hi hk hik b hb (by rw [hj2]; exact h)
      · rw [if_neg h2]
        exact hp i k hi hk hik b
theorem JL.append {tx e : TypeId} {sz by_ : Nat} {x y : Operand} (j : Nat) {q : GS} {m : Nat} {news : List Value} (hA : apT P tx = some (e, sz, by_)) (hj : gs[j]? = some q) (hq : q.e = e ∧ q.sz = sz) (hx : ev f x = q.v)
    (hsrc : Src H bs sz (ev f y) m news) (h1 : ∀ u ∈ news, u.oneCell' = true) (hlim : q.n + m ≤ 4294967296) (hw : Want ops f g) (hd : Nat.blt d N = true)
    (h : ∀ v', JL .plain P N ds B H ops Q rest (upd f d v') bs (gs.set j ⟨v', e, sz, q.n + m, q.xs ++ news⟩)) : JL .plain P N ds B H ops Q (⟨some d, .call ⟨.builtin .append, #[x, y], #[tx, tx]⟩, t, p, af, g⟩ :: rest) f bs gs :=
  .step hw fun a w ha hs => by
    obtain ⟨i, z, hu, hi, hz, hsz, hby, hzs, hpos, hb⟩ := apT_spec hA
    obtain ⟨rfl, rfl⟩ := hq
    have hmem : q ∈ gs := List.mem_of_getElem? hj
    have hsrc' : ∃ ad c, ev f y = .slice (some ad) m c ∧ news.length = m * q.sz ∧ ∀ j u, news[j]? = some u → w.cell? (ad.add j) = some u := by
      generalize hy : ev f y = vy at hsrc
      cases hsrc with
      | @own i b _ c l e' hi hl => exact ⟨_, c, rfl, hl, fun j u hu => by rw [Addr.add_mid]; exact hs.has hi j u hu⟩
      | @data b o _ c l hc hl => exact ⟨_, c, rfl, hl, fun j u hu => by rw [Addr.add_mid]; exact hc.has hs.hle j u hu⟩
    obtain ⟨ad, c, hy, hl, hnews⟩ := hsrc'
    have hbytes : (q.n + m) * by_ ≤ 140737488355328 := Nat.le_trans (Nat.mul_le_mul hlim hb) (by decide)
    obtain ⟨v', w', hr, ho, hg, _, hat⟩ := run_append_own_at (P := P) w B.w.heap.size tx t q.e i z q.sz by_ hu hi hz hsz hby hzs hpos q.v q.n q.xs (hs.row q hmem) ad m c news hl hnews h1 (by simp only [maxLen]; omega) hbytes hs.below.size
    unfold Oper.wp
    have hr' : (execOp (ev f) ⟨some d, .call ⟨.builtin .append, #[x, y], #[tx, tx]⟩, t, p, af, g⟩).run P w = .ok (.value v') w' := by
      simp [execOp, resolve, invoke, builtin, hx, hy, hr]
    rw [ha.eval, hr']
    exact h v' _ _ (ha.put hd v') (hs.regrow hj hg ho hat)
end
end Go.Dec
end
section
namespace Go.Dec
open Go Go.RowKit
/-- the fence that shuts nothing out; in a round of loop l: ro = some l -/
def FR (ro : Option Nat) : Fence := { fn := fun _ => True, depth := none, alive := false, round := ro }
def NoOut (Q : Exit → Act → World → Prop) : Prop := (∀ a w, ¬ Q .outgrown a w) ∧ ∀ c a w, ¬ Q (.panic c) a w
theorem NoOut.lets {Q : Exit → Act → World → Prop} (h : NoOut Q) : ¬ LetsOut Q := fun ⟨a, w, hq⟩ => h.1 a w hq
def noDefer (l : List Oper) : Bool := l.all fun o => match o.op with | .defer _ => false | _ => true
theorem noDefer_spec {l : List Oper} (h : noDefer l = true) {i : Nat} {o : Oper} (ho : l[i]? = some o) : ∀ c, o.op ≠ .defer c := by
  intro c e
  have := List.all_eq_true.1 h o (List.mem_of_getElem? ho)
  simp [e] at this
theorem wpOpsIn_of_wpOps {ro : Option Nat} {P : Program} {ops : List Oper} {Q : Exit → Act → World → Prop} (hnd : noDefer ops = true) (hQ : NoOut Q) : ∀ (l : List Nat) (a : Act) (w : World),
    wpOps P ops.toArray Q l a w → wpOpsIn (FR ro) 0 P ops.toArray Q l a w
  | [], _, _, h => h
  | i :: rest, a, w, h => by
    unfold wpOps at h
    unfold wpOpsIn
    cases ho : ops.toArray[i]? with
    | none => simp only [ho] at h ⊢; exact wpOpsIn_of_wpOps hnd hQ rest a w h
    | some o =>
      simp only [ho] at h ⊢
      have hod : ∀ c, o.op ≠ .defer c := noDefer_spec hnd (i := i) (by simpa using ho)
      split
      · rename_i hw
        rw [if_pos hw] at h
        rcases h with h | ⟨_, h⟩
        · refine ⟨fun _ _ => trivial, ?_⟩
          rw [Oper.semAt_eq _ _ _ hod]
          unfold Oper.wp at h
          generalize (execOp a.eval o).run P w = r at h
          match r with
          | .ok (.value v) w' => exact wpOpsIn_of_wpOps hnd hQ rest _ _ h
          | .ok .skip w' => exact wpOpsIn_of_wpOps hnd hQ rest _ _ h
          | .ok (.defer d) w' => exact wpOpsIn_of_wpOps hnd hQ rest _ _ h
          | .ok (.enter f args) w' =>
            refine ⟨fun h => by simp [FR] at h, ?_⟩
            have hc : Calls P f args w' _ := h
            have := (callsIn_wide (n := 0 - 1)).2 hc
            refine CallsIn.mono (R := _) (show CallsIn (FR ro) (0 - 1) P f args w' _ from this) ?_
            intro e w'' hr
            cases e with
            | returned v => exact wpOpsIn_of_wpOps hnd hQ rest _ _ hr
            | panicked c => exact hr
            | outgrown => exact hr
          | .ok (.row row args) w' =>
            refine ⟨fun h => by simp [FR] at h, ?_⟩
            have hc : Rows P row args w' _ := h
            intro c cs hroom
            obtain ⟨v, w'', hR, hs⟩ := hc c cs
            exact ⟨v, w'', wpOpsIn_of_wpOps hnd hQ rest _ _ hR, (StepsIn.of_steps hs).mono fun m _ => fenced_wide P m⟩
          | .halt (.panic v) w' => exact h
        · exact absurd h hQ.lets
      · rename_i hw
        rw [if_neg hw] at h
        exact ⟨fun _ _ => trivial, wpOpsIn_of_wpOps hnd hQ rest _ _ h⟩
/-- a statement, from a symbolic state -/
def JC (P : Program) (ro : Option Nat) (N : Nat) (ds : List Deferred) (B : Bs) (H : Hp) (c : Code) (Q : Exit → Act → World → Prop) (f : Nat → Value) (bs : List (Nat × Obj)) (gs : List GS) : Prop :=
  NoOut Q → ∀ a w, Fr N ds a f → St B H bs gs w → c.wpIn (FR ro) 0 P Q a w
/-- what is asked at a way out -/
def JQ (N : Nat) (ds : List Deferred) (B : Bs) (H : Hp) (e : Exit) (Q : Exit → Act → World → Prop) (f : Nat → Value) (bs : List (Nat × Obj)) (gs : List GS) : Prop :=
  NoOut Q → ∀ a w, Fr N ds a f → St B H bs gs w → Q e a w
section
variable {P : Program} {ro : Option Nat} {N : Nat} {ds : List Deferred} {B : Bs} {H : Hp} {Q : Exit → Act → World → Prop} {f : Nat → Value} {bs : List (Nat × Obj)} {gs : List GS}
theorem noOut_then {K : Act → World → Prop} : NoOut (Exit.then K Q) ↔ NoOut Q := Iff.rfl
theorem noOut_block {id : Nat} : NoOut (Exit.inBlock id Q) ↔ NoOut Q := Iff.rfl
theorem JC.seq {x y : Code} (h : JC P ro N ds B H x (Exit.then (fun a w => y.wpIn (FR ro) 0 P Q a w) Q) f bs gs) : JC P ro N ds B H (.seq x y) Q f bs gs :=
  fun hQ a w ha hs => wpIn_seq (h (noOut_then.2 hQ) a w ha hs)
theorem JQ.go {y : Code} (h : JC P ro N ds B H y Q f bs gs) : JQ N ds B H .normal (Exit.then (fun a w => y.wpIn (FR ro) 0 P Q a w) Q) f bs gs := fun hQ a w ha hs => h (noOut_then.1 hQ) a w ha hs
theorem JQ.exit_then {K : Act → World → Prop} {id : Nat} (h : JQ N ds B H (.exit id) Q f bs gs) : JQ N ds B H (.exit id) (Exit.then K Q) f bs gs := fun hQ a w ha hs => h (noOut_then.1 hQ) a w ha hs
theorem JQ.ret_then {K : Act → World → Prop} (h : JQ N ds B H .ret Q f bs gs) : JQ N ds B H .ret (Exit.then K Q) f bs gs := fun hQ a w ha hs => h (noOut_then.1 hQ) a w ha hs
theorem JC.block {id : Nat} {c : Code} (h : JC P ro N ds B H c (Exit.inBlock id Q) f bs gs) : JC P ro N ds B H (.block id c) Q f bs gs := fun hQ a w ha hs => wpIn_block (h (noOut_block.2 hQ) a w ha hs)
theorem JQ.exit_block {id : Nat} (h : JQ N ds B H .normal Q f bs gs) : JQ N ds B H (.exit id) (Exit.inBlock id Q) f bs gs := fun hQ a w ha hs => by
  simp only [Exit.inBlock, if_true]; exact h (noOut_block.1 hQ) a w ha hs
theorem JQ.ret_block {id : Nat} (h : JQ N ds B H .ret Q f bs gs) : JQ N ds B H .ret (Exit.inBlock id Q) f bs gs := fun hQ a w ha hs => h (noOut_block.1 hQ) a w ha hs
theorem JQ.normal_block {id : Nat} (h : JQ N ds B H .normal Q f bs gs) : JQ N ds B H .normal (Exit.inBlock id Q) f bs gs := fun hQ a w ha hs => h (noOut_block.1 hQ) a w ha hs
theorem JC.skip (h : JQ N ds B H .normal Q f bs gs) : JC P ro N ds B H .skip Q f bs gs := fun hQ a w ha hs => wpIn_skip (h hQ a w ha hs)
theorem JC.exit {id : Nat} (h : JQ N ds B H (.exit id) Q f bs gs) : JC P ro N ds B H (.exit id) Q f bs gs := fun hQ a w ha hs => wpIn_exit (h hQ a w ha hs)
theorem JC.ret (h : JQ N ds B H .ret Q f bs gs) : JC P ro N ds B H .ret Q f bs gs := fun hQ a w ha hs => wpIn_ret (h hQ a w ha hs)
theorem JC.cond_t {c : Operand} {x y : Code} {b : Bool} (hc : ev f c = .bool b) (hb : b = true) (h : JC P ro N ds B H x Q f bs gs) : JC P ro N ds B H (.cond c x y) Q f bs gs := fun hQ a w ha hs =>
  wpIn_cond_true (by rw [ha.eval, hc, hb]) (h hQ a w ha hs)
theorem JC.cond_f {c : Operand} {x y : Code} {b : Bool} (hc : ev f c = .bool b) (hb : b = false) (h : JC P ro N ds B H y Q f bs gs) : JC P ro N ds B H (.cond c x y) Q f bs gs := fun hQ a w ha hs =>
  wpIn_cond_false (by rw [ha.eval, hc, hb]) (h hQ a w ha hs)
theorem JC.region {id : Nat} {l : List Oper} (hnd : noDefer l = true) (h : NoOut Q → JL .plain P N ds B H l Q l f bs gs) : JC P ro N ds B H (.region id l.toArray false) Q f bs gs := fun hQ a w ha hs => by
  refine wpIn_region (wpOpsIn_of_wpOps hnd hQ _ a w ?_)
  rw [List.range_eq_range', List.size_toArray]
  have := wpOps_eq_wpList (P := P) (ops := l.toArray) (Q := Q) l 0 (by simp)
  rw [this]
  exact h hQ a w ha hs
theorem JC.draw {id : Nat} {l : List Oper} (hnd : noDefer l = true) (hm : P.follows .mixedOrders = true) (hB : Region.lexB .any l.toArray = true) (h : NoOut Q → JL (.quiet fun a' => ∀ w, St B H bs gs w → Q .normal a' w) P N ds B H l Q l f bs gs) : JC P ro N ds B H (.region id l.toArray true) Q f bs gs := fun hQ a w ha hs => by
  refine wpIn_region_draw fun t => ?_
  simp only [Region.schedule, hm, Bool.true_or, if_true]
  refine wpOpsIn_of_wpOps hnd hQ _ a _ (wpAny_sound _ t _ a _ ?_)
  simp only [Region.lexB, Bool.and_eq_true] at hB
  have hs' : St B H bs gs { w with drawn := w.drawn + 1 } := hs.drew _
  refine wpAny_of_quiet (C := St B H bs gs) (Q := fun a' => ∀ w', St B H bs gs w' → Q .normal a' w') (fun _ w' hw' hh => hh w' hw') _ _ _ _ hs' ?_
  have := wpAnyQ_lex (C := St B H bs gs) (md := .any) hB.1 l 0 (Array.replicate l.length false) a (by simp) (by simpa using hB.2) (h hQ a ha)
  simpa using this
theorem JL.done {ops : List Oper} (hQ : NoOut Q) (h : JQ N ds B H .normal Q f bs gs) : JL .plain P N ds B H ops Q [] f bs gs := .nil (h hQ)
theorem JL.doneQ {ops : List Oper} (hQ : NoOut Q) (h : JQ N ds B H .normal Q f bs gs) : JL (.quiet fun a' => ∀ w, St B H bs gs w → Q .normal a' w) P N ds B H ops Q [] f bs gs := fun a ha => wpQuiet_nil fun w hs => h hQ a w ha hs
theorem upd_self {f : Nat → Value} {i : Nat} {v : Value} (h : f i = v) : upd f i v = f := by
  funext j
  unfold upd
  cases hb : Nat.beq j i with
  | false => rfl
  | true => rw [cond_true, Nat.eq_of_beq_eq_true hb, h]
theorem JC.norm {c : Code} {i : Nat} {v : Value} (h : f i = v) (k : JC P ro N ds B H c Q (upd f i v) bs gs) : JC P ro N ds B H c Q f bs gs := upd_self h ▸ k
theorem JL.norm {q : Md} {ops l : List Oper} {i : Nat} {v : Value} (h : f i = v) (k : JL q P N ds B H ops Q l (upd f i v) bs gs) : JL q P N ds B H ops Q l f bs gs := upd_self h ▸ k
theorem JQ.norm {e : Exit} {i : Nat} {v : Value} (h : f i = v) (k : JQ N ds B H e Q (upd f i v) bs gs) : JQ N ds B H e Q f bs gs := upd_self h ▸ k
def mask {α : Type} : List Bool → List α → List α
  | true :: m, x :: l => x :: mask m l
  | false :: m, _ :: l => mask m l
  | [], l => l
  | _, [] => []
theorem mask_sublist {α : Type} : ∀ (m : List Bool) (l : List α), (mask m l).Sublist l
  | [], l => by simp [mask]
  | true :: _, [] => by simp [mask]
  | false :: _, [] => by simp [mask]
  | true :: m, x :: l => (mask_sublist m l).cons_cons x
  | false :: m, x :: l => (mask_sublist m l).cons x
theorem JC.mask {c : Code} (m n : List Bool) (k : JC P ro N ds B H c Q f (mask m bs) (Dec.mask n gs)) : JC P ro N ds B H c Q f bs gs := fun hQ a w ha hs => k hQ a w ha (hs.sub (mask_sublist _ _) (mask_sublist _ _))
theorem JQ.mask {e : Exit} (m n : List Bool) (k : JQ N ds B H e Q f (mask m bs) (Dec.mask n gs)) : JQ N ds B H e Q f bs gs := fun hQ a w ha hs => k hQ a w ha (hs.sub (mask_sublist _ _) (mask_sublist _ _))
theorem JL.mask {ops l : List Oper} (m n : List Bool) (k : JL .plain P N ds B H ops Q l f (mask m bs) (Dec.mask n gs)) : JL .plain P N ds B H ops Q l f bs gs := fun a w ha hs => k a w ha (hs.sub (mask_sublist _ _) (mask_sublist _ _))
def frame0 (vs : List Value) : Nat → Value := fun i => vs.getD i undef
theorem fr_start {vs : List Value} {N : Nat} (h : vs.length ≤ N) : Fr N [] { tmps := vs.toArray ++ Array.replicate (N - vs.toArray.size) undef, defers := [] } (frame0 vs) := by
  refine ⟨by simp; omega, rfl, fun i => ?_⟩
  simp only [frame0, Array.getD_eq_getD_getElem?, List.getD_eq_getElem?_getD, Array.getElem?_append, List.size_toArray, List.getElem?_toArray]
  split
  · rfl
  · rename_i hge
    rw [List.getElem?_eq_none (by omega)]
    simp only [Array.getElem?_replicate, Option.getD_none]
    split <;> rfl
def RetS (B : Bs) (v : Value) : Ending → World → Prop := fun e w' => e = .returned v ∧ Kept B.H B.w w'
def RetH (B : Bs) (Res : Hp → Value → Prop) : Ending → World → Prop := fun e w' => ∃ H' v, e = .returned v ∧ HSub B.H H' ∧ (∀ b, b < B.w.heap.size → H' b = B.H b) ∧ HLe H' w' ∧ BelowX B.H B.w.heap.size B.w w' ∧ Res H' v
theorem noOut_body {fn : Func} {R : Ending → World → Prop} (h : ∀ w, ¬ R .outgrown w) (h2 : ∀ c w, ¬ R (.panicked c) w) : NoOut (bodyPost P fn R) := ⟨fun a w hq => h w hq, fun c a w hq => h2 c w hq.2⟩
theorem SC.of {k N : Nat} {fn : Func} {c : Code} {vs : List Value} {v : Value} {H : Hp} (hf : P.funcs[k]? = some fn) (hN : fn.ntmps = N) (hb : fn.body = some c) (hn : Nat.ble vs.length N = true)
    (h : ∀ w, JC P none N [] ⟨w, H⟩ H c (bodyPost P fn (RetS ⟨w, H⟩ v)) (frame0 vs) [] []) : SC P k vs v H := fun w hH => by
  subst hN
  have hn := Nat.le_of_ble_eq_true hn
  exact (callsIn_wide (n := 0)).1 (callsIn_of_wp hf hb trivial (h w (noOut_body (fun w' hq => by obtain ⟨h, _⟩ := hq; cases h) (fun c w' hq => by obtain ⟨h, _⟩ := hq; cases h)) _ w (fr_start hn) (St.start hH)))
theorem HC.of {k N : Nat} {fn : Func} {c : Code} {vs : List Value} {Res : Hp → Value → Prop} {H : Hp} (hf : P.funcs[k]? = some fn) (hN : fn.ntmps = N) (hb : fn.body = some c) (hn : Nat.ble vs.length N = true)
    (h : ∀ w, JC P none N [] ⟨w, H⟩ H c (bodyPost P fn (RetH ⟨w, H⟩ Res)) (frame0 vs) [] []) : HC P k vs H Res := fun w hH => by
  subst hN
  have hn := Nat.le_of_ble_eq_true hn
  exact (callsIn_wide (n := 0)).1 (callsIn_of_wp hf hb trivial (h w (noOut_body (fun w' hq => by obtain ⟨_, _, h, _⟩ := hq; cases h) (fun c w' hq => by obtain ⟨_, _, h, _⟩ := hq; cases h)) _ w (fr_start hn) (St.start hH)))
/-- a loop: 'inl': another round; 'inr': out of it -/
def loopO {S R : Type} : Nat → (S → Option (S ⊕ R)) → S → Option R
  | 0, _, _ => none
  | n + 1, step, s => match step s with
    | none => none
    | some (.inl s') => loopO n step s'
    | some (.inr r) => some r
theorem wpIn_loop_ind {F : Fence} {m : Nat} {c : Code} {a : Act} {w : World} (I : Nat → Act → World → Prop) {n : Nat} (h0 : I n a w)
    (round : ∀ n a w, I n a w → c.wpIn F m P (Exit.then (fun a' w' => ∃ n', n' < n ∧ I n' a' w') Q) a w) : (Code.loop c).wpIn F m P Q a w := by
  intro b k cs hro hb hr
  have key : ∀ j a w, I j a w →
      ∃ e a' w', Q e a' w' ∧ ArrivesIn (Machine.fenced P F) P (lone (b.atR a (.code c :: .inLoop c :: k)) cs w) b k cs e a' w' := by
    intro j
    induction j using Nat.strongRecOn with
    | _ j ih =>
      intro a w hI
      obtain ⟨e, a₁, w₁, hq, harr⟩ := round j a w hI b (.inLoop c :: k) cs hro hb hr
      cases e with
      | normal =>
        obtain ⟨n', hlt, hI₁⟩ := hq
        obtain ⟨e₂, a₂, w₂, hq₂, harr₂⟩ := ih n' hlt a₁ w₁ hI₁
        exact ⟨e₂, a₂, w₂, hq₂, .of_steps (StepsIn.trans harr (.one (fenced_calm hb hr rfl) stepR_inLoop)) harr₂⟩
      | exit id => exact ⟨_, a₁, w₁, hq, .pass (x := .inLoop c) rfl (fun _ _ => .inl (by simp)) harr⟩
      | goto l => exact ⟨_, a₁, w₁, hq, .pass (x := .inLoop c) rfl (fun _ _ => .inl (by simp)) harr⟩
      | ret => exact ⟨_, a₁, w₁, hq, .pass (x := .inLoop c) rfl (fun _ _ => .inl (by simp)) harr⟩
      | panic ch => exact ⟨_, a₁, w₁, hq, .pass (x := .inLoop c) rfl (fun _ _ => .inl (by simp)) harr⟩
      | outgrown => exact ⟨_, a₁, w₁, hq, .pass (x := .inLoop c) rfl (fun _ _ => .inl (by simp)) harr⟩
  obtain ⟨e, a', w', hq, harr⟩ := key _ a w h0
  exact ⟨e, a', w', hq, .of_steps (.one (fenced_calm hb hr rfl) stepR_loop) harr⟩
/-- the state between two rounds: what is said of it (A), and that it is there -/
def LNext {S R : Type} (N : Nat) (ds : List Deferred) (B : Bs) (A : S → Hp → (Nat → Value) → List (Nat × Obj) → List GS → Prop) (x : S ⊕ R) : Act → World → Prop := fun a w =>
  ∃ s', x = .inl s' ∧ ∃ H f bs gs, A s' H f bs gs ∧ Fr N ds a f ∧ St B H bs gs w
theorem JC.loop {S R : Type} {c : Code} {step : S → Option (S ⊕ R)} {n : Nat} {s0 : S} {r : R} (hF : loopO n step s0 = some r) (A : S → Hp → (Nat → Value) → List (Nat × Obj) → List GS → Prop) (h0 : A s0 H f bs gs)
    (body : ∀ s x H f bs gs, A s H f bs gs → step s = some x → (∀ r', x = .inr r' → r' = r) → JC P ro N ds B H c (Exit.then (LNext N ds B A x) Q) f bs gs) : JC P ro N ds B H (.loop c) Q f bs gs := fun hQ a w ha hs => by
  refine wpIn_loop_ind (fun n a w => ∃ s H f bs gs, A s H f bs gs ∧ loopO n step s = some r ∧ Fr N ds a f ∧ St B H bs gs w) ⟨s0, H, f, bs, gs, h0, hF, ha, hs⟩ ?_
  rintro n a w ⟨s, H, f, bs, gs, hA, hF, ha, hs⟩
  cases n with
  | zero => simp [loopO] at hF
  | succ n =>
    unfold loopO at hF
    cases hst : step s with
    | none => simp [hst] at hF
    | some x =>
      refine wpIn_mono (body s x H f bs gs hA hst (fun r' e => by subst e; simpa [hst] using hF) (noOut_then.2 hQ) a w ha hs) ?_
      intro e a' w' hq
      cases e with
      | normal =>
        obtain ⟨s', rfl, H', f', bs', gs', h1, h2, h3⟩ := hq
        exact ⟨n, Nat.lt_succ_self _, s', H', f', bs', gs', h1, by simpa [hst] using hF, h2, h3⟩
      | _ => exact hq
theorem JQ.next {S R : Type} {A : S → Hp → (Nat → Value) → List (Nat × Obj) → List GS → Prop} {x : S ⊕ R} {s' : S} (hx : x = .inl s') (hA : A s' H f bs gs) : JQ N ds B H .normal (Exit.then (LNext N ds B A x) Q) f bs gs :=
  fun _ _ _ ha hs => ⟨s', hx, H, f, bs, gs, hA, ha, hs⟩
theorem Cells.ins {b : Nat} {l : List Value} {e : TypeId} : Cells (ins H b (.cells l.toArray e)) b 0 l := ⟨l.toArray, e, (0, 0), by simp [Dec.ins], fun j v hv => by simpa using hv⟩
theorem JC.freeze {c : Code} (i : Nat) {b : Nat} {o : Obj} (hi : bs[i]? = some (b, o)) (k : HSub H (ins H b o) → JC P ro N ds B (ins H b o) c Q f (bs.eraseIdx i) gs) : JC P ro N ds B H c Q f bs gs := fun hQ a w ha hs =>
  let ⟨h1, h2⟩ := hs.freeze hi
  k (HSub.ins h1 o) hQ a w ha h2
theorem JL.freeze {ops l : List Oper} (i : Nat) {b : Nat} {o : Obj} (hi : bs[i]? = some (b, o)) (k : HSub H (ins H b o) → JL .plain P N ds B (ins H b o) ops Q l f (bs.eraseIdx i) gs) : JL .plain P N ds B H ops Q l f bs gs := fun a w ha hs =>
  let ⟨h1, h2⟩ := hs.freeze hi
  k (HSub.ins h1 o) a w ha h2
end
/-- the cells of some elements, one behind the other -/
def CH {α : Type} (H : Hp) (sz : Nat) (R : Rl α) (xs : List Value) (l : List α) : Prop :=
  xs.length = l.length * sz ∧ ∀ i x, l[i]? = some x → ∃ cs, cs.length = sz ∧ R H cs x ∧ ∀ j v, cs[j]? = some v → xs[i * sz + j]? = some v
theorem CH.nil {α : Type} {H : Hp} {sz : Nat} {R : Rl α} : CH H sz R [] ([] : List α) := ⟨by simp, by simp⟩
theorem CH.mono {α : Type} {H H' : Hp} {sz : Nat} {R : Rl α} (hR : Mono R) (hs : HSub H H') {xs : List Value} {l : List α} (h : CH H sz R xs l) : CH H' sz R xs l :=
  ⟨h.1, fun i x hi => let ⟨cs, h1, h2, h3⟩ := h.2 i x hi; ⟨cs, h1, hR _ _ hs _ _ h2, h3⟩⟩
theorem CH.append {α : Type} {H : Hp} {sz : Nat} {R : Rl α} {xs ys : List Value} {l m : List α} (h : CH H sz R xs l) (k : CH H sz R ys m) : CH H sz R (xs ++ ys) (l ++ m) := by
  refine ⟨by simp [h.1, k.1, Nat.add_mul], fun i x hi => ?_⟩
  rw [List.getElem?_append] at hi
  split at hi
  · rename_i hlt
    obtain ⟨cs, h1, h2, h3⟩ := h.2 i x hi
    refine ⟨cs, h1, h2, fun j v hv => ?_⟩
    have := h3 j v hv
    rw [List.getElem?_append_left (List.getElem?_eq_some_iff.1 this).1]
    exact this
  · rename_i hge
    obtain ⟨cs, h1, h2, h3⟩ := k.2 _ x hi
    refine ⟨cs, h1, h2, fun j v hv => ?_⟩
    have := h3 j v hv
    have hle : l.length ≤ i := by omega
    have hi' : i * sz = l.length * sz + (i - l.length) * sz := by rw [← Nat.add_mul]; congr 1; omega
    rw [List.getElem?_append_right (by rw [h.1, hi']; omega), h.1, hi']
    rw [show l.length * sz + (i - l.length) * sz + j - l.length * sz = (i - l.length) * sz + j by omega]
    exact this
theorem CH.one {α : Type} {H : Hp} {sz : Nat} {R : Rl α} {cs : List Value} {x : α} (hl : cs.length = sz) (h : R H cs x) : CH H sz R cs [x] := by
  refine ⟨by simp [hl], fun i y hi => ?_⟩
  cases i with
  | zero => simp at hi; subst hi; exact ⟨cs, hl, h, fun j v hv => by simpa using hv⟩
  | succ i => simp at hi
theorem CH.cons {α : Type} {H : Hp} {sz : Nat} {R : Rl α} {cs ys : List Value} {x : α} {l : List α} (hl : cs.length = sz) (h : R H cs x) (k : CH H sz R ys l) : CH H sz R (cs ++ ys) (x :: l) := (CH.one hl h).append k
theorem CH.sl {α : Type} {H : Hp} {sz : Nat} {R : Rl α} {xs : List Value} {l : List α} {b o c : Nat} (h : CH H sz R xs l) (hc : Cells H b o xs) (hn : l.length ≤ 9223372036854775807 ∧ l.length ≤ c) : SL H sz R (.slice (some ⟨b, o, none⟩) l.length c) l := by
  refine ⟨_, c, rfl, hn, .inr ⟨b, o, rfl, fun i x hi => ?_⟩⟩
  obtain ⟨cs, h1, h2, h3⟩ := h.2 i x hi
  obtain ⟨ob, e, fz, k1, k2⟩ := hc
  exact ⟨cs, ⟨ob, e, fz, k1, fun j v hv => by rw [Nat.add_assoc]; exact k2 _ _ (h3 j v hv)⟩, h1, h2⟩
theorem _root_.Go.Dec.SL.cells {α : Type} {H : Hp} {sz : Nat} {R : Rl α} {v : Value} {l : List α} (h : SL H sz R v l) (hne : l ≠ []) : ∃ b o c xs, v = .slice (some ⟨b, o, none⟩) l.length c ∧ CH H sz R xs l ∧ Cells H b o xs := by
  obtain ⟨a, c, rfl, _, h3⟩ := h
  rcases h3 with rfl | ⟨b, o, rfl, h5⟩
  · exact absurd rfl hne
  · -- every element's cells lie in one block: they are that block's
    obtain ⟨x0, hx0⟩ : ∃ x, l[0]? = some x := by cases l; exact absurd rfl hne; exact ⟨_, rfl⟩
    obtain ⟨cs0, ⟨ob, e, fz, hb, _⟩, _⟩ := h5 0 x0 hx0
    have hcell : ∀ i x, l[i]? = some x → ∃ cs, cs.length = sz ∧ R H cs x ∧ ∀ j v, cs[j]? = some v → ob[o + i * sz + j]? = some v := fun i x hi => by
      obtain ⟨cs, ⟨ob', e', fz', hb', hcs⟩, k1, k2⟩ := h5 i x hi
      rw [hb] at hb'
      cases hb'
      exact ⟨cs, k1, k2, hcs⟩
    have hlen : o + l.length * sz ≤ ob.size ∨ sz = 0 := by
      rcases Nat.eq_zero_or_pos sz with h0 | hpos
      · exact .inr h0
      · left
        have hl : 0 < l.length := by cases l; exact absurd rfl hne; simp
        obtain ⟨cs, k1, _, k3⟩ := hcell (l.length - 1) (l[l.length - 1]'(by omega)) (List.getElem?_eq_getElem _)
        have := k3 (sz - 1) (cs[sz - 1]'(by omega)) (List.getElem?_eq_getElem _)
        have h6 := (Array.getElem?_eq_some_iff.1 this).1
        have : l.length * sz = (l.length - 1) * sz + sz := by
          obtain ⟨m, hm⟩ : ∃ m, l.length = m + 1 := ⟨l.length - 1, by omega⟩
          rw [hm]; simp [Nat.succ_mul]
        omega
    refine ⟨b, o, c, (ob.toList.drop o).take (l.length * sz), rfl, ⟨?_, fun i x hi => ?_⟩, ob, e, fz, hb, fun j v hv => ?_⟩
    · rcases hlen with h | h
      · simp; omega
      · simp [h]
    · obtain ⟨cs, k1, k2, k3⟩ := hcell i x hi
      refine ⟨cs, k1, k2, fun j v hv => ?_⟩
      have hlt : i < l.length := (List.getElem?_eq_some_iff.1 hi).1
      have hj : j < sz := by have := (List.getElem?_eq_some_iff.1 hv).1; omega
      have hbound : i * sz + j < l.length * sz := by
        have : (i + 1) * sz ≤ l.length * sz := Nat.mul_le_mul_right _ hlt
        rw [Nat.add_mul] at this; omega
      rw [List.getElem?_take, if_pos hbound, List.getElem?_drop]
      have := k3 j v hv
      simpa [Nat.add_assoc] using this
    · rw [List.getElem?_take] at hv
      split at hv
      · rw [List.getElem?_drop] at hv; simpa using hv
      · cases hv
end Go.Dec
end
section
set_option maxRecDepth 100000
set_option maxHeartbeats 40000000
namespace Go.Dec
open Go Go.RowKit
section
variable {P : Program} {ro : Option Nat} {N : Nat} {ds : List Deferred} {B : Bs} {H : Hp} {Q : Exit → Act → World → Prop} {f : Nat → Value} {bs : List (Nat × Obj)} {gs : List GS}
abbrev Asn (X : Type) := X → Hp → (Nat → Value) → List (Nat × Obj) → List GS → Prop
/-- where a statement ends normally, this is so -/
def XQ {X : Type} (N : Nat) (ds : List Deferred) (B : Bs) (A : Asn X) (Q : Exit → Act → World → Prop) : Exit → Act → World → Prop
  | .normal, a, w => ∃ x H f bs gs, A x H f bs gs ∧ Fr N ds a f ∧ St B H bs gs w
  | e, a, w => Q e a w
theorem noOut_join {X : Type} {A : Asn X} : NoOut (XQ N ds B A Q) ↔ NoOut Q := Iff.rfl
theorem JC.join {X : Type} {c : Code} (A : Asn X) (h : JC P ro N ds B H c (XQ N ds B A Q) f bs gs) (after : ∀ x H f bs gs, A x H f bs gs → JQ N ds B H .normal Q f bs gs) : JC P ro N ds B H c Q f bs gs := fun hQ a w ha hs => by
  refine wpIn_mono (h (noOut_join.2 hQ) a w ha hs) fun e a w hq => ?_
  cases e with
  | normal => obtain ⟨x, H, f, bs, gs, h1, h2, h3⟩ := hq; exact after x H f bs gs h1 hQ a w h2 h3
  | _ => exact hq
theorem JQ.join {X : Type} {A : Asn X} (x : X) (h : A x H f bs gs) : JQ N ds B H .normal (XQ N ds B A Q) f bs gs := fun _ _ _ ha hs => ⟨x, H, f, bs, gs, h, ha, hs⟩
theorem JQ.ret_join {X : Type} {A : Asn X} (h : JQ N ds B H .ret Q f bs gs) : JQ N ds B H .ret (XQ N ds B A Q) f bs gs := fun hQ a w ha hs => h (noOut_join.1 hQ) a w ha hs
theorem St.dropG {w : World} (h : St B H bs gs w) (j : Nat) : St B H bs (gs.eraseIdx j) w := h.sub (List.Sublist.refl _) (List.eraseIdx_sublist ..)
theorem St.freezeG {α : Type} {R : Rl α} {w : World} (h : St B H bs gs w) {j : Nat} {q : GS} {l : List α} (hj : gs[j]? = some q) (hR : Mono R) (hch : CH H q.sz R q.xs l) (hn : q.n = l.length) :
    ∃ H', HSub H H' ∧ SL H' q.sz R q.v l ∧ St B H' bs (gs.eraseIdx j) w := by
  have hmem : q ∈ gs := List.mem_of_getElem? hj
  obtain ⟨hlen, hrow⟩ := h.row q hmem
  rcases hrow with ⟨hv, h0⟩ | ⟨b, cap, cur, hv, hb0, hb, hnc, hcap, hsz, htake⟩
  · have hl : l = [] := List.eq_nil_of_length_eq_zero (by omega)
    subst hl
    exact ⟨H, HSub.refl _, by rw [hv]; exact SL.nil, h.dropG j⟩
  · have hown : q.v.ownBlock = some b := by rw [hv]; rfl
    have hHb := (h.rfresh q hmem b hown).1
    have hbne := (h.rfresh q hmem b hown).2
    have hsub : (gs.eraseIdx j).Sublist gs := List.eraseIdx_sublist ..
    have hgne : ∀ r ∈ gs.eraseIdx j, r.v.ownBlock ≠ some b := fun r hr e => by
      obtain ⟨i, hi⟩ := List.mem_iff_getElem?.1 hr
      rw [List.getElem?_eraseIdx] at hi
      have hpw := List.pairwise_iff_getElem.1 h.rdisj
      obtain ⟨hjl, hj2⟩ := List.getElem?_eq_some_iff.1 hj
      split at hi
      · rename_i hlt
        obtain ⟨hil, hi2⟩ := List.getElem?_eq_some_iff.1 hi
        exact hpw i j hil hjl hlt b (by rw [hi2]; exact e) (by rw [hj2]; exact hown)
      · obtain ⟨hil, hi2⟩ := List.getElem?_eq_some_iff.1 hi
        exact hpw j (i + 1) hjl hil (by omega) b (by rw [hj2]; exact hown) (by rw [hi2]; exact e)
    have hcells : Cells (ins H b (.cells cur q.e)) b 0 q.xs := ⟨cur, q.e, (0, 0), by simp [Dec.ins], fun j v hv => by
      rw [← htake, List.getElem?_take] at hv
      split at hv
      · simpa using hv
      · cases hv⟩
    refine ⟨ins H b (.cells cur q.e), HSub.ins hHb _, ?_, h.below, ⟨fun k ob hk => ?_, fun K I hK => ?_⟩, ⟨h.ext.1.trans (HSub.ins hHb _), fun k hk => ?_⟩, fun p hp => ?_, h.nodup, fun g hg => h.row g (hsub.subset hg), fun g hg c hc => ⟨?_, (h.rfresh g (hsub.subset hg) c hc).2⟩, h.rdisj.sublist hsub⟩
    · rw [hv, hn]
      exact (hch.mono hR (HSub.ins hHb _)).sl hcells ⟨by simp only [maxLen] at hcap; omega, by omega⟩
    · rw [ins_at] at hk; split at hk
      · rename_i e; subst e; cases hk; exact hb
      · exact h.hle.le k ob hk
    · obtain ⟨k1, k2⟩ := h.hle.ok K I hK
      exact ⟨by rw [ins_at, if_neg (fun e => h.notHole hb0 I (by rw [← e]; exact hK))]; exact k1, k2⟩
    · rw [ins_at, if_neg (by omega)]; exact h.ext.2 k hk
    · have := h.own p hp
      exact ⟨this.1, this.2.1, by rw [ins_at, if_neg (hbne p hp)]; exact this.2.2⟩
    · rw [ins_at, if_neg (fun e => hgne g hg (by rw [← e]; exact hc))]; exact (h.rfresh g (hsub.subset hg) c hc).1
theorem JC.freezeG {α : Type} {R : Rl α} {c : Code} (j : Nat) {q : GS} {l : List α} (hj : gs[j]? = some q) (hR : Mono R) (hch : CH H q.sz R q.xs l) (hn : q.n = l.length)
    (k : ∀ H', HSub H H' → SL H' q.sz R q.v l → JC P ro N ds B H' c Q f bs (gs.eraseIdx j)) : JC P ro N ds B H c Q f bs gs := fun hQ a w ha hs =>
  let ⟨H', h1, h2, h3⟩ := hs.freezeG hj hR hch hn
  k H' h1 h2 hQ a w ha h3
theorem JQ.freezeG {α : Type} {R : Rl α} {e : Exit} (j : Nat) {q : GS} {l : List α} (hj : gs[j]? = some q) (hR : Mono R) (hch : CH H q.sz R q.xs l) (hn : q.n = l.length)
    (k : ∀ H', HSub H H' → SL H' q.sz R q.v l → JQ N ds B H' e Q f bs (gs.eraseIdx j)) : JQ N ds B H e Q f bs gs := fun hQ a w ha hs =>
  let ⟨H', h1, h2, h3⟩ := hs.freezeG hj hR hch hn
  k H' h1 h2 hQ a w ha h3
theorem JL.freezeG {α : Type} {R : Rl α} {ops rest : List Oper} (j : Nat) {q : GS} {l : List α} (hj : gs[j]? = some q) (hR : Mono R) (hch : CH H q.sz R q.xs l) (hn : q.n = l.length)
    (k : ∀ H', HSub H H' → SL H' q.sz R q.v l → JL .plain P N ds B H' ops Q rest f bs (gs.eraseIdx j)) : JL .plain P N ds B H ops Q rest f bs gs := fun a w ha hs =>
  let ⟨H', h1, h2, h3⟩ := hs.freezeG hj hR hch hn
  k H' h1 h2 a w ha h3
theorem JQ.freeze {e : Exit} (i : Nat) {b : Nat} {o : Obj} (hi : bs[i]? = some (b, o)) (k : HSub H (ins H b o) → JQ N ds B (ins H b o) e Q f (bs.eraseIdx i) gs) : JQ N ds B H e Q f bs gs := fun hQ a w ha hs =>
  let ⟨h1, h2⟩ := hs.freeze hi
  k (HSub.ins h1 o) hQ a w ha h2
/-- an own block handed over, the new data's name a letter -/
theorem JC.freezeC {c : Code} (i : Nat) {b : Nat} {l : List Value} {e : TypeId} (hi : bs[i]? = some (b, .cells l.toArray e)) (k : ∀ H', HSub H H' → Cells H' b 0 l → JC P ro N ds B H' c Q f (bs.eraseIdx i) gs) : JC P ro N ds B H c Q f bs gs :=
  JC.freeze i hi fun hs => k _ hs Cells.ins
theorem JL.freezeC {ops rest : List Oper} (i : Nat) {b : Nat} {l : List Value} {e : TypeId} (hi : bs[i]? = some (b, .cells l.toArray e)) (k : ∀ H', HSub H H' → Cells H' b 0 l → JL .plain P N ds B H' ops Q rest f (bs.eraseIdx i) gs) : JL .plain P N ds B H ops Q rest f bs gs :=
  JL.freeze i hi fun hs => k _ hs Cells.ins
theorem JQ.freezeC {ex : Exit} (i : Nat) {b : Nat} {l : List Value} {e : TypeId} (hi : bs[i]? = some (b, .cells l.toArray e)) (k : ∀ H', HSub H H' → Cells H' b 0 l → JQ N ds B H' ex Q f (bs.eraseIdx i) gs) : JQ N ds B H ex Q f bs gs :=
  JQ.freeze i hi fun hs => k _ hs Cells.ins
inductive RV (P : Program) (f : Nat → Value) (bs : List (Nat × Obj)) : List ResultVar → List Value → Prop
  | nil : RV P f bs [] []
  | tmp {t : Nat} {rs : List ResultVar} {vs : List Value} (h : RV P f bs rs vs) : RV P f bs (.tmp t :: rs) (f t :: vs)
  | cell {a t b : Nat} {e : TypeId} {z : Bool × Nat} {l : List Value} {v : Value} {rs : List ResultVar} {vs : List Value} (i : Nat) (hz : aggsz P t = some z) (hx : f a = .pointer (some ⟨b, 0, none⟩)) (hi : bs[i]? = some (b, .cells l.toArray e)) (hv : loadw z l 0 = some v)
      (h : RV P f bs rs vs) : RV P f bs (.cell a t :: rs) (v :: vs)
def resw : List Value → Value
  | [v] => v
  | l => .tuple l.toArray
theorem RV.run {rs : List ResultVar} {vs : List Value} (h : RV P f bs rs vs) {w : World} (hs : St B H bs gs w) {g : ResultVar → Sem Value} (hg : ∀ t, (g (.tmp t)).run P w = .ok (f t) w)
    (hc : ∀ ad t, (g (.cell ad t)).run P w = (Instr.loadAt t (f ad)).run P w ∨ ∀ a, f ad ≠ .pointer (some a)) : (List.mapM g rs).run P w = .ok vs w := by
  induction h with
  | nil => simp
  | tmp _ ih => rw [List.mapM_cons]; simp only [Sem.run_bind, Sem.run_pure, Result.andThen_ok, ih, hg]
  | @cell ad t b e z l v rs vs i hz hx hi hv _ ih =>
    have hl := run_load_of (P := P) (w := w) (o := 0) hz (hs.has hi) hv
    rw [Nat.zero_add] at hl
    have := (hc ad t).resolve_right (fun h => h _ hx)
    rw [hx, hl] at this
    rw [List.mapM_cons]
    simp only [Sem.run_bind, Sem.run_pure, Result.andThen_ok, ih, this]
theorem RV.results {fn : Func} {rs : List ResultVar} {vs : List Value} (hr : fn.results = rs.toArray) (h : RV P f bs rs vs) {a : Act} (ha : Fr N ds a f) {w : World} (hs : St B H bs gs w) : (results fn a.tmps).run P w = .ok (resw vs) w := by
  unfold Go.results
  rw [hr]
  simp only [List.mapM_toArray, Sem.run_bind, Sem.run_map]
  rw [h.run hs (fun t => by simp [ha.get]) (fun ad t => by
    by_cases hp : ∃ x, f ad = .pointer (some x)
    · obtain ⟨x, hp⟩ := hp
      left; simp [ha.get, hp, asAddr, Instr.loadAt, Instr.sureAddr]
    · exact .inr fun x hx => hp ⟨x, hx⟩)]
  match vs with
  | [] => simp [resw]
  | [v] => simp [resw]
  | v :: u :: l => simp [resw]
theorem JQ.outS {fn : Func} {rs : List ResultVar} {vs : List Value} {v : Value} (hr : fn.results = rs.toArray) (h : RV P f bs rs vs) (hv : resw vs = v) : JQ N [] B H .ret (bodyPost P fn (RetS B v)) f bs gs := fun _ a w ha hs =>
  ⟨ha.defers, _, h.results hr ha hs, by rw [hv], hs.out⟩
theorem JQ.outH {fn : Func} {rs : List ResultVar} {vs : List Value} {Res : Hp → Value → Prop} (hr : fn.results = rs.toArray) (h : RV P f bs rs vs) (hres : Res H (resw vs)) : JQ N [] B H .ret (bodyPost P fn (RetH B Res)) f bs gs := fun _ a w ha hs =>
  ⟨ha.defers, _, h.results hr ha hs, H, _, rfl, hs.ext.1, hs.ext.2, hs.hle, hs.below, hres⟩
/-- the length of a slice that is known as data -/
theorem JL.lenSL {q : Md} {α : Type} {R : Rl α} {sz : Nat} {l : List α} {ops rest : List Oper} {d : Nat} {t : TypeId} {p : String} {af : Array Edge} {g : Option (Nat × Bool)} {tx e : TypeId} {x : Operand}
    (ht : P.underlying tx = some (.slice e)) (hs : SL H sz R (ev f x) l) (hw : Want ops f g) (hd : Nat.blt d N = true)
    (h : JL q P N ds B H ops Q rest (upd f d (.int .i64 (l.length : Nat))) bs gs) : JL q P N ds B H ops Q (⟨some d, .call ⟨.builtin .len, #[x], #[tx]⟩, t, p, af, g⟩ :: rest) f bs gs := by
  obtain ⟨a, c, hv, _⟩ := hs
  exact JL.len ht hv hw hd h
/-- .. and of one's own that grows -/
theorem JL.lenG {q : Md} {ops rest : List Oper} {d : Nat} {t : TypeId} {p : String} {af : Array Edge} {g : Option (Nat × Bool)} {tx e : TypeId} {x : Operand} (j : Nat) {gq : GS}
    (ht : P.underlying tx = some (.slice e)) (hj : gs[j]? = some gq) (hx : ev f x = gq.v) (hw : Want ops f g) (hd : Nat.blt d N = true)
    (h : JL q P N ds B H ops Q rest (upd f d (.int .i64 (gq.n : Nat))) bs gs) : JL q P N ds B H ops Q (⟨some d, .call ⟨.builtin .len, #[x], #[tx]⟩, t, p, af, g⟩ :: rest) f bs gs := by
  refine .val hw hd (fun w hs => ?_) h
  obtain ⟨_, hrow⟩ := hs.row gq (List.mem_of_getElem? hj)
  rcases hrow with ⟨hv, h0⟩ | ⟨b, cap, cur, hv, _⟩
  · simp [execOp, resolve, invoke, builtin, Builtin.len_, hx, hv, h0, goInt, run_underlying ht]
  · simp [execOp, resolve, invoke, builtin, Builtin.len_, hx, hv, goInt, run_underlying ht]
/-- nothing is appended, or something -/
theorem JL.appendSL {α : Type} {R : Rl α} {ops rest : List Oper} {d : Nat} {t : TypeId} {p : String} {af : Array Edge} {g : Option (Nat × Bool)} {tx e : TypeId} {sz by_ : Nat} {x y : Operand} (j : Nat) {q : GS} {l m : List α}
    (hA : apT P tx = some (e, sz, by_)) (hj : gs[j]? = some q) (hq : q.e = e ∧ q.sz = sz) (hx : ev f x = q.v) (hch : CH H sz R q.xs l) (hn : q.n = l.length)
    (hsrc : SL H sz R (ev f y) m) (h1 : ∀ cs x, R H cs x → ∀ u ∈ cs, u.oneCell' = true) (hlim : l.length + m.length ≤ 4294967296) (hw : Want ops f g) (hd : Nat.blt d N = true)
    (h : ∀ v' xs', CH H sz R xs' (l ++ m) → JL .plain P N ds B H ops Q rest (upd f d v') bs (gs.set j ⟨v', e, sz, (l ++ m).length, xs'⟩)) : JL .plain P N ds B H ops Q (⟨some d, .call ⟨.builtin .append, #[x, y], #[tx, tx]⟩, t, p, af, g⟩ :: rest) f bs gs := by
  by_cases hm : m = []
  · subst hm
    obtain ⟨a, c, hv, _, _⟩ := hsrc
    obtain ⟨i, z, hu, hi, hz, hsz, hby, hzs, hpos, hb⟩ := apT_spec hA
    obtain ⟨rfl, rfl⟩ := hq
    refine .step hw fun a' w ha hs => ?_
    obtain ⟨hlen, hrow⟩ := hs.row q (List.mem_of_getElem? hj)
    have hr : (execOp (ev f) ⟨some d, .call ⟨.builtin .append, #[x, y], #[tx, tx]⟩, t, p, af, g⟩).run P w = .ok (.value q.v) w := by
      have hfc : (Builtin.firstCells i.size 0 (.slice a 0 c)).run P w = .ok #[] w := by
        cases a <;> simp [Builtin.firstCells, loadCells, loadCellsFrom]
      rcases hrow with ⟨hv', h0⟩ | ⟨b, cap, cur, hv', _, _, hnc, _, _, _⟩
      · simp only [execOp, resolve, invoke, builtin, Sem.run_bind, Sem.run_pure, Result.andThen_ok, List.map_toArray, List.map_cons, List.map_nil, hx, hv, hv']
        simp [Builtin.append_, run_underlying hu, sizeOf, typeInfo, hi, Builtin.lenOf, hfc]
      · simp only [execOp, resolve, invoke, builtin, Sem.run_bind, Sem.run_pure, Result.andThen_ok, List.map_toArray, List.map_cons, List.map_nil, hx, hv, hv']
        simp [Builtin.append_, run_underlying hu, sizeOf, typeInfo, hi, Builtin.lenOf, hfc, hnc, storeCells]
    unfold Oper.wp
    rw [ha.eval, hr]
    refine h q.v q.xs (by simpa using hch) _ _ (ha.put hd _) ?_
    have : gs.set j ⟨q.v, q.e, q.sz, (l ++ []).length, q.xs⟩ = gs := by
      have e : (⟨q.v, q.e, q.sz, (l ++ []).length, q.xs⟩ : GS) = q := by cases q; simp at hn ⊢; exact hn.symm
      rw [e]
      obtain ⟨hjl, hj2⟩ := List.getElem?_eq_some_iff.1 hj
      rw [← hj2]; exact List.set_getElem_self hjl
    rw [this]; exact hs
  · obtain ⟨b, o, c, xs, hv, k1, k2⟩ := hsrc.cells hm
    have hmem : ∀ u ∈ xs, u.oneCell' = true := fun u hu => by
      obtain ⟨i, hi⟩ := List.mem_iff_getElem?.1 hu
      have hil := (List.getElem?_eq_some_iff.1 hi).1
      obtain ⟨_, _, _, _, _, _, _, _, hpos, _⟩ := apT_spec hA
      have hlt : i / sz < m.length := Nat.div_lt_of_lt_mul (by rw [Nat.mul_comm, ← k1.1]; exact hil)
      obtain ⟨cs, c1, c2, c3⟩ := k1.2 (i / sz) _ (List.getElem?_eq_getElem hlt)
      have hj : i % sz < cs.length := by rw [c1]; exact Nat.mod_lt _ hpos
      have := c3 (i % sz) _ (List.getElem?_eq_getElem hj)
      have e : i / sz * sz + i % sz = i := by rw [Nat.mul_comm]; exact Nat.div_add_mod ..
      rw [e, hi] at this
      have := Option.some.inj this
      rw [this]
      exact h1 cs _ c2 _ (List.getElem_mem hj)
    refine JL.append j hA hj hq hx (m := m.length) (news := xs) (by rw [hv]; exact .data k2 k1.1) hmem (by rw [hn]; exact hlim) hw hd fun v' => ?_
    have := h v' (q.xs ++ xs) (hch.append k1)
    rwa [List.length_append, ← hn] at this
end
section
variable {q : Md} {P : Program} {N : Nat} {ds : List Deferred} {B : Bs} {H : Hp} {ops : List Oper} {Q : Exit → Act → World → Prop} {l rest : List Oper} {f : Nat → Value} {bs : List (Nat × Obj)} {gs : List GS}
variable {d : Nat} {t : TypeId} {p : String} {af : Array Edge} {g : Option (Nat × Bool)}
theorem JL.cut (m : Nat) (A : (Nat → Value) → Prop) (h1 : (∀ f', A f' → JL q P N ds B H ops Q (l.drop m) f' bs gs) → JL q P N ds B H ops Q l f bs gs) (h2 : ∀ f', A f' → JL q P N ds B H ops Q (l.drop m) f' bs gs) : JL q P N ds B H ops Q l f bs gs := h1 h2
theorem JL.cutW (m : Nat) (A : Hp → (Nat → Value) → List (Nat × Obj) → List GS → Prop) (h1 : (∀ H' f' bs' gs', A H' f' bs' gs' → JL q P N ds B H' ops Q (l.drop m) f' bs' gs') → JL q P N ds B H ops Q l f bs gs) (h2 : ∀ H' f' bs' gs', A H' f' bs' gs' → JL q P N ds B H' ops Q (l.drop m) f' bs' gs') : JL q P N ds B H ops Q l f bs gs := h1 h2
theorem JL.pick_t {c x y : Operand} {b : Bool} (hc : ev f c = .bool b) (hb : b = true) (hw : Want ops f g) (hd : Nat.blt d N = true) (h : JL q P N ds B H ops Q rest (upd f d (ev f x)) bs gs) : JL q P N ds B H ops Q (⟨some d, .pick c x y, t, p, af, g⟩ :: rest) f bs gs :=
  .pick hc hw hd (by rw [hb]; exact h)
theorem JL.pick_f {c x y : Operand} {b : Bool} (hc : ev f c = .bool b) (hb : b = false) (hw : Want ops f g) (hd : Nat.blt d N = true) (h : JL q P N ds B H ops Q rest (upd f d (ev f y)) bs gs) : JL q P N ds B H ops Q (⟨some d, .pick c x y, t, p, af, g⟩ :: rest) f bs gs :=
  .pick hc hw hd (by rw [hb]; exact h)
end
def lim {α : Type} (l : List α) : Option (List α) := if l.length ≤ 4294967296 then some l else none
theorem lim_some {α : Type} {l r : List α} (h : lim l = some r) : r = l ∧ l.length ≤ 4294967296 := by
  unfold lim at h; split at h
  · cases h; exact ⟨rfl, by assumption⟩
  · cases h
def AllOne (l : List Value) : Prop := ∀ u ∈ l, u.oneCell' = true
theorem one_nil : AllOne [] := by simp [AllOne]
theorem one_cons {v : Value} {l : List Value} (h : v.oneCell' = true) (k : AllOne l) : AllOne (v :: l) := fun u hu => by
  rcases List.mem_cons.1 hu with rfl | hu
  · exact h
  · exact k u hu
section
variable {P : Program} {N : Nat} {ds : List Deferred} {B : Bs} {H : Hp} {Q : Exit → Act → World → Prop} {ops rest : List Oper} {f : Nat → Value} {bs : List (Nat × Obj)} {gs : List GS}
variable {d : Nat} {t : TypeId} {p : String} {af : Array Edge} {g : Option (Nat × Bool)} {α : Type} {R : Rl α} {tx e : TypeId} {sz by_ : Nat} {x y : Operand}
/-- 'append(out, ..)', what comes being data -/
theorem JL.appD (j : Nat) {gq : GS} {l m out : List α} (hA : apT P tx = some (e, sz, by_)) (hj : gs[j]? = some gq) (hq : gq.e = e ∧ gq.sz = sz) (hx : ev f x = gq.v) (hch : CH H sz R gq.xs l) (hn : gq.n = l.length)
    (hsrc : SL H sz R (ev f y) m) (h1 : ∀ cs x, R H cs x → AllOne cs) (hlim : lim (l ++ m) = some out) (hw : Want ops f g) (hd : Nat.blt d N = true)
    (h : ∀ v' xs', CH H sz R xs' out → JL .plain P N ds B H ops Q rest (upd f d v') bs (gs.set j ⟨v', e, sz, out.length, xs'⟩)) : JL .plain P N ds B H ops Q (⟨some d, .call ⟨.builtin .append, #[x, y], #[tx, tx]⟩, t, p, af, g⟩ :: rest) f bs gs := by
  obtain ⟨rfl, hl⟩ := lim_some hlim
  exact JL.appendSL j hA hj hq hx hch hn hsrc h1 (by simpa using hl) hw hd h
/-- .. a slice literal of one's own -/
theorem JL.appO (j i : Nat) {gq : GS} {l m out : List α} {b n c : Nat} {cl : List Value} {eb : TypeId} (hA : apT P tx = some (e, sz, by_)) (hj : gs[j]? = some gq) (hq : gq.e = e ∧ gq.sz = sz) (hx : ev f x = gq.v) (hch : CH H sz R gq.xs l) (hn : gq.n = l.length)
    (hy : ev f y = .slice (some ⟨b, 0, none⟩) n c) (hi : bs[i]? = some (b, .cells cl.toArray eb)) (hsrc : CH H sz R cl m) (hm : m.length = n) (h1 : AllOne cl) (hlim : lim (l ++ m) = some out) (hw : Want ops f g) (hd : Nat.blt d N = true)
    (h : ∀ v' xs', CH H sz R xs' out → JL .plain P N ds B H ops Q rest (upd f d v') bs (gs.set j ⟨v', e, sz, out.length, xs'⟩)) : JL .plain P N ds B H ops Q (⟨some d, .call ⟨.builtin .append, #[x, y], #[tx, tx]⟩, t, p, af, g⟩ :: rest) f bs gs := by
  obtain ⟨rfl, hl⟩ := lim_some hlim
  refine JL.append (m := n) (news := cl) j hA hj hq hx (by rw [hy]; exact .own hi (by rw [hsrc.1, hm])) h1 (by rw [hn, ← hm]; simpa using hl) hw hd fun v' => ?_
  have := h v' (gq.xs ++ cl) (hch.append hsrc)
  rwa [List.length_append, hm, ← hn] at this
theorem JC.newNil {ro : Option Nat} {c : Code} {e : TypeId} {sz : Nat} (h : JC P ro N ds B H c Q f bs (⟨.slice none 0 0, e, sz, 0, []⟩ :: gs)) : JC P ro N ds B H c Q f bs gs := fun hQ a w ha hs =>
  h hQ a w ha ⟨hs.below, hs.hle, hs.ext, hs.own, hs.nodup, fun q hq => by
      rcases List.mem_cons.1 hq with rfl | hq
      · exact World.ownsRow_nil w _ _ _
      · exact hs.row q hq,
    fun q hq b hb => by
      rcases List.mem_cons.1 hq with rfl | hq
      · simp [Value.ownBlock] at hb
      · exact hs.rfresh q hq b hb,
    List.pairwise_cons.2 ⟨fun q hq b hb => by simp [Value.ownBlock] at hb, hs.rdisj⟩⟩
end
/-- a slice as an element -/
def RSl {α : Type} (sz : Nat) (R : Rl α) : Rl (List α) := fun H cs x => ∃ v, cs = [v] ∧ SL H sz R v x
theorem RSl.mono {α : Type} {sz : Nat} {R : Rl α} (hR : Mono R) : Mono (RSl sz R) := fun _ _ h _ _ ⟨v, h1, h2⟩ => ⟨v, h1, h2.mono hR h⟩
theorem RSl.one {α : Type} {sz : Nat} {R : Rl α} : ∀ (H : Hp) (cs : List Value) (x : List α), RSl sz R H cs x → AllOne cs := fun _ _ _ ⟨_, h1, h2⟩ => h1 ▸ one_cons h2.one one_nil
theorem RInt.one : ∀ (H : Hp) (cs : List Value) (x : Int), RInt H cs x → AllOne cs := fun _ _ _ h => h ▸ one_cons rfl one_nil
theorem RBool.one : ∀ (H : Hp) (cs : List Value) (x : Bool), RBool H cs x → AllOne cs := fun _ _ _ h => h ▸ one_cons rfl one_nil
theorem bcases (b : Bool) : b = true ∨ b = false := by cases b <;> simp
theorem bind_some {α β : Type} {o : Option α} {k : α → Option β} {r : β} (h : o.bind k = some r) : ∃ x, o = some x ∧ k x = some r := by
  cases o with
  | none => cases h
  | some x => exact ⟨x, rfl, h⟩
theorem ite_some {β : Type} {c : Bool} {A D : Option β} {r : β} (h : (if c = true then A else D) = some r) : (c = true ∧ A = some r) ∨ (c = false ∧ D = some r) := by
  cases c with
  | true => exact .inl ⟨rfl, by simpa using h⟩
  | false => exact .inr ⟨rfl, by simpa using h⟩
def nz (n : Int) : Option Unit := if n = 0 then none else some ()
theorem nz_some {n : Int} {u : Unit} (h : nz n = some u) : n ≠ 0 := by
  unfold nz at h; split at h
  · cases h
  · assumption
abbrev w64 (n : Int) : Int := IntKind.i64.wrap n
theorem and_t {x : Value} {e v : Bool} (h : e = true) (hx : x = .bool v) : x = .bool (e && v) := by rw [h, hx]; rfl
theorem and_f {x : Value} {e v : Bool} (h : e = false) (hx : x = .bool false) : x = .bool (e && v) := by rw [h, hx]; rfl
theorem or_t {x : Value} {e v : Bool} (h : e = true) (hx : x = .bool true) : x = .bool (e || v) := by rw [h, hx]; rfl
theorem or_f {x : Value} {e v : Bool} (h : e = false) (hx : x = .bool v) : x = .bool (e || v) := by rw [h, hx]; rfl
end Go.Dec
end
section
namespace Go.Dec
open Go Go.RowKit
section
variable {P : Program} {N : Nat} {ds : List Deferred} {B : Bs} {H : Hp} {ops : List Oper} {Q : Exit → Act → World → Prop} {f : Nat → Value} {bs : List (Nat × Obj)} {gs : List GS}
def Ext (B : Bs) (H : Hp) : Prop := HSub B.H H ∧ ∀ b, b < B.w.heap.size → H b = B.H b
/-- less data, fewer own blocks -/
theorem St.lower {w : World} (h : St B H bs gs w) {H0 : Hp} {bs0 : List (Nat × Obj)} {gs0 : List GS} (he : Ext B H0) (hH : HSub H0 H) (hb : bs0.Sublist bs) (hg : gs0.Sublist gs) : St B H0 bs0 gs0 w := by
  have none_of : ∀ b, H b = none → H0 b = none := fun b hb => by
    cases h0 : H0 b with
    | none => rfl
    | some o => rw [hH.le b o h0] at hb; cases hb
  have k := h.sub hb hg
  exact ⟨k.below, k.hle.sub hH, he, fun p hp => ⟨(k.own p hp).1, (k.own p hp).2.1, none_of _ (k.own p hp).2.2⟩, k.nodup, k.row, fun g hg b hb => ⟨none_of _ (k.rfresh g hg b hb).1, (k.rfresh g hg b hb).2⟩, k.rdisj⟩
/-- own blocks in another order -/
theorem St.perm {w : World} (h : St B H bs gs w) {bs' : List (Nat × Obj)} (hp : bs.Perm bs') : St B H bs' gs w :=
  ⟨h.below, h.hle, h.ext, fun p hq => h.own p (hp.mem_iff.2 hq), (hp.pairwise_iff (fun hxy e => hxy e.symm)).1 h.nodup, h.row, fun g hg b hb => ⟨(h.rfresh g hg b hb).1, fun p hq => (h.rfresh g hg b hb).2 p (hp.mem_iff.2 hq)⟩, h.rdisj⟩
def sinkOn (ops : Array Oper) (k i : Nat) : Bool := match ops[k]? with
  | none => true
  | some o => o.after.any fun e => Region.binds .any e && e.on == i
def wpAnyK (P : Program) (ops : Array Oper) (Q : Exit → Act → World → Prop) (k : Nat) (S : World → Prop) : Nat → Array Bool → Act → World → Prop
  | 0, listed, a, w => Region.ready .any ops listed = [] ∧ Q .normal a w
  | fuel + 1, listed, a, w =>
    (Region.ready .any ops listed = [] → Q .normal a w) ∧
    ∀ i ∈ Region.ready .any ops listed, wpOp P ops Q i (fun a' w' => ((listed.setIfInBounds i true).getD k false = false → S w') ∧ wpAnyK P ops Q k S fuel (listed.setIfInBounds i true) a' w') a w
theorem wpAny_of_K {O : Array Oper} {k : Nat} {S : World → Prop} : ∀ (fuel : Nat) (listed : Array Bool) (a : Act) (w : World), wpAnyK P O Q k S fuel listed a w → wpAny P .any O Q fuel listed a w
  | 0, _, _, _, h => h
  | fuel + 1, _, _, _, h => ⟨h.1, fun i hi => wpOp_mono (fun a' w' h' => wpAny_of_K fuel _ a' w' h'.2) (h.2 i hi)⟩
theorem wpAnyK_first {O : Array Oper} {k : Nat} {S : World → Prop} {i : Nat} {oi : Oper} {v : Value} (hi : O[i]? = some oi) (hsel : ∀ (j : Nat) (o : Oper) cs b, O[j]? = some o → o.op ≠ .select cs b)
    (hk : sinkOn O k i = true) (hQ : ∀ c a w, Q (.panic c) (a.put oi.dst v) w → Q (.panic c) a w) :
    ∀ (fuel : Nat) (listed : Array Bool) (a : Act) (w : World),
      (∀ j oj, O[j]? = some oj → j ≠ i → listed.getD j true = false → (∀ e ∈ oj.after, Region.binds .any e = true → e.on ≠ i) → oi.apart O oj = true) →
      i ∈ Region.ready .any O listed → YieldsIf P O S oi v a → listed.getD k false = false → S w →
      wpAnyK P O Q k S fuel (listed.setIfInBounds i true) (a.put oi.dst v) w → wpAnyK P O Q k S (fuel + 1) listed a w := by
  -- the sink waits for number i
  have notk : ∀ (listed : Array Bool) (j : Nat), i ∈ Region.ready .any O listed → j ∈ Region.ready .any O listed → j ≠ k := by
    intro listed j hr hj e
    subst e
    obtain ⟨hjun, oj, hoj, hall⟩ := mem_ready.1 hj
    simp only [sinkOn, hoj] at hk
    obtain ⟨e, he, hb⟩ := Array.any_eq_true'.1 hk
    simp only [Bool.and_eq_true, beq_iff_eq] at hb
    have h1 := hall e he hb.1
    have h0 := (mem_ready.1 hr).1
    rw [hb.2] at h1
    rcases Nat.lt_or_ge i listed.size with h' | h'
    · simp [h'] at h0 h1; rw [h0] at h1; cases h1
    · simp [Array.getElem?_eq_none h'] at h1
  intro fuel
  induction fuel with
  | zero =>
    intro listed a w _ hr hy _ hS H
    refine ⟨fun h => (by rw [h] at hr; cases hr), fun j hj => ?_⟩
    by_cases hji : j = i
    · subst hji; exact hy.wpOp hi hS ⟨fun _ => hS, H⟩
    · have := ready_mono hj hji
      rw [H.1] at this
      cases this
  | succ fuel ih =>
    intro listed a w hfree hr hy hl hS H
    refine ⟨fun h => (by rw [h] at hr; cases hr), fun j hj => ?_⟩
    by_cases hji : j = i
    · subst hji; exact hy.wpOp hi hS ⟨fun _ => hS, H⟩
    · have h1 := H.2 j (ready_mono hj hji)
      have hjk := notk listed j hr hj
      obtain ⟨hjun, oj, hoj, hall⟩ := mem_ready.1 hj
      have hnot : ∀ e ∈ oj.after, Region.binds .any e = true → e.on ≠ i := fun e he hb heq => by
        have h1 := hall e he hb
        have h0 := (mem_ready.1 hr).1
        rw [heq] at h1
        rcases Nat.lt_or_ge i listed.size with h' | h'
        · simp [h'] at h0 h1; rw [h0] at h1; cases h1
        · simp [Array.getElem?_eq_none h'] at h1
      have h2 := wpOp_putIf hoj (hfree j oj hoj hji hjun hnot) (fun cs b => hsel i oi cs b hi) (fun cs b => hsel j oj cs b hoj) hQ hy h1
      have hfree' : ∀ k ok, O[k]? = some ok → k ≠ i → (listed.setIfInBounds j true).getD k true = false →
          (∀ e ∈ ok.after, Region.binds .any e = true → e.on ≠ i) → oi.apart O ok = true := fun k ok hk hki hun hno => by
        refine hfree k ok hk hki ?_ hno
        by_cases hjk : j = k
        · subst hjk; exact hjun
        · rw [getD_set_ne true hjk] at hun; exact hun
      have hlj : (listed.setIfInBounds j true).getD k false = false := by rw [getD_set_ne false hjk]; exact hl
      have hli : ((listed.setIfInBounds i true).setIfInBounds j true).getD k false = false := by
        rw [getD_set_ne false hjk, getD_set_ne false (notk listed i hr hr)]; exact hl
      refine wpOp_mono (fun a' w' h3 => ⟨fun _ => h3.2.1 hli, ih (listed.setIfInBounds j true) a' w' hfree' (ready_mono hr (Ne.symm hji)) h3.1 hlj (h3.2.1 hli) ?_⟩) h2
      rw [Array.setIfInBounds_comm _ _ hji]
      exact h3.2.2
theorem wpAnyK_all {O : Array Oper} {k : Nat} {S : World → Prop} {rs : List Nat} {fuel : Nat} {listed : Array Bool} {a : Act} {w : World} (hr : Region.ready .any O listed = rs) (hne : rs ≠ [])
    (h : ∀ i ∈ rs, wpOp P O Q i (fun a' w' => ((listed.setIfInBounds i true).getD k false = false → S w') ∧ wpAnyK P O Q k S fuel (listed.setIfInBounds i true) a' w') a w) : wpAnyK P O Q k S (fuel + 1) listed a w :=
  ⟨fun h0 => absurd (hr ▸ h0) hne, hr ▸ h⟩
/-- from here on, whatever order; St B H0 bs0 []: the class of worlds that stays, until number k has come up -/
def JA (P : Program) (N : Nat) (ds : List Deferred) (B : Bs) (k : Nat) (H0 : Hp) (bs0 : List (Nat × Obj)) (ops : List Oper) (Q : Exit → Act → World → Prop) (fuel : Nat) (listed : Array Bool) (H : Hp) (f : Nat → Value) (bs : List (Nat × Obj)) (gs : List GS) : Prop :=
  ∀ a w, Fr N ds a f → St B H bs gs w → wpAnyK P ops.toArray Q k (St B H0 bs0 []) fuel listed a w
variable {k : Nat} {H0 : Hp} {bs0 : List (Nat × Obj)} {fuel : Nat} {listed listed' : Array Bool}
theorem JC.mixed {ro : Option Nat} {id : Nat} {l : List Oper} (k n : Nat) (L0 : Array Bool) (bs0 : List (Nat × Obj)) (hnd : noDefer l = true) (hm : P.follows .mixedOrders = true) (hn : l.length = n) (hL : Array.replicate n false = L0)
    (h : NoOut Q → Ext B H → JA P N ds B k H bs0 l Q n L0 H f bs gs) : JC P ro N ds B H (.region id l.toArray true) Q f bs gs := fun hQ a w ha hs => by
  refine wpIn_region_draw fun t => ?_
  simp only [Region.schedule, hm, Bool.true_or, if_true]
  refine wpOpsIn_of_wpOps hnd hQ _ a _ (wpAny_sound _ t _ a _ (wpAny_of_K (k := k) (S := St B H bs0 []) _ _ _ _ ?_))
  subst hn; subst hL
  have := h hQ hs.ext a _ ha (hs.drew (w.drawn + 1))
  simpa using this
theorem JA.take (i : Nat) {o : Oper} (hQ : NoOut Q) (hi : ops[i]? = some o) (hs : Region.noSelect ops.toArray = true) (hf : Region.free .any ops.toArray listed i = true) (hr : (Region.ready .any ops.toArray listed).contains i = true)
    (hl : listed.setIfInBounds i true = listed') (hk : (sinkOn ops.toArray k i && !listed.getD k false) = true)
    (he : Ext B H0) (hH : HSub H0 H) (hb : bs0.Sublist bs)
    (h : JL (.first fun a' => ∀ w, St B H bs gs w → wpAnyK P ops.toArray Q k (St B H0 bs0 []) fuel listed' a' w) P N ds B H0 ops Q [o] f bs0 []) :
    JA P N ds B k H0 bs0 ops Q (fuel + 1) listed H f bs gs := fun a w ha hst => by
  subst hl
  obtain ⟨v, hy, hK⟩ := h a ha
  simp only [Bool.and_eq_true, Bool.not_eq_true'] at hk
  exact wpAnyK_first (by simpa using hi) (Region.noSelect_spec hs) hk.1 (fun c a' w' hq => absurd hq (hQ.2 c _ w')) _ _ _ _ (Region.free_spec (by simpa using hi) hf) (by simpa using hr) hy hk.2 (hst.lower he hH hb (List.nil_sublist _)) (hK w hst)
theorem JA.cont (h : JA P N ds B k H0 bs0 ops Q fuel listed H f bs gs) :
    JL (.first fun a' => ∀ w, St B H bs gs w → wpAnyK P ops.toArray Q k (St B H0 bs0 []) fuel listed a' w) P N ds B H0 ops Q [] f bs0 [] := fun a ha w hs => h a w ha hs
/-- where an operation has been carried out -/
def QA (P : Program) (B : Bs) (k : Nat) (H0 : Hp) (bs0 : List (Nat × Obj)) (ops : List Oper) (Q : Exit → Act → World → Prop) (fuel : Nat) (listed : Array Bool) : Exit → Act → World → Prop
  | .normal, a, w => (listed.getD k false = false → St B H0 bs0 [] w) ∧ wpAnyK P ops.toArray Q k (St B H0 bs0 []) fuel listed a w
  | e, a, w => Q e a w
theorem Oper.wp_QA {o : Oper} {a : Act} {w : World} {K : Act → World → Prop} {Q' : Exit → Act → World → Prop} (hQ : ∀ c a w, Q' (.panic c) a w → Q (.panic c) a w) (hL : LetsOut Q' → LetsOut Q) (h : o.wp P a w K Q') : o.wp P a w K Q := by
  unfold Oper.wp at *
  generalize (execOp a.eval o).run P w = r at *
  match r with
  | .ok (.value v) w' => exact h
  | .ok .skip w' => exact h
  | .ok (.defer d) w' => exact h
  | .ok (.enter k args) w' =>
    refine Calls.mono (show Calls P k args w' _ from h) fun e w'' he => ?_
    cases e with
    | returned v => exact he
    | panicked c => exact hQ c _ _ he
    | outgrown => exact hL he
  | .ok (.row row args) w' => exact h
  | .halt (.panic v) w' => exact hQ _ _ _ h
theorem wpOp_of_JL {i : Nat} {o : Oper} (hi : ops[i]? = some o) (h : JL .plain P N ds B H ops (QA P B k H0 bs0 ops Q fuel (listed.setIfInBounds i true)) [o] f bs gs) {a : Act} {w : World} (ha : Fr N ds a f) (hs : St B H bs gs w) :
    wpOp P ops.toArray Q i (fun a' w' => ((listed.setIfInBounds i true).getD k false = false → St B H0 bs0 [] w') ∧ wpAnyK P ops.toArray Q k (St B H0 bs0 []) fuel (listed.setIfInBounds i true) a' w') a w := by
  have := h a w ha hs
  unfold wpOp
  have hi' : ops.toArray[i]? = some o := by simpa using hi
  simp only [hi']
  unfold wpList at this
  split
  · rename_i hw
    rw [if_pos hw] at this
    rcases this with h1 | ⟨h1, h2⟩
    · exact .inl (Oper.wp_QA (Q' := QA P B k H0 bs0 ops Q fuel (listed.setIfInBounds i true)) (fun c a w hq => hq) (fun ⟨a, w, hq⟩ => ⟨a, w, hq⟩) h1)
    · exact .inr ⟨h1, h2.elim fun a hx => hx.elim fun w hq => ⟨a, w, hq⟩⟩
  · rename_i hw
    rw [if_neg hw] at this
    exact this
theorem JA.many (rs : List Nat) (hr : Region.ready .any ops.toArray listed = rs) (hne : rs ≠ [])
    (h : ∀ i ∈ rs, ∃ o listed', ops[i]? = some o ∧ listed.setIfInBounds i true = listed' ∧ JL .plain P N ds B H ops (QA P B k H0 bs0 ops Q fuel listed') [o] f bs gs) :
    JA P N ds B k H0 bs0 ops Q (fuel + 1) listed H f bs gs := fun a w ha hs =>
  wpAnyK_all hr hne fun j hj => by
    obtain ⟨o, l', hi, rfl, hj⟩ := h j hj
    exact wpOp_of_JL hi hj ha hs
theorem all_one {p : Nat → Prop} {i : Nat} (h : p i) : ∀ j ∈ [i], p j := fun j hj => by rw [List.mem_singleton.1 hj]; exact h
theorem all_cons {p : Nat → Prop} {i : Nat} {l : List Nat} (h : p i) (h2 : ∀ j ∈ l, p j) : ∀ j ∈ i :: l, p j := fun j hj => by
  rcases List.mem_cons.1 hj with rfl | hj
  · exact h
  · exact h2 j hj
theorem JA.one (i : Nat) {o : Oper} (hr : Region.ready .any ops.toArray listed = [i]) (hi : ops[i]? = some o) (hl : listed.setIfInBounds i true = listed') (h : JL .plain P N ds B H ops (QA P B k H0 bs0 ops Q fuel listed') [o] f bs gs) :
    JA P N ds B k H0 bs0 ops Q (fuel + 1) listed H f bs gs :=
  JA.many [i] hr (by simp) (all_one ⟨o, listed', hi, hl, h⟩)
theorem JA.after (he : Ext B H0) (hH : HSub H0 H) (hb : bs0.Sublist bs) (h : JA P N ds B k H0 bs0 ops Q fuel listed H f bs gs) :
    JL .plain P N ds B H ops (QA P B k H0 bs0 ops Q fuel listed) [] f bs gs := .nil fun a w ha hs => ⟨fun _ => hs.lower he hH hb (List.nil_sublist _), h a w ha hs⟩
theorem JA.sink (hk : listed.getD k false = true) (h : JA P N ds B k H0 bs0 ops Q fuel listed H f bs gs) :
    JL .plain P N ds B H ops (QA P B k H0 bs0 ops Q fuel listed) [] f bs gs := .nil fun a w ha hs => ⟨fun h0 => (by rw [hk] at h0; cases h0), h a w ha hs⟩
theorem JA.done (hQ : NoOut Q) (hr : Region.ready .any ops.toArray listed = []) (h : JQ N ds B H .normal Q f bs gs) : JA P N ds B k H0 bs0 ops Q fuel listed H f bs gs := fun a w ha hs => by
  cases fuel with
  | zero => exact ⟨hr, h hQ a w ha hs⟩
  | succ n => exact ⟨fun _ => h hQ a w ha hs, fun i hi => by rw [hr] at hi; cases hi⟩
theorem JA.cut (fuel' : Nat) (listed' : Array Bool) (A : Hp → (Nat → Value) → List (Nat × Obj) → List GS → Prop) (h2 : ∀ H' f' bs' gs', A H' f' bs' gs' → JA P N ds B k H0 bs0 ops Q fuel' listed' H' f' bs' gs')
    (h1 : (∀ H' f' bs' gs', A H' f' bs' gs' → JA P N ds B k H0 bs0 ops Q fuel' listed' H' f' bs' gs') → JA P N ds B k H0 bs0 ops Q fuel listed H f bs gs) : JA P N ds B k H0 bs0 ops Q fuel listed H f bs gs := h1 h2
theorem JA.norm {i : Nat} {v : Value} (h : f i = v) (h2 : JA P N ds B k H0 bs0 ops Q fuel listed H (upd f i v) bs gs) : JA P N ds B k H0 bs0 ops Q fuel listed H f bs gs := upd_self h ▸ h2
theorem JA.perm {bs' : List (Nat × Obj)} (hp : bs.Perm bs') (h : JA P N ds B k H0 bs0 ops Q fuel listed H f bs' gs) : JA P N ds B k H0 bs0 ops Q fuel listed H f bs gs := fun a w ha hs => h a w ha (hs.perm hp)
end
end Go.Dec
end
