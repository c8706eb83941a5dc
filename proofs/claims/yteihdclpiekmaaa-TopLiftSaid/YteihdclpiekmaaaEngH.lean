/-
  Slices of slices; own slices in own blocks.
-/
import Derived.Test.YteihdclpiekmaaaEngG
namespace Go.Dec
open Go Go.RowKit

section
variable {q : Md} {P : Program} {N : Nat} {ds : List Deferred} {B : Bs} {H : Hp} {ops : List Oper} {Q : Exit → Act → World → Prop} {rest : List Oper} {f : Nat → Value} {bs : List (Nat × Obj)} {gs : List GS}
variable {d : Nat} {t : TypeId} {p : String} {af : Array Edge} {g : Option (Nat × Bool)}

/-- what an own slice holds is one cell -/
theorem JL.oneG {l : List Oper} (j : Nat) {gq : GS} (hj : gs[j]? = some gq) (h : gq.v.oneCell' = true ∧ vcells gq.v = [gq.v] → JL .plain P N ds B H ops Q l f bs gs) : JL .plain P N ds B H ops Q l f bs gs := fun a w ha hs => by
  refine h ?_ a w ha hs
  obtain ⟨_, hr⟩ := hs.row gq (List.mem_of_getElem? hj)
  rcases hr with ⟨hv, _⟩ | ⟨b, cap, cur, hv, _⟩ <;> rw [hv] <;> exact ⟨rfl, rfl⟩
theorem JL.formG {l : List Oper} (j : Nat) {gq : GS} (hj : gs[j]? = some gq) (h : ∀ a n c, gq.v = .slice a n c → JL .plain P N ds B H ops Q l f bs gs) : JL .plain P N ds B H ops Q l f bs gs := fun a w ha hs => by
  obtain ⟨_, hr⟩ := hs.row gq (List.mem_of_getElem? hj)
  rcases hr with ⟨hv, _⟩ | ⟨b, cap, cur, hv, _⟩
  · exact h _ _ _ hv a w ha hs
  · exact h _ _ _ hv a w ha hs
theorem SL.vc {α : Type} {H : Hp} {sz : Nat} {R : Rl α} {v : Value} {l : List α} (hs : SL H sz R v l) : vcells v = [v] := by
  obtain ⟨a, c, rfl, _⟩ := hs; rfl

def slc {α : Type} (l : List α) (lo hi : Int) : Option (List α) := if 0 ≤ lo ∧ lo ≤ hi ∧ hi ≤ l.length then some ((l.take hi.toNat).drop lo.toNat) else none

theorem SL.slc {α : Type} {sz : Nat} {R : Rl α} {a : Option Addr} {n c : Nat} {l m : List α} {lo hi : Int} (hs : SL H sz R (.slice a n c) l) (hm : slc l lo hi = some m) :
    n = l.length ∧ n ≤ c ∧ 0 ≤ lo ∧ lo ≤ hi ∧ hi ≤ n ∧ SL H sz R (.slice (if c = lo.toNat then a else a.map (·.add (lo.toNat * sz))) (hi.toNat - lo.toNat) (c - lo.toNat)) m := by
  obtain ⟨a', c', hv, ⟨h1, h2⟩, h3⟩ := hs
  cases hv
  unfold Dec.slc at hm
  split at hm
  · rename_i hb
    obtain ⟨k0, k1, k2⟩ := hb
    cases hm
    refine ⟨rfl, h2, k0, k1, k2, ?_⟩
    have hlen : ((l.take hi.toNat).drop lo.toNat).length = hi.toNat - lo.toNat := by simp; omega
    refine ⟨_, _, by rw [hlen], ⟨by rw [hlen]; omega, by rw [hlen]; omega⟩, ?_⟩
    by_cases hc : c = lo.toNat
    · left
      apply List.eq_nil_of_length_eq_zero
      rw [hlen]; omega
    · rcases h3 with rfl | ⟨b, o, rfl, h5⟩
      · left; simp
      · right
        refine ⟨b, o + lo.toNat * sz, by rw [if_neg hc]; simp [Addr.add_mid], fun i x hi' => ?_⟩
        rw [List.getElem?_drop, List.getElem?_take] at hi'
        split at hi'
        · obtain ⟨cs, e1, e2, e3⟩ := h5 _ x hi'
          exact ⟨cs, by rw [Nat.add_mul] at e1; rw [Nat.add_assoc]; exact e1, e2, e3⟩
        · cases hi'
  · cases hm

theorem run_bound {x : Value} {k : IntKind} {i : Int} {y : Nat} {code : BoundsCode} (hx : x = .int k i) (h0 : 0 ≤ i) (h1 : i ≤ y) (w : World) : (Instr.sliceBound x y code).run P w = .ok i.toNat w := by
  subst hx
  simp [Instr.sliceBound, asIntOf, h0, h1]

theorem JL.sliceLo {α : Type} {tx e : TypeId} {x lo : Operand} {k : IntKind} {i : Int} {sz : Nat} {R : Rl α} {l m : List α} (ht : slT P tx = some (e, sz)) (hs : SL H sz R (ev f x) l) (hlo : ev f lo = .int k i) (hm : slc l i l.length = some m) (hw : Want ops f g) (hd : Nat.blt d N = true)
    (h : ∀ v, SL H sz R v m → JL q P N ds B H ops Q rest (upd f d v) bs gs) : JL q P N ds B H ops Q (⟨some d, .slice tx x (some lo) none none, t, p, af, g⟩ :: rest) f bs gs := by
  obtain ⟨a, c, hv, hl, h3⟩ := id hs
  rw [hv] at hs
  obtain ⟨h1, h2, k0, k1, k2, h4⟩ := hs.slc hm
  refine .val hw hd (fun w _ => ?_) (h _ h4)
  unfold slT at ht
  split at ht
  · rename_i e' hu
    split at ht
    · rename_i ti hti
      simp only [Option.some.injEq, Prod.mk.injEq] at ht
      obtain ⟨rfl, rfl⟩ := ht
      have k1' : i ≤ ((l.length : Nat) : Int) := k1
      simp [execOp, hv, Instr.sliceAt, Instr.slice, Instr.sliceBounds, run_bound hlo k0 k1', run_underlying hu, sizeOf, typeInfo, hti]
    · cases ht
  · cases ht
theorem JL.sliceHi {α : Type} {tx e : TypeId} {x hi : Operand} {k : IntKind} {i : Int} {sz : Nat} {R : Rl α} {l m : List α} (ht : slT P tx = some (e, sz)) (hs : SL H sz R (ev f x) l) (hhi : ev f hi = .int k i) (hm : slc l 0 i = some m) (hw : Want ops f g) (hd : Nat.blt d N = true)
    (h : ∀ v, SL H sz R v m → JL q P N ds B H ops Q rest (upd f d v) bs gs) : JL q P N ds B H ops Q (⟨some d, .slice tx x none (some hi) none, t, p, af, g⟩ :: rest) f bs gs := by
  obtain ⟨a, c, hv, hl, h3⟩ := id hs
  rw [hv] at hs
  obtain ⟨h1, h2, k0, k1, k2, h4⟩ := hs.slc hm
  refine .val hw hd (fun w _ => ?_) (h _ h4)
  unfold slT at ht
  split at ht
  · rename_i e' hu
    split at ht
    · rename_i ti hti
      simp only [Option.some.injEq, Prod.mk.injEq] at ht
      obtain ⟨rfl, rfl⟩ := ht
      have k2' : i ≤ ((c : Nat) : Int) := by omega
      have ha : Option.map (fun x => Addr.add x 0) a = a := by cases a <;> simp [Addr.add]
      simp [ha, execOp, hv, Instr.sliceAt, Instr.slice, Instr.sliceBounds, run_bound hhi k1 k2', run_underlying hu, sizeOf, typeInfo, hti]
    · cases ht
  · cases ht
theorem JL.sliceLoHi {α : Type} {tx e : TypeId} {x lo hi : Operand} {k k' : IntKind} {i j : Int} {sz : Nat} {R : Rl α} {l m : List α} (ht : slT P tx = some (e, sz)) (hs : SL H sz R (ev f x) l) (hlo : ev f lo = .int k i) (hhi : ev f hi = .int k' j) (hm : slc l i j = some m) (hw : Want ops f g) (hd : Nat.blt d N = true)
    (h : ∀ v, SL H sz R v m → JL q P N ds B H ops Q rest (upd f d v) bs gs) : JL q P N ds B H ops Q (⟨some d, .slice tx x (some lo) (some hi) none, t, p, af, g⟩ :: rest) f bs gs := by
  obtain ⟨a, c, hv, hl, h3⟩ := id hs
  rw [hv] at hs
  obtain ⟨h1, h2, k0, k1, k2, h4⟩ := hs.slc hm
  refine .val hw hd (fun w _ => ?_) (h _ h4)
  unfold slT at ht
  split at ht
  · rename_i e' hu
    split at ht
    · rename_i ti hti
      simp only [Option.some.injEq, Prod.mk.injEq] at ht
      obtain ⟨rfl, rfl⟩ := ht
      have k2' : j ≤ ((c : Nat) : Int) := by omega
      have k1' : i ≤ ((j.toNat : Nat) : Int) := by omega
      simp [execOp, hv, Instr.sliceAt, Instr.slice, Instr.sliceBounds, run_bound hhi (Int.le_trans k0 k1) k2', run_bound hlo k0 k1', run_underlying hu, sizeOf, typeInfo, hti]
    · cases ht
  · cases ht

theorem run_equalIn_nil (w : World) (k : Nat) {tx e : TypeId} {a : Option Addr} {n c : Nat} (ht : P.underlying tx = some (.slice e)) : (Op.equalIn (k + 1) tx (.slice a n c) (.slice none 0 0)).run P w = .ok a.isNone w := by
  cases a <;> simp [Op.equalIn, run_underlying ht]
/-- is a slice nil? -/
theorem JL.eqNil {tx ty e : TypeId} {x y : Operand} {a : Option Addr} {n c : Nat} (ht : P.underlying tx = some (.slice e)) (hx : ev f x = .slice a n c) (hy : ev f y = .slice none 0 0) (hw : Want ops f g) (hd : Nat.blt d N = true)
    (h : JL q P N ds B H ops Q rest (upd f d (.bool a.isNone)) bs gs) : JL q P N ds B H ops Q (⟨some d, .binOp .eql tx x y ty, t, p, af, g⟩ :: rest) f bs gs :=
  .val hw hd (fun w _ => by
    unfold execOp
    simp only [hx, hy, binOp]
    have := run_equalIn_nil (P := P) w 9999 (a := a) (n := n) (c := c) ht
    simp [Op.equal, Op.maxDepth, eqGuard, this]) h
end
end Go.Dec
