/-
  Equality of structs; pointers that may be nil; own blocks in another order.
-/
import Derived.Test.YteihdclpiekmaaaEngF
namespace Go.Dec
open Go Go.RowKit

section
variable {q : Md} {P : Program} {N : Nat} {ds : List Deferred} {B : Bs} {H : Hp} {ops : List Oper} {Q : Exit → Act → World → Prop} {rest : List Oper} {f : Nat → Value} {bs : List (Nat × Obj)} {gs : List GS}
variable {d : Nat} {t : TypeId} {p : String} {af : Array Edge} {g : Option (Nat × Bool)}

theorem JL.eqAgg {tx ty : TypeId} {x y : Operand} {l m : List Value} {r : Bool} (hg : P.eqGuardType P.depth tx = false) (hx : ev f x = .agg l.toArray) (hy : ev f y = .agg m.toArray) (hr : ∀ w, (Op.equal tx (.agg l.toArray) (.agg m.toArray)).run P w = .ok r w) (hw : Want ops f g) (hd : Nat.blt d N = true)
    (h : JL q P N ds B H ops Q rest (upd f d (.bool r)) bs gs) : JL q P N ds B H ops Q (⟨some d, .binOp .eql tx x y ty, t, p, af, g⟩ :: rest) f bs gs :=
  .val hw hd (fun w _ => by
    unfold execOp; simp only [hx, hy, eqGuard, binOp]; simp [run_program, hg, hr]) h
theorem JL.neAgg {tx ty : TypeId} {x y : Operand} {l m : List Value} {r : Bool} (hg : P.eqGuardType P.depth tx = false) (hx : ev f x = .agg l.toArray) (hy : ev f y = .agg m.toArray) (hr : ∀ w, (Op.equal tx (.agg l.toArray) (.agg m.toArray)).run P w = .ok r w) (hw : Want ops f g) (hd : Nat.blt d N = true)
    (h : JL q P N ds B H ops Q rest (upd f d (.bool (!r))) bs gs) : JL q P N ds B H ops Q (⟨some d, .binOp .neq tx x y ty, t, p, af, g⟩ :: rest) f bs gs :=
  .val hw hd (fun w _ => by
    unfold execOp; simp only [hx, hy, eqGuard, binOp]; simp [run_program, hg, hr]) h

/-- own blocks: two neighbours change places -/
def swapAt {α : Type} : Nat → List α → List α
  | 0, a :: b :: l => b :: a :: l
  | n + 1, a :: l => a :: swapAt n l
  | _, l => l
theorem swapAt_perm {α : Type} : ∀ (n : Nat) (l : List α), l.Perm (swapAt n l)
  | 0, [] => by simp [swapAt]
  | 0, [a] => by simp [swapAt]
  | 0, a :: b :: l => List.Perm.swap b a l
  | n + 1, [] => by simp [swapAt]
  | n + 1, a :: l => (swapAt_perm n l).cons a
theorem JQ.swap {e : Exit} (n : Nat) (h : JQ N ds B H e Q f (swapAt n bs) gs) : JQ N ds B H e Q f bs gs := fun hQ a w ha hs => h hQ a w ha (hs.perm (swapAt_perm n bs))
end

/-- a pointer that may be nil, to data -/
def PT {α : Type} (H : Hp) (R : Rl α) (v : Value) : Option α → Prop
  | none => v = .pointer none
  | some x => ∃ b o cs, v = .pointer (some ⟨b, o, none⟩) ∧ Cells H b o cs ∧ R H cs x
theorem PT.mono {α : Type} {H H' : Hp} {R : Rl α} (hR : Mono R) (h : HSub H H') {v : Value} : ∀ {o : Option α}, PT H R v o → PT H' R v o
  | none, hp => hp
  | some _, ⟨b, o, cs, h1, h2, h3⟩ => ⟨b, o, cs, h1, h2.mono h, hR _ _ h _ _ h3⟩
end Go.Dec
