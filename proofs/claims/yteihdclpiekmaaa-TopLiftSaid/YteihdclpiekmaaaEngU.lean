/-
  More rules: least and greatest of four.
-/
import Derived.Test.YteihdclpiekmaaaEngT
namespace Go.Dec
open Go Go.RowKit
section
variable {q : Md} {P : Program} {N : Nat} {ds : List Deferred} {B : Bs} {H : Hp} {ops : List Oper} {Q : Exit → Act → World → Prop} {rest : List Oper} {f : Nat → Value} {bs : List (Nat × Obj)} {gs : List GS}
variable {d : Nat} {t : TypeId} {p : String} {af : Array Edge} {g : Option (Nat × Bool)}
theorem JL.min4 {tt : Array TypeId} {x y z u : Operand} {k : IntKind} {m n r s : Int} (hx : ev f x = .int k m) (hy : ev f y = .int k n) (hz : ev f z = .int k r) (hu : ev f u = .int k s) (hw : Want ops f g) (hd : Nat.blt d N = true)
    (h : JL q P N ds B H ops Q rest (upd f d (.int k (Min.min (Min.min (Min.min m n) r) s))) bs gs) : JL q P N ds B H ops Q (⟨some d, .call ⟨.builtin .min, #[x, y, z, u], tt⟩, t, p, af, g⟩ :: rest) f bs gs :=
  .val hw hd (fun w _ => by simp [execOp, resolve, invoke, builtin, Builtin.min_, hx, hy, hz, hu, go_sem, Builtin.min2]; omega) h
theorem JL.max4 {tt : Array TypeId} {x y z u : Operand} {k : IntKind} {m n r s : Int} (hx : ev f x = .int k m) (hy : ev f y = .int k n) (hz : ev f z = .int k r) (hu : ev f u = .int k s) (hw : Want ops f g) (hd : Nat.blt d N = true)
    (h : JL q P N ds B H ops Q rest (upd f d (.int k (Max.max (Max.max (Max.max m n) r) s))) bs gs) : JL q P N ds B H ops Q (⟨some d, .call ⟨.builtin .max, #[x, y, z, u], tt⟩, t, p, af, g⟩ :: rest) f bs gs :=
  .val hw hd (fun w _ => by simp [execOp, resolve, invoke, builtin, Builtin.max_, hx, hy, hz, hu, go_sem, Builtin.max2]; omega) h
end
end Go.Dec
