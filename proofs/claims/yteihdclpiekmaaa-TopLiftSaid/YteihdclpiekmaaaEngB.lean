/-
  The logic's rules for single operations.
-/
import Derived.Test.YteihdclpiekmaaaEngA
import Derived.Deep.MidRow
import Derived.OrdersHeld
namespace Go.Dec
open Go Go.RowKit

/-- how a list of operations is gone through: in the text's order · each quiet · each to be taken first -/
inductive Md where
  | plain
  | quiet (K : Act → Prop)
  | first (K : Act → Prop)
def Md.calls : Md → Bool
  | .first _ => false
  | _ => true
def wpFirst (P : Program) (ops : Array Oper) (S : World → Prop) (K : Act → Prop) : List Oper → Act → Prop
  | [], a => K a
  | o :: rest, a => ∃ v, YieldsIf P ops S o v a ∧ wpFirst P ops S K rest (a.put o.dst v)
/-- a list of operations, from a symbolic state -/
def JL (q : Md) (P : Program) (N : Nat) (ds : List Deferred) (B : Bs) (H : Hp) (ops : List Oper) (Q : Exit → Act → World → Prop) (l : List Oper) (f : Nat → Value) (bs : List (Nat × Obj)) (gs : List GS) : Prop :=
  match q with
  | .plain => ∀ a w, Fr N ds a f → St B H bs gs w → wpList P ops.toArray Q l a w
  | .quiet K => ∀ a, Fr N ds a f → wpQuiet P ops.toArray (St B H bs gs) K l a
  | .first K => ∀ a, Fr N ds a f → wpFirst P ops.toArray (St B H bs gs) K l a

/-- is the operation wanted? -/
inductive Want (ops : List Oper) (f : Nat → Value) : Option (Nat × Bool) → Prop
  | none : Want ops f none
  | some {j d : Nat} {b e : Bool} {o : Oper} (h1 : ops[j]? = some o) (h2 : o.dst = some d) (h3 : f d = .bool e) (h4 : e = b) : Want ops f (some (j, b))
inductive Skip (ops : List Oper) (f : Nat → Value) : Option (Nat × Bool) → Prop
  | bool {j d : Nat} {b e : Bool} {o : Oper} (h1 : ops[j]? = some o) (h2 : o.dst = some d) (h3 : f d = .bool e) (h4 : e = !b) : Skip ops f (some (j, b))
  | no {j d : Nat} {b : Bool} {o : Oper} (h1 : ops[j]? = some o) (h2 : o.dst = some d) (h3 : f d = Go.undef) : Skip ops f (some (j, b))

section
variable {q : Md} {P : Program} {N : Nat} {ds : List Deferred} {B : Bs} {H : Hp} {ops : List Oper} {Q : Exit → Act → World → Prop} {rest : List Oper} {f : Nat → Value} {bs : List (Nat × Obj)} {gs : List GS}
variable {d : Nat} {t : TypeId} {p : String} {af : Array Edge} {g : Option (Nat × Bool)}

theorem yielded_fr {a : Act} (ha : Fr N ds a f) {j d : Nat} {o : Oper} (h1 : ops[j]? = some o) (h2 : o.dst = some d) : yielded ops.toArray a.tmps j = (match f d with | .bool b => some b | _ => none) := by
  unfold yielded
  simp only [List.getElem?_toArray, h1, h2, Option.bind_some]
  have := ha.get d
  rw [Array.getD_eq_getD_getElem?] at this
  cases hd : a.tmps[d]? with
  | none => simp only [hd, Option.getD_none] at this; rw [← this]; simp [undef]
  | some v => simp only [hd, Option.getD_some] at this; rw [← this]; cases v <;> rfl

theorem Want.wanted {a : Act} (ha : Fr N ds a f) {o : Oper} (hw : Want ops f o.guard) : Region.wanted o (yielded ops.toArray a.tmps) = true := by
  unfold Region.wanted
  cases hg : o.guard with
  | none => rfl
  | some x =>
    rw [hg] at hw
    cases hw with
    | some h1 h2 h3 h4 => simp [yielded_fr ha h1 h2, h3, h4]

theorem Skip.wanted {a : Act} (ha : Fr N ds a f) {o : Oper} (hw : Skip ops f o.guard) : Region.wanted o (yielded ops.toArray a.tmps) = false := by
  unfold Region.wanted
  cases hg : o.guard with
  | none => rw [hg] at hw; cases hw
  | some x =>
    rw [hg] at hw
    cases hw with
    | bool h1 h2 h3 h4 => simp [yielded_fr ha h1 h2, h3, h4]
    | no h1 h2 h3 => simp [yielded_fr ha h1 h2, h3, undef]

theorem JL.nil (h : ∀ a w, Fr N ds a f → St B H bs gs w → Q .normal a w) : JL .plain P N ds B H ops Q [] f bs gs := fun a w ha hw => wpList_nil (h a w ha hw)

theorem JL.skip {op : Op} (hs : Skip ops f g) (hd : Nat.blt d N = true) (h : JL q P N ds B H ops Q rest (upd f d undef) bs gs) : JL q P N ds B H ops Q (⟨some d, op, t, p, af, g⟩ :: rest) f bs gs := by
  match q with
  | .plain =>
    intro a w ha hw
    unfold wpList
    rw [if_neg (by rw [Skip.wanted ha (o := ⟨some d, op, t, p, af, g⟩) hs]; exact Bool.false_ne_true)]
    exact h _ _ (ha.put hd _) hw
  | .quiet K =>
    intro a ha
    unfold wpQuiet
    rw [if_neg (by rw [Skip.wanted ha (o := ⟨some d, op, t, p, af, g⟩) hs]; exact Bool.false_ne_true)]
    exact h _ (ha.put hd _)
  | .first K =>
    intro a ha
    exact ⟨undef, .inr ⟨Skip.wanted ha (o := ⟨some d, op, t, p, af, g⟩) hs, rfl⟩, h _ (ha.put hd _)⟩

/-- one operation that is carried out -/
theorem JL.step {o : Oper} (hw : Want ops f o.guard) (h : ∀ a w, Fr N ds a f → St B H bs gs w → o.wp P a w (wpList P ops.toArray Q rest) Q) : JL .plain P N ds B H ops Q (o :: rest) f bs gs := fun a w ha hs => by
  unfold wpList
  rw [if_pos (Want.wanted ha hw)]
  exact .inl (h a w ha hs)

theorem JL.val {op : Op} {v : Value} (hw : Want ops f g) (hd : Nat.blt d N = true)
    (hrun : ∀ w, St B H bs gs w → (execOp (ev f) ⟨some d, op, t, p, af, g⟩).run P w = .ok (.value v) w)
    (h : JL q P N ds B H ops Q rest (upd f d v) bs gs) : JL q P N ds B H ops Q (⟨some d, op, t, p, af, g⟩ :: rest) f bs gs := by
  match q with
  | .plain =>
    exact .step hw fun a w ha hs => by
      unfold Oper.wp
      rw [ha.eval, hrun w hs]
      exact h _ _ (ha.put hd v) hs
  | .quiet K =>
    intro a ha
    unfold wpQuiet
    rw [if_pos (Want.wanted ha (o := ⟨some d, op, t, p, af, g⟩) hw)]
    refine ⟨v, fun w hs => ?_, h _ (ha.put hd v)⟩
    unfold Oper.quietAt
    rw [ha.eval, hrun w hs]
    exact ⟨rfl, rfl⟩
  | .first K =>
    intro a ha
    refine ⟨v, .inl ⟨Want.wanted ha (o := ⟨some d, op, t, p, af, g⟩) hw, fun w hs => ?_⟩, h _ (ha.put hd v)⟩
    rw [ha.eval, hrun w hs]

/-! ### operations that touch no memory -/
theorem JL.move {x : Operand} (hw : Want ops f g) (hd : Nat.blt d N = true) (h : JL q P N ds B H ops Q rest (upd f d (ev f x)) bs gs) : JL q P N ds B H ops Q (⟨some d, .move x, t, p, af, g⟩ :: rest) f bs gs :=
  .val hw hd (fun w _ => by simp [execOp]) h
theorem JL.assign {x : Operand} (hw : Want ops f g) (hd : Nat.blt d N = true) (h : JL q P N ds B H ops Q rest (upd f d (ev f x)) bs gs) : JL q P N ds B H ops Q (⟨some d, .assign x, t, p, af, g⟩ :: rest) f bs gs :=
  .val hw hd (fun w _ => by simp [execOp]) h
theorem JL.pick {c x y : Operand} {b : Bool} (hc : ev f c = .bool b) (hw : Want ops f g) (hd : Nat.blt d N = true) (h : JL q P N ds B H ops Q rest (upd f d (bif b then ev f x else ev f y)) bs gs) : JL q P N ds B H ops Q (⟨some d, .pick c x y, t, p, af, g⟩ :: rest) f bs gs :=
  .val hw hd (fun w _ => by cases b <;> simp [execOp, hc, asBool]) h

/-- what an operator on two integers of one kind gives -/
def ibin (op : BinOp) (k : IntKind) (m n : Int) : Option Value :=
  match op with
  | .add => some (.int k (k.wrap (m + n)))
  | .sub => some (.int k (k.wrap (m - n)))
  | .mul => some (.int k (k.wrap (m * n)))
  | .eql => some (.bool (m == n))
  | .neq => some (.bool (m != n))
  | .lss => some (.bool (decide (m < n)))
  | .leq => some (.bool (decide (m ≤ n)))
  | .gtr => some (.bool (decide (n < m)))
  | .geq => some (.bool (decide (n ≤ m)))
  | _ => none

theorem JL.bin {op : BinOp} {tx ty : TypeId} {x y : Operand} {k : IntKind} {m n : Int} {v : Value} (hx : ev f x = .int k m) (hy : ev f y = .int k n) (hv : ibin op k m n = some v) (hw : Want ops f g) (hd : Nat.blt d N = true)
    (h : JL q P N ds B H ops Q rest (upd f d v) bs gs) : JL q P N ds B H ops Q (⟨some d, .binOp op tx x y ty, t, p, af, g⟩ :: rest) f bs gs :=
  .val hw hd (fun w _ => by
    cases op <;> simp [ibin] at hv <;> subst hv <;> simp [execOp, hx, hy, eqGuard, binOp, Op.intArith, Op.intCmp, go_sem]) h

theorem JL.div {op : BinOp} {tx ty : TypeId} {x y : Operand} {k : IntKind} {m n : Int} {v : Value} (hx : ev f x = .int k m) (hy : ev f y = .int k n) (h0 : n ≠ 0)
    (hv : (match op with | .quo => some (Value.int k (k.wrap (m.tdiv n))) | .rem => some (Value.int k (m.tmod n)) | _ => none) = some v) (hw : Want ops f g) (hd : Nat.blt d N = true)
    (h : JL q P N ds B H ops Q rest (upd f d v) bs gs) : JL q P N ds B H ops Q (⟨some d, .binOp op tx x y ty, t, p, af, g⟩ :: rest) f bs gs :=
  .val hw hd (fun w _ => by
    cases op <;> simp at hv <;> subst hv <;> simp [execOp, hx, hy, eqGuard, binOp, Op.intDiv, h0]) h

theorem run_equalIn_bool (w : World) (d : Nat) {tx : TypeId} (m n : Bool) (ht : P.underlying tx = some .bool) : (Op.equalIn (d + 1) tx (.bool m) (.bool n)).run P w = .ok (m == n) w := by
  simp [Op.equalIn, run_underlying ht]
theorem run_eqBool (w : World) {tx : TypeId} (m n : Bool) (ht : P.underlying tx = some .bool) : (binOp .eql tx (.bool m) (.bool n)).run P w = .ok (.bool (m == n)) w ∧ (binOp .neq tx (.bool m) (.bool n)).run P w = .ok (.bool (m != n)) w := by
  constructor <;> simp only [binOp] <;> simp [Op.equal, Op.maxDepth, run_equalIn_bool w 9999 m n ht] <;> (cases m <;> cases n <;> rfl)
theorem JL.eqBool {tx ty : TypeId} {x y : Operand} {m n : Bool} (ht : P.underlying tx = some .bool) (hx : ev f x = .bool m) (hy : ev f y = .bool n) (hw : Want ops f g) (hd : Nat.blt d N = true)
    (h : JL q P N ds B H ops Q rest (upd f d (.bool (m == n))) bs gs) : JL q P N ds B H ops Q (⟨some d, .binOp .eql tx x y ty, t, p, af, g⟩ :: rest) f bs gs :=
  .val hw hd (fun w _ => by
    unfold execOp; simp only [hx, hy, eqGuard]; simp [(run_eqBool w m n ht).1]) h
theorem JL.neBool {tx ty : TypeId} {x y : Operand} {m n : Bool} (ht : P.underlying tx = some .bool) (hx : ev f x = .bool m) (hy : ev f y = .bool n) (hw : Want ops f g) (hd : Nat.blt d N = true)
    (h : JL q P N ds B H ops Q rest (upd f d (.bool (m != n))) bs gs) : JL q P N ds B H ops Q (⟨some d, .binOp .neq tx x y ty, t, p, af, g⟩ :: rest) f bs gs :=
  .val hw hd (fun w _ => by
    unfold execOp; simp only [hx, hy, eqGuard]; simp [(run_eqBool w m n ht).2]) h

theorem JL.not {tx : TypeId} {x : Operand} {b : Bool} (hx : ev f x = .bool b) (hw : Want ops f g) (hd : Nat.blt d N = true)
    (h : JL q P N ds B H ops Q rest (upd f d (.bool (!b))) bs gs) : JL q P N ds B H ops Q (⟨some d, .unOp .not tx x, t, p, af, g⟩ :: rest) f bs gs :=
  .val hw hd (fun w _ => by simp [execOp, hx, Op.unary]) h
theorem JL.neg {tx : TypeId} {x : Operand} {k : IntKind} {n : Int} (hx : ev f x = .int k n) (hw : Want ops f g) (hd : Nat.blt d N = true)
    (h : JL q P N ds B H ops Q rest (upd f d (.int k (k.wrap (-n)))) bs gs) : JL q P N ds B H ops Q (⟨some d, .unOp .neg tx x, t, p, af, g⟩ :: rest) f bs gs :=
  .val hw hd (fun w _ => by simp [execOp, hx, Op.unary, Op.intArith]) h

theorem JL.len {tx e : TypeId} {x : Operand} {a : Option Addr} {n c : Nat} (ht : P.underlying tx = some (.slice e)) (hx : ev f x = .slice a n c) (hw : Want ops f g) (hd : Nat.blt d N = true)
    (h : JL q P N ds B H ops Q rest (upd f d (.int .i64 n)) bs gs) : JL q P N ds B H ops Q (⟨some d, .call ⟨.builtin .len, #[x], #[tx]⟩, t, p, af, g⟩ :: rest) f bs gs :=
  .val hw hd (fun w _ => by simp [execOp, resolve, invoke, builtin, Builtin.len_, hx, goInt, run_underlying ht]) h
theorem JL.min {tt : Array TypeId} {x y : Operand} {k : IntKind} {m n : Int} (hx : ev f x = .int k m) (hy : ev f y = .int k n) (hw : Want ops f g) (hd : Nat.blt d N = true)
    (h : JL q P N ds B H ops Q rest (upd f d (.int k (Min.min m n))) bs gs) : JL q P N ds B H ops Q (⟨some d, .call ⟨.builtin .min, #[x, y], tt⟩, t, p, af, g⟩ :: rest) f bs gs :=
  .val hw hd (fun w _ => by simp [execOp, resolve, invoke, builtin, Builtin.min_, hx, hy, go_sem, Builtin.min2]; omega) h
theorem JL.max {tt : Array TypeId} {x y : Operand} {k : IntKind} {m n : Int} (hx : ev f x = .int k m) (hy : ev f y = .int k n) (hw : Want ops f g) (hd : Nat.blt d N = true)
    (h : JL q P N ds B H ops Q rest (upd f d (.int k (Max.max m n))) bs gs) : JL q P N ds B H ops Q (⟨some d, .call ⟨.builtin .max, #[x, y], tt⟩, t, p, af, g⟩ :: rest) f bs gs :=
  .val hw hd (fun w _ => by simp [execOp, resolve, invoke, builtin, Builtin.max_, hx, hy, go_sem, Builtin.max2]; omega) h

theorem JL.extract {x : Operand} {i : Nat} {vs : List Value} {v : Value} (hx : ev f x = .tuple vs.toArray) (hv : vs[i]? = some v) (hw : Want ops f g) (hd : Nat.blt d N = true)
    (h : JL q P N ds B H ops Q rest (upd f d v) bs gs) : JL q P N ds B H ops Q (⟨some d, .extract x i, t, p, af, g⟩ :: rest) f bs gs :=
  .val hw hd (fun w _ => by simp [execOp, hx, Instr.extract, hv]) h
theorem JL.nilCheck {x : Operand} {a : Addr} (hx : ev f x = .pointer (some a)) (hw : Want ops f g) (hd : Nat.blt d N = true)
    (h : JL q P N ds B H ops Q rest (upd f d (.pointer (some a))) bs gs) : JL q P N ds B H ops Q (⟨some d, .nilCheck x, t, p, af, g⟩ :: rest) f bs gs :=
  .val hw hd (fun w _ => by simp [execOp, hx]) h
theorem JL.makeFunc {fn : Fn} {l1 l2 : List Operand} (hw : Want ops f g) (hd : Nat.blt d N = true)
    (h : JL q P N ds B H ops Q rest (upd f d (.func fn (l1.map (ev f)).toArray (l2.map (ev f)).toArray)) bs gs) : JL q P N ds B H ops Q (⟨some d, .makeFunc fn l1.toArray l2.toArray, t, p, af, g⟩ :: rest) f bs gs :=
  .val hw hd (fun w _ => by simp [execOp, Instr.makeFunc]) h
end

/-! ### types -/
/-- is it a struct or an array, and of how many cells? -/
def aggsz (P : Program) (t : TypeId) : Option (Bool × Nat) :=
  match P.underlying t, P.info? t with
  | some d, some i => some (d.isRow, i.size)
  | _, _ => none
def loadw : Bool × Nat → List Value → Nat → Option Value
  | (true, n), l, off => bif Nat.ble (off + n) l.length then some (.agg ((l.drop off).take n).toArray) else none
  | (false, _), l, off => l[off]?
def fieldOff (P : Program) (s : TypeId) (i : Nat) : Option Nat :=
  match P.underlying s with
  | some (.struct fs) => (match fs[i]? with
    | some fl => (match P.info? fl.type with | some ti => bif Nat.beq ti.size 0 then none else some fl.offset | none => none)
    | none => none)
  | _ => none
def fieldTy (P : Program) (s : TypeId) (i : Nat) : Option (TypeId × Nat) :=
  match P.underlying s with
  | some (.struct fs) => (match fs[i]? with | some fl => some (fl.type, fl.offset) | none => none)
  | _ => none
/-- a slice type's element: type, cells -/
def slT (P : Program) (t : TypeId) : Option (TypeId × Nat) :=
  match P.underlying t with
  | some (.slice e) => (match P.info? e with | some i => some (e, i.size) | none => none)
  | _ => none

section
variable {P : Program} {w : World}
theorem run_isAgg_of {t : TypeId} {r : Bool} {n : Nat} (h : aggsz P t = some (r, n)) : (isAgg t).run P w = .ok r w ∧ (sizeOf t).run P w = .ok n w ∧ ∃ i, P.info? t = some i ∧ i.size = n := by
  unfold aggsz at h
  split at h
  · rename_i d i hu hi
    simp only [Option.some.injEq, Prod.mk.injEq] at h
    obtain ⟨rfl, rfl⟩ := h
    refine ⟨?_, by simp [sizeOf, typeInfo, hi], i, hi, rfl⟩
    unfold isAgg
    rw [Sem.run_bind, run_underlying hu w]
    cases d <;> simp [TypeDesc.isRow]
  · cases h

/-- the cells from an offset on -/
def Has (w : World) (b off : Nat) (l : List Value) : Prop := ∀ j v, l[j]? = some v → w.cell? ⟨b, off + j, none⟩ = some v

theorem run_load_of {t : TypeId} {z : Bool × Nat} {b o k : Nat} {l : List Value} {v : Value} (hz : aggsz P t = some z) (hl : Has w b o l) (hv : loadw z l k = some v) :
    (Instr.loadAt t (.pointer (some ⟨b, o + k, none⟩))).run P w = .ok v w := by
  obtain ⟨r, n⟩ := z
  obtain ⟨h1, h2, _⟩ := run_isAgg_of (w := w) hz
  cases r with
  | false =>
    have := hl k v hv
    simp [Instr.loadAt, Instr.sureAddr, loadVar, h1, load, Sem.run, this]
  | true =>
    unfold loadw at hv
    cases hb : Nat.ble (k + n) l.length with
    | false => simp [hb] at hv
    | true =>
      simp only [hb, cond_true, Option.some.injEq] at hv
      subst hv
      have hle : k + n ≤ l.length := Nat.le_of_ble_eq_true hb
      have hlen : ((l.drop k).take n).length = n := by simp; omega
      have hcs : (loadCells ⟨b, o + k, none⟩ n).run P w = .ok ((l.drop k).take n).toArray w := by
        have := run_loadCells_list (P := P) w ⟨b, o + k, none⟩ ((l.drop k).take n) (fun j u hu => by
          rw [Addr.add_mid, Nat.add_assoc]
          refine hl (k + j) u ?_
          rw [List.getElem?_take] at hu
          split at hu
          · simpa using hu
          · cases hu)
        rwa [hlen] at this
      simp only [Instr.loadAt, Instr.sureAddr, loadVar, Sem.run_bind, Sem.run_pure, Result.andThen_ok, h1, h2, hcs, if_true]

theorem cell_of_cells {b : Nat} {c : Array Value} {e : TypeId} {fz : Nat × Nat} (h : w.heap[b]? = some (.cells c e fz)) (i : Nat) : w.cell? ⟨b, i, none⟩ = c[i]? := by
  simp [World.cell?, h]
end

/-! ### data -/
/-- frozen: block b holds the cells l from o on -/
def Cells (H : Hp) (b o : Nat) (l : List Value) : Prop := ∃ c e fz, H b = some (.cells c e fz) ∧ ∀ j v, l[j]? = some v → c[o + j]? = some v
theorem Cells.mono {H H' : Hp} (h : HSub H H') {b o : Nat} {l : List Value} (hc : Cells H b o l) : Cells H' b o l := by
  obtain ⟨c, e, fz, h1, h2⟩ := hc; exact ⟨c, e, fz, h _ _ h1, h2⟩
theorem Cells.has {H : Hp} {w : World} (hH : HLe H w) {b o : Nat} {l : List Value} (hc : Cells H b o l) : Has w b o l := by
  obtain ⟨c, e, fz, h1, h2⟩ := hc
  intro j v hv
  rw [cell_of_cells (hH _ _ h1)]
  exact h2 j v hv

abbrev Rl (α : Type) := Hp → List Value → α → Prop
def Mono {α : Type} (R : Rl α) : Prop := ∀ H H', HSub H H' → ∀ cs x, R H cs x → R H' cs x
/-- a slice whose elements are read as l -/
def SL {α : Type} (H : Hp) (sz : Nat) (R : Rl α) (v : Value) (l : List α) : Prop :=
  ∃ a c, v = .slice a l.length c ∧ (l.length ≤ 9223372036854775807 ∧ l.length ≤ c) ∧ (l = [] ∨ ∃ b o, a = some ⟨b, o, none⟩ ∧ ∀ i x, l[i]? = some x → ∃ cs, Cells H b (o + i * sz) cs ∧ cs.length = sz ∧ R H cs x)
theorem SL.mono {α : Type} {H H' : Hp} {sz : Nat} {R : Rl α} (hR : Mono R) (h : HSub H H') {v : Value} {l : List α} (hs : SL H sz R v l) : SL H' sz R v l := by
  obtain ⟨a, c, h1, h2, h3⟩ := hs
  refine ⟨a, c, h1, h2, h3.imp id ?_⟩
  rintro ⟨b, o, h4, h5⟩
  exact ⟨b, o, h4, fun i x hi => let ⟨cs, k1, k2, k3⟩ := h5 i x hi; ⟨cs, k1.mono h, k2, hR _ _ h _ _ k3⟩⟩
theorem SL.one {α : Type} {H : Hp} {sz : Nat} {R : Rl α} {v : Value} {l : List α} (hs : SL H sz R v l) : v.oneCell' = true := by
  obtain ⟨a, c, rfl, _⟩ := hs; rfl
theorem SL.le {α : Type} {H : Hp} {sz : Nat} {R : Rl α} {v : Value} {l : List α} (hs : SL H sz R v l) : l.length ≤ 9223372036854775807 := by
  obtain ⟨a, c, _, h, _⟩ := hs; exact h.1
theorem SL.nil {α : Type} {H : Hp} {sz : Nat} {R : Rl α} : SL H sz R (.slice none 0 0) ([] : List α) := ⟨none, 0, rfl, by simp, .inl rfl⟩
def geti {α : Type} (l : List α) (i : Int) : Option α := if 0 ≤ i then l[i.toNat]? else none
def RInt : Rl Int := fun _ cs x => cs = [.int .i64 x]
theorem RInt.mono : Mono RInt := fun _ _ _ _ _ h => h
def RBool : Rl Bool := fun _ cs x => cs = [.bool x]
theorem RBool.mono : Mono RBool := fun _ _ _ _ _ h => h

/-! ### calls -/
/-- a call whose result is known, and that makes no data for the caller -/
def SC (P : Program) (k : Nat) (vs : List Value) (v : Value) (H : Hp) : Prop :=
  ∀ w, HLe H w → Calls P k vs.toArray w fun e w' => e = .returned v ∧ Below w.heap.size w w'
/-- a call whose result lies in new data -/
def HC (P : Program) (k : Nat) (vs : List Value) (H : Hp) (Res : Hp → Value → Prop) : Prop :=
  ∀ w, HLe H w → Calls P k vs.toArray w fun e w' => ∃ H' v, e = .returned v ∧ HSub H H' ∧ (∀ b, b < w.heap.size → H' b = H b) ∧ HLe H' w' ∧ Below w.heap.size w w' ∧ Res H' v
def Ent (P : Program) (k : Nat) : Prop := ∀ args w, (callFunc k args).run P w = .ok (.enter k args) w
theorem SC.mono {P : Program} {k : Nat} {vs : List Value} {v : Value} {H H' : Hp} (h : SC P k vs v H) (hs : HSub H H') : SC P k vs v H' :=
  fun w hw => h w fun b o hb => hw b o (hs b o hb)

section
variable {q : Md} {P : Program} {N : Nat} {ds : List Deferred} {B : Bs} {H : Hp} {ops : List Oper} {Q : Exit → Act → World → Prop} {rest : List Oper} {f : Nat → Value} {bs : List (Nat × Obj)} {gs : List GS}
variable {d : Nat} {t : TypeId} {p : String} {af : Array Edge} {g : Option (Nat × Bool)}

theorem St.has {w : World} (h : St B H bs gs w) {i b : Nat} {l : List Value} {e : TypeId} {fz : Nat × Nat} (hi : bs[i]? = some (b, .cells l.toArray e fz)) : Has w b 0 l := fun j v hv => by
  rw [cell_of_cells (h.own _ (List.mem_of_getElem? hi)).1]
  simpa using hv

theorem JL.loadOwn {tx : TypeId} {x : Operand} {z : Bool × Nat} (i : Nat) {b k : Nat} {l : List Value} {e : TypeId} {fz : Nat × Nat} {v : Value} (hz : aggsz P tx = some z) (hx : ev f x = .pointer (some ⟨b, k, none⟩))
    (hi : bs[i]? = some (b, .cells l.toArray e fz)) (hv : loadw z l k = some v) (hw : Want ops f g) (hd : Nat.blt d N = true)
    (h : JL q P N ds B H ops Q rest (upd f d v) bs gs) : JL q P N ds B H ops Q (⟨some d, .load tx x, t, p, af, g⟩ :: rest) f bs gs :=
  .val hw hd (fun w hs => by
    have := run_load_of (P := P) (w := w) (o := 0) hz (hs.has hi) hv
    rw [Nat.zero_add] at this
    simp [execOp, hx, this]) h

theorem JL.loadH {tx : TypeId} {x : Operand} {z : Bool × Nat} (k : Nat) {b o : Nat} {l : List Value} {v : Value} (hz : aggsz P tx = some z) (hx : ev f x = .pointer (some ⟨b, o + k, none⟩))
    (hc : Cells H b o l) (hv : loadw z l k = some v) (hw : Want ops f g) (hd : Nat.blt d N = true)
    (h : JL q P N ds B H ops Q rest (upd f d v) bs gs) : JL q P N ds B H ops Q (⟨some d, .load tx x, t, p, af, g⟩ :: rest) f bs gs :=
  .val hw hd (fun w hs => by
    have := run_load_of (P := P) (w := w) hz (hc.has hs.hle) hv
    simp [execOp, hx, this]) h

theorem run_fieldAt {s : TypeId} {i b o k : Nat} (hf : fieldOff P s i = some k) (w : World) : (Instr.fieldAt s (.pointer (some ⟨b, o, none⟩)) i).run P w = .ok (.pointer (some ⟨b, o + k, none⟩)) w := by
  unfold fieldOff at hf
  split at hf
  · rename_i fs hu
    split at hf
    · rename_i fl hfl
      split at hf
      · rename_i ti hti
        cases hb : Nat.beq ti.size 0 with
        | true => simp [hb] at hf
        | false =>
          simp only [hb, cond_false, Option.some.injEq] at hf
          subst hf
          have hne : ti.size ≠ 0 := fun e => by simp [e] at hb
          simp [Instr.fieldAt, run_underlying hu, hfl, Instr.sureAddr, fieldPlace, sizeOf, typeInfo, hti, hne, Addr.add_mid]
      · cases hf
    · cases hf
  · cases hf

theorem JL.fieldAddr {s : TypeId} {x : Operand} {i b o k : Nat} (hf : fieldOff P s i = some k) (hx : ev f x = .pointer (some ⟨b, o, none⟩)) (hw : Want ops f g) (hd : Nat.blt d N = true)
    (h : JL q P N ds B H ops Q rest (upd f d (.pointer (some ⟨b, o + k, none⟩))) bs gs) : JL q P N ds B H ops Q (⟨some d, .fieldAddr s x i, t, p, af, g⟩ :: rest) f bs gs :=
  .val hw hd (fun w _ => by simp [execOp, hx, run_fieldAt hf]) h

theorem JL.field {s ft : TypeId} {x : Operand} {i k : Nat} {z : Bool × Nat} {l : List Value} {v : Value} (hf : fieldTy P s i = some (ft, k)) (hz : aggsz P ft = some z) (hx : ev f x = .agg l.toArray) (hv : loadw z l k = some v) (hw : Want ops f g) (hd : Nat.blt d N = true)
    (h : JL q P N ds B H ops Q rest (upd f d v) bs gs) : JL q P N ds B H ops Q (⟨some d, .field s x i, t, p, af, g⟩ :: rest) f bs gs :=
  .val hw hd (fun w _ => by
    obtain ⟨r, n⟩ := z
    obtain ⟨h1, h2, _⟩ := run_isAgg_of (w := w) hz
    unfold fieldTy at hf
    split at hf
    · rename_i fs hu
      split at hf
      · rename_i fl hfl
        simp only [Option.some.injEq, Prod.mk.injEq] at hf
        obtain ⟨rfl, rfl⟩ := hf
        cases r with
        | false => simp only [loadw] at hv; simp [execOp, hx, Instr.field, run_underlying hu, hfl, asAgg, part, h1, hv]
        | true =>
          unfold loadw at hv
          cases hb : Nat.ble (fl.offset + n) l.length with
          | false => simp [hb] at hv
          | true =>
            simp only [hb, cond_true, Option.some.injEq] at hv
            subst hv
            simp [execOp, hx, Instr.field, run_underlying hu, hfl, asAgg, part, h1, h2]
      · cases hf
    · cases hf) h

theorem JL.indexSL {α : Type} {tx e : TypeId} {x ix : Operand} {k : IntKind} {i : Int} {sz : Nat} {R : Rl α} {l : List α} {y : α} (ht : slT P tx = some (e, sz)) (hs : SL H sz R (ev f x) l) (hi : ev f ix = .int k i) (hy : geti l i = some y) (hw : Want ops f g) (hd : Nat.blt d N = true)
    (h : ∀ b o cs, Cells H b o cs → cs.length = sz → R H cs y → JL q P N ds B H ops Q rest (upd f d (.pointer (some ⟨b, o, none⟩))) bs gs) : JL q P N ds B H ops Q (⟨some d, .indexAddr tx x ix, t, p, af, g⟩ :: rest) f bs gs := by
  obtain ⟨a, c, hv, ⟨hl, _⟩, h3⟩ := hs
  unfold geti at hy
  split at hy
  · rename_i h0
    rcases h3 with rfl | ⟨b, o, rfl, h5⟩
    · simp at hy
    · obtain ⟨cs, k1, k2, k3⟩ := h5 _ _ hy
      refine .val hw hd (fun w _ => ?_) (h b _ cs k1 k2 k3)
      have hlt : i < l.length := by have := (List.getElem?_eq_some_iff.1 hy).1; omega
      unfold slT at ht
      split at ht
      · rename_i e' hu
        split at ht
        · rename_i ti hti
          simp only [Option.some.injEq, Prod.mk.injEq] at ht
          obtain ⟨rfl, rfl⟩ := ht
          simp [execOp, hv, hi, Instr.indexAt, asIntOf, run_underlying hu, h0, hlt, sizeOf, typeInfo, hti, Addr.add_mid]
        · cases ht
      · cases ht
  · cases hy

theorem JL.callX {op : Op} {kf : Nat} {vs : List Value} {v : Value} (hc : SC P kf vs v H) (hr : ∀ w, (execOp (ev f) ⟨some d, op, t, p, af, g⟩).run P w = .ok (.enter kf vs.toArray) w) (hq : q.calls = true) (hw : Want ops f g) (hd : Nat.blt d N = true)
    (h : JL q P N ds B H ops Q rest (upd f d v) bs gs) : JL q P N ds B H ops Q (⟨some d, op, t, p, af, g⟩ :: rest) f bs gs := by
  match q with
  | .plain =>
    exact .step hw fun a w ha hs => by
      unfold Oper.wp
      rw [ha.eval, hr, Oper.upon_enter]
      refine (hc w hs.hle).mono fun e w' => ?_
      rintro ⟨rfl, hb⟩
      exact h _ _ (ha.put hd v) (hs.kept hb)
  | .quiet K =>
    intro a ha
    unfold wpQuiet
    rw [if_pos (Want.wanted ha (o := ⟨some d, op, t, p, af, g⟩) hw)]
    refine ⟨v, fun w hs => ?_, h _ (ha.put hd v)⟩
    unfold Oper.quietAt
    rw [ha.eval, hr]
    refine ⟨rfl, (hc w hs.hle).mono fun e w' => ?_⟩
    rintro ⟨rfl, hb⟩
    exact ⟨rfl, hs.kept hb⟩
  | .first K => cases hq
theorem run_callF {kf : Nat} {l : List Operand} {tt : Array TypeId} {vs : List Value} (hvs : l.map (ev f) = vs) (he : Ent P kf) (w : World) : (execOp (ev f) ⟨some d, .call ⟨.value (.func kf), l.toArray, tt⟩, t, p, af, g⟩).run P w = .ok (.enter kf vs.toArray) w := by
  simp [execOp, resolve, ev, Deferred.ofValue, invoke, ← hvs, he _ w]
theorem run_callV {x : Operand} {kf : Nat} {caps : List Value} {l : List Operand} {tt : Array TypeId} {vs : List Value} (hx : ev f x = .func (.func kf) #[] caps.toArray) (hvs : l.map (ev f) ++ caps = vs) (he : Ent P kf) (w : World) : (execOp (ev f) ⟨some d, .call ⟨.value x, l.toArray, tt⟩, t, p, af, g⟩).run P w = .ok (.enter kf vs.toArray) w := by
  simp [execOp, resolve, hx, Deferred.ofValue, invoke, ← hvs, he _ w]
theorem JL.callS {kf : Nat} {l : List Operand} {tt : Array TypeId} {vs : List Value} {v : Value} (hc : SC P kf vs v H) (hvs : l.map (ev f) = vs) (he : Ent P kf) (hw : Want ops f g) (hd : Nat.blt d N = true)
    (h : JL q P N ds B H ops Q rest (upd f d v) bs gs) (hq : q.calls = true := by rfl) : JL q P N ds B H ops Q (⟨some d, .call ⟨.value (.func kf), l.toArray, tt⟩, t, p, af, g⟩ :: rest) f bs gs :=
  .callX hc (run_callF hvs he) hq hw hd h
/-- a call of a function value -/
theorem JL.callV {x : Operand} {kf : Nat} {caps : List Value} {l : List Operand} {tt : Array TypeId} {vs : List Value} {v : Value} (hx : ev f x = .func (.func kf) #[] caps.toArray) (hc : SC P kf vs v H) (hvs : l.map (ev f) ++ caps = vs) (he : Ent P kf) (hw : Want ops f g) (hd : Nat.blt d N = true)
    (h : JL q P N ds B H ops Q rest (upd f d v) bs gs) (hq : q.calls = true := by rfl) : JL q P N ds B H ops Q (⟨some d, .call ⟨.value x, l.toArray, tt⟩, t, p, af, g⟩ :: rest) f bs gs :=
  .callX hc (run_callV hx hvs he) hq hw hd h

theorem JL.callH {kf : Nat} {l : List Operand} {tt : Array TypeId} {vs : List Value} {Res : Hp → Value → Prop} (hc : HC P kf vs H Res) (hvs : l.map (ev f) = vs) (he : Ent P kf) (hw : Want ops f g) (hd : Nat.blt d N = true)
    (h : ∀ H' v, HSub H H' → Res H' v → JL .plain P N ds B H' ops Q rest (upd f d v) bs gs) : JL .plain P N ds B H ops Q (⟨some d, .call ⟨.value (.func kf), l.toArray, tt⟩, t, p, af, g⟩ :: rest) f bs gs :=
  .step hw fun a w ha hs => by
    unfold Oper.wp
    have hr : (execOp (ev f) ⟨some d, .call ⟨.value (.func kf), l.toArray, tt⟩, t, p, af, g⟩).run P w = .ok (.enter kf vs.toArray) w := by
      simp [execOp, resolve, ev, Deferred.ofValue, invoke, ← hvs, he _ w]
    rw [ha.eval, hr, Oper.upon_enter]
    refine (hc w hs.hle).mono fun e w' => ?_
    rintro ⟨H', v, rfl, h1, h2, h3, hb, hres⟩
    exact h H' v h1 hres _ _ (ha.put hd v) (hs.grow hb h3 h1 h2)
end
end Go.Dec
