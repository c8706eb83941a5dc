/-
  Calls that turn own blocks; cells of rows; made rows of integers.
-/
import Derived.Test.YteihdclpiekmaaaEngK
namespace Go.Dec
open Go Go.RowKit

section
variable {q : Md} {P : Program} {N : Nat} {ds : List Deferred} {B : Bs} {H : Hp} {ops : List Oper} {Q : Exit → Act → World → Prop} {rest : List Oper} {f : Nat → Value} {bs : List (Nat × Obj)} {gs : List GS}
variable {d : Nat} {t : TypeId} {p : String} {af : Array Edge} {g : Option (Nat × Bool)}

/-- a call of a function value, whatever it turns -/
theorem JL.callG {x : Operand} {kf : Nat} {caps : List Value} {l : List Operand} {tt : Array TypeId} {vs : List Value} {K : Value → Hp → List (Nat × Obj) → List GS → Prop} (hx : ev f x = .func (.func kf) #[] caps.toArray)
    (hc : ∀ w, St B H bs gs w → Calls P kf vs.toArray w fun e w' => ∃ v H' bs' gs', e = .returned v ∧ St B H' bs' gs' w' ∧ K v H' bs' gs') (hvs : l.map (ev f) ++ caps = vs) (he : Ent P kf) (hw : Want ops f g) (hd : Nat.blt d N = true)
    (h : ∀ v H' bs' gs', K v H' bs' gs' → JL .plain P N ds B H' ops Q rest (upd f d v) bs' gs') : JL .plain P N ds B H ops Q (⟨some d, .call ⟨.value x, l.toArray, tt⟩, t, p, af, g⟩ :: rest) f bs gs :=
  .step hw fun a w ha hs => by
    unfold Oper.wp
    rw [ha.eval, run_callV hx hvs he, Oper.upon_enter]
    refine (hc w hs).mono fun e w' => ?_
    rintro ⟨v, H', bs', gs', rfl, hs', hk⟩
    exact h v H' bs' gs' hk _ _ (ha.put hd v) hs'

/-- the address of an element, whatever it holds -/
theorem JL.indexAt {tx e : TypeId} {x ix : Operand} {k : IntKind} {i : Int} {sz b o n c : Nat} (ht : slT P tx = some (e, sz)) (hx : ev f x = .slice (some ⟨b, o, none⟩) n c) (hi : ev f ix = .int k i) (h0 : 0 ≤ i) (h1 : i < n) (hw : Want ops f g) (hd : Nat.blt d N = true)
    (h : JL q P N ds B H ops Q rest (upd f d (.pointer (some ⟨b, o + i.toNat * sz, none⟩))) bs gs) : JL q P N ds B H ops Q (⟨some d, .indexAddr tx x ix, t, p, af, g⟩ :: rest) f bs gs := by
  refine .val hw hd (fun w _ => ?_) h
  unfold slT at ht
  split at ht
  · rename_i e' hu
    split at ht
    · rename_i ti hti
      simp only [Option.some.injEq, Prod.mk.injEq] at ht
      obtain ⟨rfl, rfl⟩ := ht
      simp [execOp, hx, hi, Instr.indexAt, asIntOf, run_underlying hu, h0, h1, sizeOf, typeInfo, hti, Addr.add_mid]
    · cases ht
  · cases ht

/-- a load of one cell of an own block, at whatever place -/
theorem JL.loadAt {tx : TypeId} {x : Operand} (i : Nat) {b k : Nat} {l : List Value} {e : TypeId} {v : Value} (hz : aggsz P tx = some (false, 1)) (hx : ev f x = .pointer (some ⟨b, k, none⟩)) (hi : bs[i]? = some (b, .cells l.toArray e)) (hv : l[k]? = some v) (hw : Want ops f g) (hd : Nat.blt d N = true)
    (h : JL q P N ds B H ops Q rest (upd f d v) bs gs) : JL q P N ds B H ops Q (⟨some d, .load tx x, t, p, af, g⟩ :: rest) f bs gs := by
  refine .val hw hd (fun w hs => ?_) h
  have hl := run_load_of (P := P) (w := w) (o := 0) (b := b) (k := k) (l := l) (v := v) hz (hs.has hi) (by simp [loadw, hv])
  rw [Nat.zero_add] at hl
  unfold execOp
  simp [hx, hl]

theorem putC_set {l : List Value} {k : Nat} {v : Value} (h : k < l.length) : putC l k [v] = l.set k v := by
  rw [putC, List.set_eq_take_append_cons_drop, if_pos h]; simp

/-- a store into one cell of an own block, at whatever place -/
theorem JL.storeAt {tx e : TypeId} {x y : Operand} (i : Nat) {b k : Nat} {l l' : List Value} {v : Value} (hz : aggsz P tx = some (false, 1)) (hx : ev f x = .pointer (some ⟨b, k, none⟩)) (hy : ev f y = v) (h1 : vcells v = [v] ∧ v.oneCell' = true) (hi : bs[i]? = some (b, .cells l.toArray e)) (hk : k < l.length) (hl : l.set k v = l') (hw : Want ops f g)
    (h : JL .plain P N ds B H ops Q rest f (bs.set i (b, .cells l'.toArray e)) gs) : JL .plain P N ds B H ops Q (⟨none, .store tx x y, t, p, af, g⟩ :: rest) f bs gs := by
  refine JL.storeOwn i (cs := [v]) hz hx (by rw [hy]; exact h1.1) rfl (fun u hu => by rw [List.mem_singleton.1 hu]; exact h1.2) hi (Nat.ble_eq_true_of_le (by omega)) hw ?_
  rw [putC_set hk, hl]
  exact h

/-- a made row of integers -/
theorem JL.makeInts {t' e : TypeId} {x y : Operand} {k k' : IntKind} {n : Int} {i : TypeInfo} (ht : P.underlying t' = some (.slice e)) (hi : P.info? e = some i) (hz : i.zero = some (.int .i64 0)) (hs : i.size = 1) (hb : i.bytes = 8) (hx : ev f x = .int k n) (hy : ev f y = .int k' n) (h0 : 0 ≤ n) (h1 : n ≤ 1048576) (hw : Want ops f g) (hd : Nat.blt d N = true)
    (h : ∀ b, JL .plain P N ds B H ops Q rest (upd f d (.slice (some ⟨b, 0, none⟩) n.toNat n.toNat)) ((b, .cells ((List.replicate n.toNat (0 : Int)).map (Value.int .i64)).toArray e) :: bs) gs) : JL .plain P N ds B H ops Q (⟨some d, .makeSlice t' x y, t, p, af, g⟩ :: rest) f bs gs :=
  .step hw fun a w ha hst => by
    have hm := run_makeSlice (P := P) (w := w) t' e i (.int .i64 0) ht hi hz k k' n n h0 (Int.le_refl _) (by rw [hs]; omega) (by rw [hb]; omega) (by omega)
    have hcells : madeCells (Value.int .i64 0).cells (n.toNat * i.size) = ((List.replicate n.toNat (0 : Int)).map (Value.int .i64)).toArray := by
      rw [hs]
      apply Array.ext
      · simp [madeCells]
      · intro j h1 h2
        simp [madeCells, Value.cells, Nat.mod_one]
    rw [hcells] at hm
    unfold Oper.wp
    rw [ha.eval]
    have hr : (execOp (ev f) ⟨some d, .makeSlice t' x y, t, p, af, g⟩).run P w = .ok (.value (.slice (some ⟨w.heap.size, 0, none⟩) n.toNat n.toNat)) (w.alloc (.cells ((List.replicate n.toNat (0 : Int)).map (Value.int .i64)).toArray e)) := by
      simp only [execOp, hx, hy]
      simp [hm]
    rw [hr]
    exact h _ _ _ (ha.put hd _) (hst.alloc _)
end
end Go.Dec
