/-
  Functions that range over functions: their ends; rounds' ends; iterators: calls of yield, and their contract.
-/
import Derived.Test.YteihdclpiekmaaaEngI
namespace Go.Dec
open Go Go.RowKit

section
variable {P : Program} {ro : Option Nat} {N : Nat} {ds : List Deferred} {B : Bs} {H : Hp} {Q : Exit → Act → World → Prop} {f : Nat → Value} {bs : List (Nat × Obj)} {gs : List GS}

/-! ### a function's end, marks among its deferred calls -/
inductive DM : List (Nat × Obj) → List Deferred → Prop
  | nil {bs : List (Nat × Obj)} : DM bs []
  | cons {bs : List (Nat × Obj)} {ds : List Deferred} {D : Nat} (i : Nat) (hi : bs[i]? = some (D, .deferred (some []))) (h : DM (bs.set i (D, .deferred none)) ds) : DM bs (⟨.collected D, #[]⟩ :: ds)

theorem RV.set {rs : List ResultVar} {vs : List Value} {i D : Nat} {x : Option (List Deferred)} {o : Obj} (h : RV P f bs rs vs) (hi : bs[i]? = some (D, .deferred x)) : RV P f (bs.set i (D, o)) rs vs := by
  induction h with
  | nil => exact .nil
  | tmp _ ih => exact .tmp ih
  | @cell a t b e z l v rs vs j hz hx hj hv _ ih =>
    have hne : i ≠ j := by intro e; subst e; rw [hi] at hj; cases hj
    exact .cell (e := e) j hz hx (by rw [List.getElem?_set_ne hne]; exact hj) hv ih

theorem leavesM {fn : Func} {rs : List ResultVar} {vs : List Value} {R : Ending → World → Prop} (hr : fn.results = rs.toArray) {ds' : List Deferred} {a : Act} (ha : Fr N ds' a f) : ∀ (ds : List Deferred) (bs : List (Nat × Obj)) (w : World), DM bs ds → RV P f bs rs vs → St B H bs gs w →
    (∀ bs' w', St B H bs' gs w' → R (.returned (resw vs)) w') → LeavesInM (FR none) 0 P fn a.tmps R ds .returning w
  | [], bs, w, _, h, hs, k => ⟨_, h.results hr ha hs, k bs w hs⟩
  | _ :: ds, bs, w, .cons (D := D) i hi hd, h, hs, k => by
    refine ⟨by simp, .inl ⟨D, _, rfl, run_takeDeferred (hs.own _ (List.mem_of_getElem? hi)).1, ?_⟩⟩
    exact leavesM hr ha ds _ _ hd (h.set hi) (hs.put _ hi) k

/-- without panics -/
def NP (Q : Exit → Act → World → Prop) : Exit → Act → World → Prop := fun e a w => Q e a w ∧ (match e with | .panic _ => False | .outgrown => False | _ => True)
theorem noOut_NP : NoOut (NP Q) := ⟨fun _ _ h => h.2, fun _ _ _ h => h.2⟩
abbrev PM (P : Program) (fn : Func) (R : Ending → World → Prop) : Exit → Act → World → Prop := NP (bodyPostM (FR none) 0 P fn R)

theorem JQ.outSM {fn : Func} {rs : List ResultVar} {vs : List Value} {v : Value} (hr : fn.results = rs.toArray) (hd : DM bs ds) (h : RV P f bs rs vs) (hv : resw vs = v) : JQ N ds B H .ret (PM P fn (RetS B v)) f bs gs := fun _ a w ha hs => by
  refine ⟨?_, trivial⟩
  show LeavesInM _ _ _ _ _ _ a.defers _ _
  rw [ha.defers]
  exact leavesM hr ha ds bs w hd h hs fun bs' w' h' => ⟨by rw [hv], h'.below⟩
theorem JQ.outHM {fn : Func} {rs : List ResultVar} {vs : List Value} {Res : Hp → Value → Prop} (hr : fn.results = rs.toArray) (hd : DM bs ds) (h : RV P f bs rs vs) (hres : Res H (resw vs)) : JQ N ds B H .ret (PM P fn (RetH B Res)) f bs gs := fun _ a w ha hs => by
  refine ⟨?_, trivial⟩
  show LeavesInM _ _ _ _ _ _ a.defers _ _
  rw [ha.defers]
  exact leavesM hr ha ds bs w hd h hs fun bs' w' h' => ⟨H, _, rfl, h'.ext.1, h'.ext.2, h'.hle, h'.below, hres⟩
theorem JQ.fellSM {fn : Func} {rs : List ResultVar} {vs : List Value} {v : Value} (hr : fn.results = rs.toArray) (hd : DM bs ds) (h : RV P f bs rs vs) (hv : resw vs = v) : JQ N ds B H .normal (PM P fn (RetS B v)) f bs gs := fun _ a w ha hs => by
  refine ⟨?_, trivial⟩
  show LeavesInM _ _ _ _ _ _ a.defers _ _
  rw [ha.defers]
  exact leavesM hr ha ds bs w hd h hs fun bs' w' h' => ⟨by rw [hv], h'.below⟩
theorem JQ.fellHM {fn : Func} {rs : List ResultVar} {vs : List Value} {Res : Hp → Value → Prop} (hr : fn.results = rs.toArray) (hd : DM bs ds) (h : RV P f bs rs vs) (hres : Res H (resw vs)) : JQ N ds B H .normal (PM P fn (RetH B Res)) f bs gs := fun _ a w ha hs => by
  refine ⟨?_, trivial⟩
  show LeavesInM _ _ _ _ _ _ a.defers _ _
  rw [ha.defers]
  exact leavesM hr ha ds bs w hd h hs fun bs' w' h' => ⟨H, _, rfl, h'.ext.1, h'.ext.2, h'.hle, h'.below, hres⟩

theorem SC.ofM {k N : Nat} {fn : Func} {c : Code} {vs : List Value} {v : Value} {H : Hp} (hf : P.funcs[k]? = some fn) (hN : fn.ntmps = N) (hb : fn.body = some c) (hn : Nat.ble vs.length N = true)
    (h : ∀ w, JC P none N [] ⟨w, H⟩ H c (PM P fn (RetS ⟨w, H⟩ v)) (frame0 vs) [] []) : SC P k vs v H := fun w hH => by
  subst hN
  have hn := Nat.le_of_ble_eq_true hn
  exact (callsIn_wide (n := 0)).1 (callsIn_of_wp_marks hf hb trivial (wpIn_mono (h w noOut_NP _ w (fr_start hn) (St.start hH)) fun e a w hq => hq.1))
theorem HC.ofM {k N : Nat} {fn : Func} {c : Code} {vs : List Value} {Res : Hp → Value → Prop} {H : Hp} (hf : P.funcs[k]? = some fn) (hN : fn.ntmps = N) (hb : fn.body = some c) (hn : Nat.ble vs.length N = true)
    (h : ∀ w, JC P none N [] ⟨w, H⟩ H c (PM P fn (RetH ⟨w, H⟩ Res)) (frame0 vs) [] []) : HC P k vs H Res := fun w hH => by
  subst hN
  have hn := Nat.le_of_ble_eq_true hn
  exact (callsIn_wide (n := 0)).1 (callsIn_of_wp_marks hf hb trivial (wpIn_mono (h w noOut_NP _ w (fr_start hn) (St.start hH)) fun e a w hq => hq.1))

/-! ### a round's end -/
theorem JQ.round {σ ρ : Type} {H0 : Hp} {A : Own1 σ} {Ax : ρ → Code → Hp → List (Nat × Obj) → List GS → Prop} {T : List (Nat × Obj)} {y : σ ⊕ ρ} {s : σ} (hy : y = .inl s) (fr : List (Nat × Obj)) (hs : HSub H0 H) (hA : A s H fr gs) :
    JQ N ds B H .normal (RQ B H0 A Ax T y) f (fr ++ T) gs := fun _ _ _ _ hw => ⟨s, hy, H, fr, gs, hs, hA, hw⟩
theorem JQ.roundRet {σ ρ : Type} {H0 : Hp} {A : Own1 σ} {Ax : ρ → Code → Hp → List (Nat × Obj) → List GS → Prop} {T : List (Nat × Obj)} {y : σ ⊕ ρ} {r : ρ} (hy : y = .inr r) (fr : List (Nat × Obj)) (hs : HSub H0 H) (hA : Ax r .ret H fr gs) :
    JQ N ds B H .ret (RQ B H0 A Ax T y) f (fr ++ T) gs := fun _ _ _ _ hw => ⟨r, hy, H, fr, gs, hs, hA, hw⟩
theorem JQ.roundExit {σ ρ : Type} {H0 : Hp} {A : Own1 σ} {Ax : ρ → Code → Hp → List (Nat × Obj) → List GS → Prop} {T : List (Nat × Obj)} {y : σ ⊕ ρ} {r : ρ} {id : Nat} (hy : y = .inr r) (fr : List (Nat × Obj)) (hs : HSub H0 H) (hA : Ax r (.exit id) H fr gs) :
    JQ N ds B H (.exit id) (RQ B H0 A Ax T y) f (fr ++ T) gs := fun _ _ _ _ hw => ⟨r, hy, H, fr, gs, hs, hA, hw⟩

/-! ### iterators: calls of yield -/
theorem wpOpsIn_prefix {l2 : List Nat} {ops : List Oper} (hnd : noDefer ops = true) (hQ : NoOut Q) : ∀ (l : List Nat) (a : Act) (w : World),
    wpOps P ops.toArray (fun e a w => match e with | .normal => wpOpsIn (FR ro) 0 P ops.toArray Q l2 a w | e => Q e a w) l a w → wpOpsIn (FR ro) 0 P ops.toArray Q (l ++ l2) a w
  | [], _, _, h => h
  | i :: rest, a, w, h => by
    unfold wpOps at h
    rw [List.cons_append]
    unfold wpOpsIn
    cases ho : ops.toArray[i]? with
    | none => simp only [ho] at h ⊢; exact wpOpsIn_prefix hnd hQ rest a w h
    | some o =>
      simp only [ho] at h ⊢
      have hod : ∀ c, o.op ≠ .defer c := noDefer_spec hnd (i := i) (by simpa using ho)
      split
      · rename_i hw
        rw [if_pos hw] at h
        rcases h with h | ⟨_, h⟩
        · refine ⟨fun _ _ => trivial, ?_⟩
          rw [Oper.semAt_eq _ _ _ hod]
          unfold Oper.wp at h
          generalize (execOp a.eval o).run P w = r at h
          match r with
          | .ok (.value v) w' => exact wpOpsIn_prefix hnd hQ rest _ _ h
          | .ok .skip w' => exact wpOpsIn_prefix hnd hQ rest _ _ h
          | .ok (.defer d) w' => exact wpOpsIn_prefix hnd hQ rest _ _ h
          | .ok (.enter f args) w' =>
            refine ⟨fun h => by simp [FR] at h, ?_⟩
            have hc : Calls P f args w' _ := h
            have := (callsIn_wide (n := 0 - 1)).2 hc
            refine CallsIn.mono (R := _) (show CallsIn (FR ro) (0 - 1) P f args w' _ from this) ?_
            intro e w'' hr
            cases e with
            | returned v => exact wpOpsIn_prefix hnd hQ rest _ _ hr
            | panicked c => exact hr
            | outgrown =>
              obtain ⟨a, w, hq⟩ := hr
              exact absurd hq (hQ.1 a w)
          | .ok (.row row args) w' =>
            refine ⟨fun h => by simp [FR] at h, ?_⟩
            have hc : Rows P row args w' _ := h
            intro c cs hroom
            obtain ⟨v, w'', hR, hs⟩ := hc c cs
            exact ⟨v, w'', wpOpsIn_prefix hnd hQ rest _ _ hR, (StepsIn.of_steps hs).mono fun m _ => fenced_wide P m⟩
          | .halt (.panic v) w' => exact h
        · obtain ⟨a, w, hq⟩ := h
          exact absurd hq (hQ.1 a w)
      · rename_i hw
        rw [if_neg hw] at h
        exact ⟨fun _ _ => trivial, wpOpsIn_prefix hnd hQ rest _ _ h⟩

/-- up to a call of yield -/
def YQ (P : Program) (Q : Exit → Act → World → Prop) (ops : List Oper) (m k : Nat) : Exit → Act → World → Prop := fun e a w => match e with
  | .normal => wpOpsIn (FR none) 0 P ops.toArray Q (List.range' m k) a w
  | e => Q e a w
theorem wpOps_of_wpList {ops : Array Oper} {Q : Exit → Act → World → Prop} : ∀ (l : List Oper) (k : Nat), (∀ j, j < l.length → l[j]? = ops[k + j]?) → ∀ a w, wpList P ops Q l a w → wpOps P ops Q (List.range' k l.length) a w
  | [], _, _, _, _, h => h
  | o :: l, k, hl, a, w, h => by
    have h0 : ops[k]? = some o := by have := hl 0 (by simp); simpa using this.symm
    have ih := wpOps_of_wpList (Q := Q) l (k + 1) (fun j hj => by have := hl (j + 1) (by simp; omega); rw [Nat.add_assoc, Nat.add_comm 1 j]; simpa using this)
    rw [List.length_cons, List.range'_succ]
    unfold wpList at h
    unfold wpOps
    simp only [h0]
    split
    · rename_i hw
      rw [if_pos hw] at h
      exact h.imp (fun h => Oper.wp_mono ih h) id
    · rename_i hw
      rw [if_neg hw] at h
      exact ih _ _ h
theorem JC.regionY {id : Nat} (pre : List Oper) {l : List Oper} (m : Nat) (hm : l.take m = pre) (hml : Nat.ble m l.length = true) (hnd : noDefer l = true) (h : NoOut Q → JL .plain P N ds B H l (YQ P Q l m (l.length - m)) pre f bs gs) : JC P none N ds B H (.region id l.toArray false) Q f bs gs := fun hQ a w ha hs => by
  have hml := Nat.le_of_ble_eq_true hml
  refine wpIn_region ?_
  have hsplit : List.range l.toArray.size = List.range' 0 m ++ List.range' m (l.length - m) := by
    have := List.range'_append_1 (s := 0) (m := m) (n := l.length - m)
    rw [Nat.zero_add] at this
    rw [this, List.range_eq_range', List.size_toArray]
    congr 1; omega
  rw [hsplit]
  refine wpOpsIn_prefix hnd hQ _ a w ?_
  have hpl : pre.length = m := by rw [← hm]; simp; omega
  have := wpOps_of_wpList (P := P) (ops := l.toArray) (Q := YQ P Q l m (l.length - m)) pre 0 (fun j hj => by
    rw [← hm, List.getElem?_take]
    simp
    intro h; omega) a w (h hQ a w ha hs)
  rw [hpl] at this
  exact this

/-- the call of yield itself -/
theorem JL.atYield {σ ρ : Type} {l : List Oper} {m n lY d : Nat} {x z : Operand} {tt : Array TypeId} {t : TypeId} {p : String} {af : Array Edge} {post : List Oper} {A : Own1 σ} {Ax : Own1 ρ} {tl : List (Nat × Obj)} {y : σ ⊕ ρ}
    (hQ : NoOut Q) (hnd : noDefer l = true) (hl : l.drop m = ⟨some d, .call { callee := .value x, args := #[z], argTypes := tt }, t, p, af, none⟩ :: post) (hn : l.length - m = n)
    (hx : ev f x = .func (.yield lY) #[] #[]) (hd : Nat.blt d N = true) (hy : ∀ w, St B H bs gs w → YieldAt (FR none) 0 P lY #[ev f z] w (After B H A Ax tl y))
    (hgo : ∀ s H' fr gs', y = .inl s → HSub H H' → A s H' fr gs' → JL .plain P N ds B H' l Q post (upd f d (.bool true)) (tl ++ fr) gs')
    (hstop : ∀ r H' fr gs', y = .inr r → HSub H H' → Ax r H' fr gs' → JL .plain P N ds B H' l Q post (upd f d (.bool false)) (tl ++ fr) gs') :
    JL .plain P N ds B H l (YQ P Q l m n) [] f bs gs := .nil fun a w ha hs => by
  have hlen : l.length - m = post.length + 1 := by rw [← List.length_drop, hl]; rfl
  show wpOpsIn (FR none) 0 P l.toArray Q (List.range' m n) a w
  rw [← hn, hlen, List.range'_succ]
  have hget : ∀ j, l[m + j]? = (l.drop m)[j]? := fun j => by rw [List.getElem?_drop]
  have h0 : l.toArray[m]? = some ⟨some d, .call { callee := .value x, args := #[z], argTypes := tt }, t, p, af, none⟩ := by
    have := hget 0; rw [hl] at this; simpa using this
  unfold wpOpsIn
  simp only [h0]
  have hw : Region.wanted ⟨some d, .call { callee := .value x, args := #[z], argTypes := tt }, t, p, af, none⟩ (yielded l.toArray a.tmps) = true := by simp [Region.wanted]
  rw [if_pos hw]
  refine ⟨fun _ _ => trivial, ?_⟩
  obtain ⟨fn, tmps, assign, body, hrun, hround⟩ := hy w hs
  have hexec : (execOp a.eval ⟨some d, .call { callee := .value x, args := #[z], argTypes := tt }, t, p, af, none⟩).run P w = .ok (.round lY fn tmps assign body) w := by
    rw [ha.eval]
    simp [execOp, hx, hrun, resolve, invoke, go_sem]
  rw [Oper.semAt_eq _ _ _ (by intro c; simp), hexec, Oper.uponIn_round]
  refine ⟨fun h => by simp [FR] at h, hround.mono ?_⟩
  intro e w'' hr
  have hrest : ∀ {v : Value} {H' : Hp} {bs' : List (Nat × Obj)} {gs' : List GS}, St B H' bs' gs' w'' → JL .plain P N ds B H' l Q post (upd f d v) bs' gs' → wpOpsIn (FR none) 0 P l.toArray Q (List.range' (m + 1) post.length) (a.put (some d) v) w'' := fun h1 h2 =>
    wpOpsIn_of_wpOps hnd hQ _ _ _ (wpOps_of_wpList post (m + 1) (fun j hj => by
      have := hget (j + 1)
      rw [hl] at this
      rw [Nat.add_assoc, Nat.add_comm 1 j]
      simpa using this.symm) _ _ (h2 _ _ (ha.put hd _) h1))
  cases e with
  | returned v =>
    obtain ⟨H', fr, gs', k1, k2, k3⟩ := hr
    cases y with
    | inl s => obtain ⟨rfl, k4⟩ := k3; exact hrest k2 (hgo s H' fr gs' rfl k1 k4)
    | inr r => obtain ⟨rfl, k4⟩ := k3; exact hrest k2 (hstop r H' fr gs' rfl k1 k4)
  | panicked c => exact hr.elim
  | outgrown => exact hr.elim
end
end Go.Dec
