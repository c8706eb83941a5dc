/-
  Blocks that are lent; results that are the caller's own; an iterator's contract out of its body.
-/
import Derived.Test.YteihdclpiekmaaaEngJ
namespace Go.Dec
open Go Go.RowKit

/-- a call whose result is an own growing slice -/
def OC (P : Program) (k : Nat) (vs : List Value) (H : Hp) (e : TypeId) (sz : Nat) (Res : Nat → List Value → Prop) : Prop :=
  ∀ w, HLe H w → Calls P k vs.toArray w fun en w' => ∃ v n xs, en = .returned v ∧ Below w.heap.size w w' ∧ w'.ownsRow w.heap.size e sz v n xs ∧ Res n xs

section
variable {q : Md} {P : Program} {N : Nat} {ds : List Deferred} {B : Bs} {H : Hp} {ops : List Oper} {Q : Exit → Act → World → Prop} {rest : List Oper} {f : Nat → Value} {bs : List (Nat × Obj)} {gs : List GS}
variable {d : Nat} {t : TypeId} {p : String} {af : Array Edge} {g : Option (Nat × Bool)}

theorem OC.of {k N : Nat} {fn : Func} {c : Code} {vs : List Value} {H : Hp} {e : TypeId} {sz : Nat} {Res : Nat → List Value → Prop} (hf : P.funcs[k]? = some fn) (hN : fn.ntmps = N) (hb : fn.body = some c) (hn : Nat.ble vs.length N = true)
    (h : ∀ w, JC P none N [] ⟨w, H⟩ H c (bodyPost P fn fun en w' => ∃ v n xs, en = .returned v ∧ Below w.heap.size w w' ∧ w'.ownsRow w.heap.size e sz v n xs ∧ Res n xs) (frame0 vs) [] []) : OC P k vs H e sz Res := fun w hH => by
  subst hN
  have hn := Nat.le_of_ble_eq_true hn
  exact (callsIn_wide (n := 0)).1 (callsIn_of_wp hf hb trivial (h w (noOut_body (fun w' hq => by obtain ⟨_, _, _, h, _⟩ := hq; cases h) (fun c w' hq => by obtain ⟨_, _, _, h, _⟩ := hq; cases h)) _ w (fr_start hn) (St.start hH)))
theorem JQ.outO {fn : Func} {t : Nat} {e : TypeId} {sz : Nat} {Res : Nat → List Value → Prop} (j : Nat) {gq : GS} (hr : fn.results = #[.tmp t]) (hj : gs[j]? = some gq) (hv : f t = gq.v) (he : gq.e = e ∧ gq.sz = sz) (hres : Res gq.n gq.xs) :
    JQ N [] B H .ret (bodyPost P fn fun en w' => ∃ v n xs, en = .returned v ∧ Below B.w.heap.size B.w w' ∧ w'.ownsRow B.w.heap.size e sz v n xs ∧ Res n xs) f bs gs := fun _ a w ha hs => by
  obtain ⟨rfl, rfl⟩ := he
  exact ⟨ha.defers, _, RV.results (P := P) (rs := [.tmp t]) hr (.tmp .nil) ha hs, gq.v, gq.n, gq.xs, by rw [show resw [f t] = f t from rfl, hv], hs.below, hs.row gq (List.mem_of_getElem? hj), hres⟩

theorem St.gain {w w' : World} (hs : St B H bs gs w) {v : Value} {e : TypeId} {sz n : Nat} {xs : List Value} (hb : Below w.heap.size w w') (hr : w'.ownsRow w.heap.size e sz v n xs) : St B H bs (⟨v, e, sz, n, xs⟩ :: gs) w' := by
  have k := hs.kept hb
  have hlt := hr.lt
  have hr' : w'.ownsRow B.w.heap.size e sz v n xs := by
    obtain ⟨h1, h2⟩ := hr
    refine ⟨h1, h2.imp id ?_⟩
    rintro ⟨g, cap, cur, h3, h4, h5⟩
    exact ⟨g, cap, cur, h3, Nat.le_trans hs.below.size h4, h5⟩
  refine ⟨k.below, k.hle, k.ext, k.own, k.nodup, fun q hq => ?_, fun q hq b hb => ?_, List.pairwise_cons.2 ⟨fun q hq b hb e => ?_, hs.rdisj⟩⟩
  · rcases List.mem_cons.1 hq with rfl | hq
    · exact hr'
    · exact k.row q hq
  · rcases List.mem_cons.1 hq with rfl | hq
    · have hge := (hlt b hb).1
      refine ⟨?_, fun p hp e => ?_⟩
      · cases hH : H b with
        | none => rfl
        | some o => exact absurd (hs.hle.lt hH) (by omega)
      · have := hs.own_lt hp; omega
    · exact k.rfresh q hq b hb
  · have h1 := (hlt b hb).1
    have h2 := ((hs.row q hq).lt b e).2
    omega

theorem JL.callO {kf : Nat} {l : List Operand} {tt : Array TypeId} {vs : List Value} {e : TypeId} {sz : Nat} {Res : Nat → List Value → Prop} (hc : OC P kf vs H e sz Res) (hvs : l.map (ev f) = vs) (he : Ent P kf) (hw : Want ops f g) (hd : Nat.blt d N = true)
    (h : ∀ v n xs, Res n xs → JL .plain P N ds B H ops Q rest (upd f d v) bs (⟨v, e, sz, n, xs⟩ :: gs)) : JL .plain P N ds B H ops Q (⟨some d, .call ⟨.value (.func kf), l.toArray, tt⟩, t, p, af, g⟩ :: rest) f bs gs :=
  .step hw fun a w ha hs => by
    unfold Oper.wp
    rw [ha.eval, run_callF hvs he, Oper.upon_enter]
    refine (hc w hs.hle).mono fun e w' => ?_
    rintro ⟨v, n, xs, rfl, hb, hr, hres⟩
    exact h v n xs hres _ _ (ha.put hd v) (hs.gain hb hr)

/-- a block is lent to the data for one call -/
theorem St.lend {w : World} (hs : St B H bs gs w) {i b : Nat} {o : Obj} (hi : bs[i]? = some (b, o)) : HSub H (ins H b o) ∧ HLe (ins H b o) w := by
  have h := hs.own _ (List.mem_of_getElem? hi)
  refine ⟨HSub.ins h.2.2 o, fun c ob hc => ?_⟩
  unfold ins at hc
  split at hc
  · rename_i e; subst e; cases hc; exact h.1
  · exact hs.hle c ob hc
theorem SC.lent {kf : Nat} {vs : List Value} {v : Value} {b : Nat} {o : Obj} (h : HSub H (ins H b o) → SC P kf vs v (ins H b o)) {w : World} (hs : St B H bs gs w) {i : Nat} (hi : bs[i]? = some (b, o)) : Calls P kf vs.toArray w fun e w' => e = .returned v ∧ Below w.heap.size w w' :=
  let ⟨h1, h2⟩ := hs.lend hi
  h h1 w h2
theorem JL.callLX {op : Op} {kf : Nat} {vs : List Value} {v : Value} (i : Nat) {b : Nat} {o : Obj} (hi : bs[i]? = some (b, o)) (hc : HSub H (ins H b o) → SC P kf vs v (ins H b o)) (hr : ∀ w, (execOp (ev f) ⟨some d, op, t, p, af, g⟩).run P w = .ok (.enter kf vs.toArray) w) (hq : q.calls = true) (hw : Want ops f g) (hd : Nat.blt d N = true)
    (h : JL q P N ds B H ops Q rest (upd f d v) bs gs) : JL q P N ds B H ops Q (⟨some d, op, t, p, af, g⟩ :: rest) f bs gs := by
  match q with
  | .plain =>
    exact .step hw fun a w ha hs => by
      unfold Oper.wp
      rw [ha.eval, hr, Oper.upon_enter]
      refine (SC.lent hc hs hi).mono fun e w' => ?_
      rintro ⟨rfl, hb⟩
      exact h _ _ (ha.put hd v) (hs.kept hb)
  | .quiet K =>
    intro a ha
    unfold wpQuiet
    rw [if_pos (Want.wanted ha (o := ⟨some d, op, t, p, af, g⟩) hw)]
    refine ⟨v, fun w hs => ?_, h _ (ha.put hd v)⟩
    unfold Oper.quietAt
    rw [ha.eval, hr]
    refine ⟨rfl, (SC.lent hc hs hi).mono fun e w' => ?_⟩
    rintro ⟨rfl, hb⟩
    exact ⟨rfl, hs.kept hb⟩
  | .first K => cases hq
theorem JL.callLS {kf : Nat} {l : List Operand} {tt : Array TypeId} {vs : List Value} {v : Value} (i : Nat) {b : Nat} {o : Obj} (hi : bs[i]? = some (b, o)) (hc : HSub H (ins H b o) → SC P kf vs v (ins H b o)) (hvs : l.map (ev f) = vs) (he : Ent P kf) (hw : Want ops f g) (hd : Nat.blt d N = true)
    (h : JL q P N ds B H ops Q rest (upd f d v) bs gs) (hq : q.calls = true := by rfl) : JL q P N ds B H ops Q (⟨some d, .call ⟨.value (.func kf), l.toArray, tt⟩, t, p, af, g⟩ :: rest) f bs gs :=
  .callLX i hi hc (run_callF hvs he) hq hw hd h
theorem JL.callLO {kf : Nat} {l : List Operand} {tt : Array TypeId} {vs : List Value} {e : TypeId} {sz : Nat} {Res : Nat → List Value → Prop} (i : Nat) {b : Nat} {o : Obj} (hi : bs[i]? = some (b, o)) (hc : HSub H (ins H b o) → OC P kf vs (ins H b o) e sz Res) (hvs : l.map (ev f) = vs) (he : Ent P kf) (hw : Want ops f g) (hd : Nat.blt d N = true)
    (h : ∀ v n xs, Res n xs → JL .plain P N ds B H ops Q rest (upd f d v) bs (⟨v, e, sz, n, xs⟩ :: gs)) : JL .plain P N ds B H ops Q (⟨some d, .call ⟨.value (.func kf), l.toArray, tt⟩, t, p, af, g⟩ :: rest) f bs gs :=
  .step hw fun a w ha hs => by
    unfold Oper.wp
    rw [ha.eval, run_callF hvs he, Oper.upon_enter]
    obtain ⟨h1, h2⟩ := hs.lend hi
    refine (hc h1 w h2).mono fun e w' => ?_
    rintro ⟨v, n, xs, rfl, hb, hr, hres⟩
    exact h v n xs hres _ _ (ha.put hd v) (hs.gain hb hr)

/-- the frame is written anew -/
theorem JC.fresh {ro : Option Nat} {c : Code} (A : (Nat → Value) → Prop) (h0 : A f) (k : ∀ f', A f' → JC P ro N ds B H c Q f' bs gs) : JC P ro N ds B H c Q f bs gs := k f h0

theorem PT.form {α : Type} {R : Rl α} {v : Value} {o : Option α} (h : PT H R v o) : ∃ a, v = .pointer a := by
  cases o with
  | none => exact ⟨none, h⟩
  | some x => obtain ⟨b, o, cs, h, _⟩ := h; exact ⟨_, h⟩
theorem PT.one {α : Type} {R : Rl α} {v : Value} {o : Option α} (h : PT H R v o) : v.oneCell' = true := by
  obtain ⟨a, rfl⟩ := h.form; rfl
theorem PT.vc {α : Type} {R : Rl α} {v : Value} {o : Option α} (h : PT H R v o) : vcells v = [v] := by
  obtain ⟨a, rfl⟩ := h.form; rfl

/-- what an iterator yields: plain values; rows of plain values, lent -/
def VPlain {α : Type} (enc : α → Value) : Hp → List (Nat × Obj) → Value → α → Prop := fun _ own v x => own = [] ∧ v = enc x
def VRow (e : TypeId) : Hp → List (Nat × Obj) → Value → List Int → Prop := fun _ own v x =>
  ∃ b c, own = [(b, .cells (x.map (Value.int .i64)).toArray e)] ∧ v = .slice (some ⟨b, 0, none⟩) x.length c ∧ x.length ≤ 9223372036854775807 ∧ x.length ≤ c
theorem CH.ints {H : Hp} (x : List Int) : CH H 1 RInt (x.map (Value.int .i64)) x := by
  refine ⟨by simp, fun i y hi => ⟨[.int .i64 y], rfl, rfl, fun j v hv => ?_⟩⟩
  cases j with
  | zero => simp at hv; subst hv; simp [hi]
  | succ j => simp at hv
theorem SL.lentRow {e : TypeId} {b c : Nat} {x : List Int} (h1 : x.length ≤ 9223372036854775807) (h2 : x.length ≤ c) : SL (ins H b (.cells (x.map (Value.int .i64)).toArray e)) 1 RInt (.slice (some ⟨b, 0, none⟩) x.length c) x :=
  (CH.ints x).sl Cells.ins ⟨h1, h2⟩
theorem CH.flat {H H' : Hp} {xs : List Value} {l : List Int} (h : CH H 1 RInt xs l) : CH H' 1 RInt xs l := h

/-- an iterator's contract out of its body -/
theorem IT.of {α : Type} {k N : Nat} {fn : Func} {c : Code} {caps : List Value} {H0 : Hp} {V : Hp → List (Nat × Obj) → Value → α → Prop} {F : ∀ (σ ρ : Type), (σ → α → Option (σ ⊕ ρ)) → σ → Option (σ ⊕ ρ)}
    (hf : P.funcs[k]? = some fn) (hN : fn.ntmps = N) (hb : fn.body = some c) (hn : Nat.ble (caps.length + 1) N = true) (hres : fn.results = #[])
    (h : ∀ (σ ρ : Type) (B : Bs) (A : Own1 σ) (Ax : Own1 ρ) (step : σ → α → Option (σ ⊕ ρ)) (l : Nat) (s0 : σ) (y : σ ⊕ ρ), F σ ρ step s0 = some y → YS P B l V A Ax step →
      ∀ H fr gs (Q : Exit → Act → World → Prop), HSub H0 H → A s0 H fr gs →
        (∀ H' f' X fr' gs', HSub H H' → OneOf A Ax y H' fr' gs' → JQ N [] B H' .ret Q f' (X ++ fr') gs' ∧ JQ N [] B H' .normal Q f' (X ++ fr') gs') →
        JC P none N [] B H c Q (frame0 (.func (.yield l) #[] #[] :: caps)) fr gs) : IT P k caps H0 V F := by
  intro σ ρ B A Ax step l s0 y hF hY H fr gs w hsub hA hs
  subst hN
  have hn := Nat.le_of_ble_eq_true hn
  have hargs : (#[Value.func (.yield l) #[] #[]] ++ caps.toArray) = (Value.func (.yield l) #[] #[] :: caps).toArray := by simp
  rw [hargs]
  refine callsIn_of_wp hf hb trivial (h σ ρ B A Ax step l s0 y hF hY H fr gs _ hsub hA ?_ (noOut_body (fun w' hq => by obtain ⟨_, _, _, _, h, _⟩ := hq; cases h) (fun c w' hq => by obtain ⟨_, _, _, _, h, _⟩ := hq; cases h)) _ w (fr_start (by simpa using hn)) hs)
  intro H' f' X fr' gs' k1 k2
  have out : ∀ a w, Fr fn.ntmps [] a f' → St B H' (X ++ fr') gs' w → a.defers = [] ∧ ∃ v, (results fn a.tmps).run P w = .ok v w ∧ ∃ v' H' fr' gs', Ending.returned v = .returned v' ∧ HSub H H' ∧ St B H' fr' gs' w ∧ OneOf A Ax y H' fr' gs' := fun a w ha hs' =>
    ⟨ha.defers, _, RV.results (P := P) (rs := []) (by rw [hres]) .nil ha hs', _, H', fr', gs', rfl, k1, hs'.sub (List.sublist_append_right ..) (List.Sublist.refl _), k2⟩
  exact ⟨fun _ a w ha hs' => out a w ha hs', fun _ a w ha hs' => out a w ha hs'⟩
end
end Go.Dec
