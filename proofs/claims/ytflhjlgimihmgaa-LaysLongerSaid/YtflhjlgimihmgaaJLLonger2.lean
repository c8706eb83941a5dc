/-
  A part of the proof of LLonger: the texts EngLB, EngLC, GenT, Man, GenK0.
-/
import Derived.Test.YtflhjlgimihmgaaJLLonger1
import Derived.Lib.AppendZeros
import Derived.Test.YtflhjlgimihmgaaRows
section
set_option maxRecDepth 100000
set_option maxHeartbeats 40000000
namespace Go.Dec
open Go Go.RowKit
/-- what yield does -/
def YS2 {α σ ρ : Type} (P : Program) (B : Bs) (l : Nat) (V : Hp → List (Nat × Obj) → Value × Value → α → Prop) (A : Own1 σ) (Ax : Own1 ρ) (step : σ → α → Option (σ ⊕ ρ)) : Prop :=
  ∀ s x y v own tl H fr gs w, A s H fr gs → step s x = some y → V H own v x → St B H (own ++ tl ++ fr) gs w → YieldAt (FR none) 0 P l #[v.1, v.2] w (After B H A Ax (own ++ tl) y)
/-- what an iterator does: F runs the caller's step over what is yielded -/
def IT2 {α : Type} (P : Program) (k : Nat) (caps : List Value) (H0 : Hp) (V : Hp → List (Nat × Obj) → Value × Value → α → Prop) (F : ∀ (σ ρ : Type), (σ → α → Option (σ ⊕ ρ)) → σ → Option (σ ⊕ ρ)) : Prop :=
  ∀ (σ ρ : Type) (B : Bs) (A : Own1 σ) (Ax : Own1 ρ) (step : σ → α → Option (σ ⊕ ρ)) (l : Nat) (s0 : σ) (y : σ ⊕ ρ), F σ ρ step s0 = some y → YS2 P B l V A Ax step →
    ∀ H fr gs w, HSub H0 H → A s0 H fr gs → St B H fr gs w →
      CallsIn (FR none) 0 P k (#[.func (.yield l) #[] #[]] ++ caps.toArray) w fun e w' => ∃ v H' fr' gs', e = .returned v ∧ HSub H H' ∧ St B H' fr' gs' w' ∧ OneOf A Ax y H' fr' gs'
def VPlain2 {α : Type} (enc : α → Value × Value) : Hp → List (Nat × Obj) → Value × Value → α → Prop := fun _ own v x => own = [] ∧ v = enc x
section
variable {P : Program} {ro : Option Nat} {N : Nat} {ds : List Deferred} {B : Bs} {H : Hp} {Q : Exit → Act → World → Prop} {f : Nat → Value} {bs : List (Nat × Obj)} {gs : List GS}
/-- for p := range g -/
theorem JC.rangeFunc2 {α σ ρ : Type} {g : Operand} {pr pr2 : Tmp} {assign body : Code} {k : Nat} {caps : List Value} {V : Hp → List (Nat × Obj) → Value × Value → α → Prop} {F : ∀ (σ ρ : Type), (σ → α → Option (σ ⊕ ρ)) → σ → Option (σ ⊕ ρ)}
    {step : σ → α → Option (σ ⊕ ρ)} {s0 : σ} {y : σ ⊕ ρ} (hg : ev f g = .func (.func k) #[] caps.toArray) (he : Ent P k) (hit : IT2 P k caps H V F) (hp : Nat.blt pr N = true) (hp2 : Nat.blt pr2 N = true)
    (hF : F σ ρ step s0 = some y) (A : Own1 σ) (Ax : ρ → Code → Hp → List (Nat × Obj) → List GS → Prop) (h0 : A s0 H bs gs)
    (hbody : ∀ l s x y v own T H' fr gs', A s H' fr gs' → step s x = some y → V H' own v x → HSub H H' →
      JC P (some l) N [] B H' assign (Exit.then (AP P l N B (fun T' => RQ B H' A Ax (own ++ T') y) body T) NoX) (upd (upd f pr v.1) pr2 v.2) (fr ++ (own ++ T)) gs')
    (hdone : ∀ D s H' fr gs', y = .inl s → A s H' fr gs' → HSub H H' → JQ N (⟨.collected D, #[]⟩ :: ds) B H' .normal Q f (fr ++ [(D, .deferred (some []))]) gs')
    (hstop : ∀ D r c H' fr gs', y = .inr r → Ax r c H' fr gs' → HSub H H' → JC P none N (⟨.collected D, #[]⟩ :: ds) B H' c Q f (fr ++ [(D, .deferred (some []))]) gs') :
    JC P none N ds B H (.rangeFunc g #[pr, pr2] assign body) Q f bs gs := fun hQ a w ha hs => by
  refine wpIn_rangeFunc ?_
  intro fn hfn
  have eg : ∀ args w, (callFunc k args).run P w = .ok (.enter k args) w := he
  obtain ⟨rec, hrec⟩ : ∃ rec : LoopState → Option Code → Loop, rec = fun st pe => { state := st, pending := pe, fn, tmps := a.tmps, params := #[pr, pr2], assign, body, defers := w.heap.size } := ⟨_, rfl⟩
  obtain ⟨W1, hW1⟩ : ∃ W1, (w.alloc (.deferred (some []))).alloc (.loop (rec .ready none)) = W1 := ⟨_, rfl⟩
  obtain ⟨l, hl⟩ : ∃ l, l = w.heap.size + 1 := ⟨_, rfl⟩
  obtain ⟨D, hD⟩ : ∃ D, D = w.heap.size := ⟨_, rfl⟩
  have hs1 : St B H (bs ++ [(l, .loop (rec .ready none)), (D, .deferred (some []))]) gs W1 := by
    have h1 := (hs.alloc (.deferred (some []))).alloc (.loop (rec .ready none))
    rw [hW1] at h1
    refine h1.perm ?_
    have : (w.alloc (.deferred (some []))).heap.size = l := by rw [hl]; simp
    rw [this, ← hD]
    exact (List.perm_append_comm (l₁ := [(l, Obj.loop (rec .ready none)), (D, .deferred (some []))]) (l₂ := bs))
  have fin : ∀ (st : LoopState) (pe : Option Code) {H' : Hp} {gs' : List GS} {fc : List (Nat × Obj)} {W : World}, st ≠ .busy → St B H' (fc ++ [(l, .loop (rec st pe)), (D, .deferred (some []))]) gs' W →
      ∃ W', (Instr.endLoop l).run P W = .ok pe W' ∧ St B H' (fc ++ [(D, .deferred (some []))]) gs' W' := fun st pe H' gs' fc W hne hW => by
    have hL := (hW.own (l, .loop (rec st pe)) (by simp)).1
    refine ⟨_, ?_, (hW.putL (.loop { rec st pe with state := .exhausted })).sub (bs' := fc ++ [(D, .deferred (some []))]) ?_ (List.Sublist.refl _)⟩
    · have := run_endLoop (P := P) hL (by rw [hrec]; exact hne)
      rw [hrec] at this ⊢
      exact this
    · exact (List.Sublist.refl fc).append (by simp)
  refine ⟨w.heap.size + 1, [{ target := .collected w.heap.size, args := #[] }], W1, { target := .fn (.func k) caps.toArray, args := #[.func (.yield (w.heap.size + 1)) #[] #[]] }, W1, k,
    #[.func (.yield (w.heap.size + 1)) #[] #[]] ++ caps.toArray, W1, ?_, ?_, ?_, ?_, fun h => by simp [FR] at h, ?_⟩
  · rw [← hW1, hrec]; exact run_enterLoop_outer _ _ _ _ _
  · simp only [resolve, ha.eval, hg]
    simp [go_sem, ev]
  · intro f' hf'; exact trivial
  · simp [invoke, go_sem, eg]
  · rw [← hl, ← hD]
    refine (hit σ ρ B (fun s H' fr gs' => ∃ fc, fr = fc ++ [(l, .loop (rec .ready none)), (D, .deferred (some []))] ∧ A s H' fc gs' ∧ HSub H H')
      (fun r H' fr gs' => ∃ fc c, fr = fc ++ [(l, .loop (rec .done (some c))), (D, .deferred (some []))] ∧ Ax r c H' fc gs' ∧ HSub H H') step l s0 y hF ?_ H _ gs W1 (HSub.refl _) ⟨bs, rfl, h0, HSub.refl _⟩ hs1).mono ?_
    · -- one round
      rintro s x y v own tl H' fr gs' W ⟨fc, rfl, hA, hsub⟩ hst hV hW
      have hP : St B H' (fc ++ (own ++ (tl ++ [(l, .loop (rec .ready none)), (D, .deferred (some []))]))) gs' W := hW.perm (by
        have := (List.perm_append_comm (l₁ := own ++ tl) (l₂ := fc)).append_right [(l, Obj.loop (rec .ready none)), (D, .deferred (some []))]
        simpa using this)
      have hL := (hP.own (l, .loop (rec .ready none)) (by simp)).1
      have hy := run_yield (P := P) (args := #[v.1, v.2]) hL (by rw [hrec]; rfl)
      rw [hrec] at hy
      refine ⟨fn, _, assign, body, hy, roundIn_of_wpIn hfn ?_⟩
      have ha' : Fr N [] { tmps := (#[pr, pr2].zip #[v.1, v.2]).foldl (fun tmps (t, a) => tmps.setIfInBounds t a) a.tmps, defers := [] } (upd (upd f pr v.1) pr2 v.2) := by
        have := Fr.put (ds := ds) (Fr.put (ds := ds) ha hp v.1) hp2 v.2
        refine ⟨?_, rfl, ?_⟩
        · have := this.size; simpa [Act.put] using this
        · intro i; have := this.get i; simpa [Act.put] using this
      refine wpIn_mono (hbody l s x y v own _ H' fc gs' hA hst hV hsub noOut_AP _ W ha' hP) ?_
      intro e a1 w1 hq
      cases e with
      | normal =>
        obtain ⟨H1, f1, bs1, gs1, ha1, hs1, hJ⟩ := hq
        rw [← List.append_assoc] at hs1
        have hL1 := (hs1.own (l, .loop (rec .ready none)) (by simp)).1
        refine ⟨_, run_beginRound hL1 (by rw [hrec]), ?_⟩
        have hs2 := hs1.putL (.loop { rec .ready none with state := .busy })
        rw [List.append_assoc] at hs2
        refine wpIn_mono (hJ _ noOut_RQ a1 _ ha1 hs2) ?_
        have fin2 : ∀ (jump : Option Code) {H'' : Hp} {gs'' : List GS} {fr'' : List (Nat × Obj)} {W3 : World}, St B H'' (fr'' ++ (own ++ (tl ++ [(l, .loop { rec .ready none with state := .busy }), (D, .deferred (some []))]))) gs'' W3 →
            ∃ W4, (Instr.endRound l jump).run P W3 = .ok (.bool jump.isNone) W4 ∧ St B H'' (own ++ tl ++ (fr'' ++ [(l, .loop (rec (if jump.isNone then .ready else .done) jump)), (D, .deferred (some []))])) gs'' W4 := fun jump H'' gs'' fr'' W3 h3 => by
          rw [← List.append_assoc, ← List.append_assoc] at h3
          have hL3 := (h3.own (l, .loop { rec .ready none with state := .busy }) (by simp)).1
          have hr := run_endRound (P := P) jump hL3
          refine ⟨_, hr, ?_⟩
          have h4 := h3.putL (.loop { ({ rec .ready none with state := .busy } : Loop) with state := if jump.isNone then .ready else .done, pending := jump })
          have e4 : ({ ({ rec .ready none with state := .busy } : Loop) with state := if jump.isNone then .ready else .done, pending := jump } : Loop) = rec (if jump.isNone then .ready else .done) jump := by rw [hrec]
          rw [e4] at h4 ⊢
          refine h4.perm ?_
          have := (List.perm_append_comm (l₁ := fr'') (l₂ := own ++ tl)).append_right [(l, Obj.loop (rec (if jump.isNone then .ready else .done) jump)), (D, .deferred (some []))]
          simpa using this
        intro e a3 W3 hp3
        cases e with
        | normal =>
          obtain ⟨s', rfl, H'', fr'', gs'', k1, k2, k3⟩ := hp3
          obtain ⟨W4, r1, r2⟩ := fin2 none k3
          exact ⟨_, _, r1, H'', _, gs'', k1, r2, rfl, fr'', rfl, k2, hsub.trans k1⟩
        | ret =>
          obtain ⟨r, rfl, H'', fr'', gs'', k1, k2, k3⟩ := hp3
          obtain ⟨W4, r1, r2⟩ := fin2 (some .ret) k3
          exact ⟨_, _, r1, H'', _, gs'', k1, r2, rfl, fr'', _, rfl, k2, hsub.trans k1⟩
        | exit id =>
          obtain ⟨r, rfl, H'', fr'', gs'', k1, k2, k3⟩ := hp3
          obtain ⟨W4, r1, r2⟩ := fin2 (some (.exit id)) k3
          exact ⟨_, _, r1, H'', _, gs'', k1, r2, rfl, fr'', _, rfl, k2, hsub.trans k1⟩
        | goto t =>
          obtain ⟨r, rfl, H'', fr'', gs'', k1, k2, k3⟩ := hp3
          obtain ⟨W4, r1, r2⟩ := fin2 (some (.goto t)) k3
          exact ⟨_, _, r1, H'', _, gs'', k1, r2, rfl, fr'', _, rfl, k2, hsub.trans k1⟩
        | panic ch => exact hp3.elim
        | outgrown => exact hp3.elim
      | exit id => exact hq.elim
      | goto t => exact hq.elim
      | ret => exact hq.elim
      | panic ch => exact hq.elim
      | outgrown => exact hq.elim
    · -- behind the iterator
      rintro e W2 ⟨v, H', fr', gs', rfl, hsub, hW, hy⟩
      have ha2 : Fr N (⟨.collected D, #[]⟩ :: ds) { a with defers := [⟨.collected D, #[]⟩] ++ a.defers } f := ⟨ha.size, by simp [ha.defers], ha.get⟩
      cases y with
      | inl s =>
        obtain ⟨fc, rfl, hA, _⟩ := hy
        obtain ⟨W', r1, r2⟩ := fin .ready none (by simp) hW
        exact ⟨none, W', r1, hdone D s H' fc gs' rfl hA hsub hQ _ W' ha2 r2⟩
      | inr r =>
        obtain ⟨fc, c, rfl, hA, _⟩ := hy
        obtain ⟨W', r1, r2⟩ := fin .done (some c) (by simp) hW
        exact ⟨some c, W', r1, hstop D r c H' fc gs' rfl hA hsub hQ _ W' ha2 r2⟩
/-- the call of yield itself -/
theorem JL.atYield2 {σ ρ : Type} {l : List Oper} {m n lY d : Nat} {x z z2 : Operand} {tt : Array TypeId} {t : TypeId} {p : String} {af : Array Edge} {post : List Oper} {A : Own1 σ} {Ax : Own1 ρ} {tl : List (Nat × Obj)} {y : σ ⊕ ρ}
    (hQ : NoOut Q) (hnd : noDefer l = true) (hl : l.drop m = ⟨some d, .call { callee := .value x, args := #[z, z2], argTypes := tt }, t, p, af, none⟩ :: post) (hn : l.length - m = n)
    (hx : ev f x = .func (.yield lY) #[] #[]) (hd : Nat.blt d N = true) (hy : ∀ w, St B H bs gs w → YieldAt (FR none) 0 P lY #[ev f z, ev f z2] w (After B H A Ax tl y))
    (hgo : ∀ s H' fr gs', y = .inl s → HSub H H' → A s H' fr gs' → JL .plain P N ds B H' l Q post (upd f d (.bool true)) (tl ++ fr) gs')
    (hstop : ∀ r H' fr gs', y = .inr r → HSub H H' → Ax r H' fr gs' → JL .plain P N ds B H' l Q post (upd f d (.bool false)) (tl ++ fr) gs') :
    JL .plain P N ds B H l (YQ P Q l m n) [] f bs gs := .nil fun a w ha hs => by
  have hlen : l.length - m = post.length + 1 := by rw [← List.length_drop, hl]; rfl
  show wpOpsIn (FR none) 0 P l.toArray Q (List.range' m n) a w
  rw [← hn, hlen, List.range'_succ]
  have hget : ∀ j, l[m + j]? = (l.drop m)[j]? := fun j => by rw [List.getElem?_drop]
  have h0 : l.toArray[m]? = some ⟨some d, .call { callee := .value x, args := #[z, z2], argTypes := tt }, t, p, af, none⟩ := by
    have := hget 0; rw [hl] at this; simpa using this
  unfold wpOpsIn
  simp only [h0]
  have hw : Region.wanted ⟨some d, .call { callee := .value x, args := #[z, z2], argTypes := tt }, t, p, af, none⟩ (yielded l.toArray a.tmps) = true := by simp [Region.wanted]
  rw [if_pos hw]
  refine ⟨fun _ _ => trivial, ?_⟩
  obtain ⟨fn, tmps, assign, body, hrun, hround⟩ := hy w hs
  have hexec : (execOp a.eval ⟨some d, .call { callee := .value x, args := #[z, z2], argTypes := tt }, t, p, af, none⟩).run P w = .ok (.round lY fn tmps assign body) w := by
    rw [ha.eval]
    simp [execOp, hx, hrun, resolve, invoke, go_sem]
  rw [Oper.semAt_eq _ _ _ (by intro c; simp), hexec, Oper.uponIn_round]
  refine ⟨fun h => by simp [FR] at h, hround.mono ?_⟩
  intro e w'' hr
  have hrest : ∀ {v : Value} {H' : Hp} {bs' : List (Nat × Obj)} {gs' : List GS}, St B H' bs' gs' w'' → JL .plain P N ds B H' l Q post (upd f d v) bs' gs' → wpOpsIn (FR none) 0 P l.toArray Q (List.range' (m + 1) post.length) (a.put (some d) v) w'' := fun h1 h2 =>
    wpOpsIn_of_wpOps hnd hQ _ _ _ (wpOps_of_wpList post (m + 1) (fun j hj => by
      have := hget (j + 1)
      rw [hl] at this
      rw [Nat.add_assoc, Nat.add_comm 1 j]
      simpa using this.symm) _ _ (h2 _ _ (ha.put hd _) h1))
  cases e with
  | returned v =>
    obtain ⟨H', fr, gs', k1, k2, k3⟩ := hr
    cases y with
    | inl s => obtain ⟨rfl, k4⟩ := k3; exact hrest k2 (hgo s H' fr gs' rfl k1 k4)
    | inr r => obtain ⟨rfl, k4⟩ := k3; exact hrest k2 (hstop r H' fr gs' rfl k1 k4)
  | panicked c => exact hr.elim
  | outgrown => exact hr.elim
end
section
variable {P : Program}
/-- an iterator's contract out of its body -/
theorem IT2.of {α : Type} {k N : Nat} {fn : Func} {c : Code} {caps : List Value} {H0 : Hp} {V : Hp → List (Nat × Obj) → Value × Value → α → Prop} {F : ∀ (σ ρ : Type), (σ → α → Option (σ ⊕ ρ)) → σ → Option (σ ⊕ ρ)}
    (hf : P.funcs[k]? = some fn) (hN : fn.ntmps = N) (hb : fn.body = some c) (hn : Nat.ble (caps.length + 1) N = true) (hres : fn.results = #[])
    (h : ∀ (σ ρ : Type) (B : Bs) (A : Own1 σ) (Ax : Own1 ρ) (step : σ → α → Option (σ ⊕ ρ)) (l : Nat) (s0 : σ) (y : σ ⊕ ρ), F σ ρ step s0 = some y → YS2 P B l V A Ax step →
      ∀ H fr gs (Q : Exit → Act → World → Prop), HSub H0 H → A s0 H fr gs →
        (∀ H' f' X fr' gs', HSub H H' → OneOf A Ax y H' fr' gs' → JQ N [] B H' .ret Q f' (X ++ fr') gs' ∧ JQ N [] B H' .normal Q f' (X ++ fr') gs') →
        JC P none N [] B H c Q (frame0 (.func (.yield l) #[] #[] :: caps)) fr gs) : IT2 P k caps H0 V F := by
  intro σ ρ B A Ax step l s0 y hF hY H fr gs w hsub hA hs
  subst hN
  have hn := Nat.le_of_ble_eq_true hn
  have hargs : (#[Value.func (.yield l) #[] #[]] ++ caps.toArray) = (Value.func (.yield l) #[] #[] :: caps).toArray := by simp
  rw [hargs]
  refine callsIn_of_wp hf hb trivial (h σ ρ B A Ax step l s0 y hF hY H fr gs _ hsub hA ?_ (noOut_body (fun w' hq => by obtain ⟨_, _, _, _, h, _⟩ := hq; cases h) (fun c w' hq => by obtain ⟨_, _, _, _, h, _⟩ := hq; cases h)) _ w (fr_start (by simpa using hn)) hs)
  intro H' f' X fr' gs' k1 k2
  have out : ∀ a w, Fr fn.ntmps [] a f' → St B H' (X ++ fr') gs' w → a.defers = [] ∧ ∃ v, (results fn a.tmps).run P w = .ok v w ∧ ∃ v' H' fr' gs', Ending.returned v = .returned v' ∧ HSub H H' ∧ St B H' fr' gs' w ∧ OneOf A Ax y H' fr' gs' := fun a w ha hs' =>
    ⟨ha.defers, _, RV.results (P := P) (rs := []) (by rw [hres]) .nil ha hs', _, H', fr', gs', rfl, k1, hs'.sub (List.sublist_append_right ..) (List.Sublist.refl _), k2⟩
  exact ⟨fun _ a w ha hs' => out a w ha hs', fun _ a w ha hs' => out a w ha hs'⟩
end
def lenck (n : Nat) (l : List Int) : Option Unit := if l.length = n then some () else none
theorem lenck_some {n : Nat} {l : List Int} {u : Unit} (h : lenck n l = some u) : l.length = n := by
  unfold lenck at h
  split at h
  · assumption
  · cases h
section
variable {P : Program} {N : Nat} {ds : List Deferred} {B : Bs} {H : Hp} {ops : List Oper} {Q : Exit → Act → World → Prop} {rest : List Oper} {f : Nat → Value} {bs : List (Nat × Obj)} {gs : List GS}
theorem JL.takeG (n : Nat) (h : JL .plain P N ds B H ops Q rest f bs (gs.take n)) : JL .plain P N ds B H ops Q rest f bs gs := fun a w ha hs => h a w ha (hs.sub (List.Sublist.refl _) (List.take_sublist n gs))
theorem JQ.assocG {e : Exit} {q0 : GS} {a b c : List GS} (h : JQ N ds B H e Q f bs (q0 :: ((a ++ b) ++ c))) : JQ N ds B H e Q f bs (q0 :: (a ++ (b ++ c))) := by
  rw [List.append_assoc] at h; exact h
end
theorem len12 {l : List Int} (h : l.length = 12) : ∃ t0 t1 t2 t3 t4 t5 t6 t7 t8 t9 t10 t11, l = [t0, t1, t2, t3, t4, t5, t6, t7, t8, t9, t10, t11] := by
  match l, h with
  | [t0, t1, t2, t3, t4, t5, t6, t7, t8, t9, t10, t11], _ => exact ⟨t0, t1, t2, t3, t4, t5, t6, t7, t8, t9, t10, t11, rfl⟩
section
variable {q : Md} {P : Program} {N : Nat} {ds : List Deferred} {B : Bs} {H : Hp} {ops : List Oper} {Q : Exit → Act → World → Prop} {rest : List Oper} {f : Nat → Value} {bs : List (Nat × Obj)} {gs : List GS}
variable {d : Nat} {t : TypeId} {p : String} {af : Array Edge} {g : Option (Nat × Bool)}
theorem JL.buildAm {kd : IntKind} {tk : List Int} {t' : TypeId} {parts : List (Nat × Operand)} {A : List Value} {v v0 v1 : Value} (hl : tk.length = 12) (hp : parts.map (fun (i, x) => (i, ev f x)) = [(0, v0), (1, v1), (2, .agg (av kd tk).toArray)])
    (hb : ∀ t0 t1 t2 t3 t4 t5 t6 t7 t8 t9 t10 t11, P.built t' [(0, v0), (1, v1), (2, .agg (av kd [t0, t1, t2, t3, t4, t5, t6, t7, t8, t9, t10, t11]).toArray)] = some (A ++ (av kd [t0, t1, t2, t3, t4, t5, t6, t7, t8, t9, t10, t11] ++ [v])).toArray) (hw : Want ops f g) (hd : Nat.blt d N = true)
    (h : JL q P N ds B H ops Q rest (upd f d (.agg (A ++ (av kd tk ++ [v])).toArray)) bs gs) : JL q P N ds B H ops Q (⟨some d, .build t' parts.toArray, t, p, af, g⟩ :: rest) f bs gs := by
  refine JL.build (l := A ++ (av kd tk ++ [v])) ?_ hw hd h
  rw [hp]
  obtain ⟨t0, t1, t2, t3, t4, t5, t6, t7, t8, t9, t10, t11, rfl⟩ := len12 hl
  exact hb ..
end
end Go.Dec
end
section
namespace Go.Dec
open Go Go.RowKit
def RK (k : IntKind) : Rl Int := fun _ cs x => cs = [.int k x]
theorem RK.mono {k : IntKind} : Mono (RK k) := fun _ _ _ _ _ h => h
theorem RK.one {k : IntKind} : ∀ (H : Hp) (cs : List Value) (x : Int), RK k H cs x → AllOne cs := by rintro H cs x rfl; exact one_cons rfl one_nil
/-- a byte of a string -/
def sidx (s : ByteArray) (i : Int) : Option Int := if 0 ≤ i then (s[i.toNat]?).map (fun b => (b.toNat : Int)) else none
def growck (i : Int) : Option Unit := if 0 ≤ i ∧ i ≤ 4294967296 then some () else none
theorem growck_some {i : Int} {u : Unit} (h : growck i = some u) : 0 ≤ i ∧ i ≤ 4294967296 := by
  unfold growck at h
  split at h
  · assumption
  · cases h
/-- a part of a list taken out -/
def delck {α : Type} (l : List α) (i j : Int) : Option (List α) := if 0 ≤ i ∧ i < j ∧ j ≤ l.length then some (l.take i.toNat ++ l.drop j.toNat) else none
section
variable {q : Md} {P : Program} {ro : Option Nat} {N : Nat} {ds : List Deferred} {B : Bs} {H : Hp} {ops : List Oper} {Q : Exit → Act → World → Prop} {rest : List Oper} {f : Nat → Value} {bs : List (Nat × Obj)} {gs : List GS}
variable {d : Nat} {t : TypeId} {p : String} {af : Array Edge} {g : Option (Nat × Bool)}
theorem JL.indexStr {tx : TypeId} {x ix : Operand} {k : IntKind} {i y : Int} {s : ByteArray} (ht : P.underlying tx = some .string) (hx : ev f x = .string s) (hi : ev f ix = .int k i) (hy : sidx s i = some y) (hw : Want ops f g) (hd : Nat.blt d N = true)
    (h : JL q P N ds B H ops Q rest (upd f d (.int .u8 y)) bs gs) : JL q P N ds B H ops Q (⟨some d, .index tx x ix, t, p, af, g⟩ :: rest) f bs gs :=
  .val hw hd (fun w _ => by
    unfold sidx at hy
    split at hy
    · rename_i h0
      cases hb : s[i.toNat]? with
      | none => rw [hb] at hy; cases hy
      | some b =>
        rw [hb] at hy
        simp only [Option.map_some, Option.some.injEq] at hy
        subst hy
        simp [execOp, hx, hi, Instr.index, asIntOf, run_underlying ht, h0, hb]
    · cases hy) h
theorem JL.conv {src dst : TypeId} {ud : TypeDesc} {x : Operand} {k k' : IntKind} {n : Int} (h1 : P.underlying src = some ud) (h2 : P.underlying dst = some (.int k')) (hx : ev f x = .int k n) (hw : Want ops f g) (hd : Nat.blt d N = true)
    (h : JL q P N ds B H ops Q rest (upd f d (.int k' (k'.wrap n))) bs gs) : JL q P N ds B H ops Q (⟨some d, .convert src dst x, t, p, af, g⟩ :: rest) f bs gs :=
  .val hw hd (fun w _ => by simp [execOp, hx, Go.convert, run_underlying h1, run_underlying h2, Conv.intToInt]) h
theorem slc0 {α : Type} {l m : List α} {i : Int} (h : slc l 0 i = some m) : 0 ≤ i ∧ i ≤ l.length ∧ m = l.take i.toNat ∧ m.length = i.toNat := by
  unfold slc at h
  split at h
  · rename_i hb
    simp only [Int.toNat_zero, List.drop_zero, Option.some.injEq] at h
    subst h
    exact ⟨hb.2.1, hb.2.2, rfl, by rw [List.length_take]; omega⟩
  · cases h
/-- the front of an array that is data -/
theorem JL.sliceArrF {kd : IntKind} {tx e : TypeId} {n : Nat} {x hi : Operand} {b : Nat} {i : Int} {k : IntKind} {l m : List Int} (ht : arrT P tx = some (e, n)) (hz : aggsz P e = some (false, 1)) (hx : ev f x = .pointer (some ⟨b, 0, none⟩)) (hhi : ev f hi = .int k i) (hc : Cells H b 0 (av kd l)) (hl : l.length = n) (hn : Nat.ble n 65536 = true) (hm : slc l 0 i = some m) (hw : Want ops f g) (hd : Nat.blt d N = true)
    (h : ∀ v, SL H 1 (RK kd) v m → JL q P N ds B H ops Q rest (upd f d v) bs gs) : JL q P N ds B H ops Q (⟨some d, .slice tx x none (some hi) none, t, p, af, g⟩ :: rest) f bs gs := by
  obtain ⟨h0, h1, rfl, hlen⟩ := slc0 hm
  have hn' := Nat.le_of_ble_eq_true hn
  refine .val (v := .slice (some ⟨b, 0, none⟩) i.toNat n) hw hd (fun w _ => ?_) (h _ ?_)
  · obtain ⟨_, h2, _⟩ := run_isAgg_of (w := w) hz
    unfold arrT at ht
    split at ht
    · rename_i n' e' hu
      simp only [Option.some.injEq, Prod.mk.injEq] at ht
      obtain ⟨rfl, rfl⟩ := ht
      have hu' : P.underlying tx = some (.array (P.arrayLen tx) (P.elem tx)) := by simp [Program.arrayLen, Program.elem, hu]
      have hin : i ≤ P.arrayLen tx := by simp [Program.arrayLen, hu]; omega
      have hr := run_sliceAt_array_h (P := P) w tx ⟨b, 0, none⟩ hu' k i h0 hin
      have he : P.elem tx = e' := by simp [Program.elem, hu]
      have ha : P.arrayLen tx = n' := by simp [Program.arrayLen, hu]
      rw [he, ha] at hr
      simp only [h2, Result.andThen_ok] at hr
      simp [execOp, hx, hhi, hr, slicedAt, Addr.add]
    · cases ht
  · refine ⟨_, n, by rw [hlen], ⟨by rw [hlen]; omega, by rw [hlen]; omega⟩, .inr ⟨b, 0, rfl, fun j y hy => ?_⟩⟩
    obtain ⟨c, e', fz, k1, k2⟩ := hc
    have hy' : l[j]? = some y := by
      rw [List.getElem?_take] at hy
      split at hy
      · exact hy
      · cases hy
    refine ⟨[.int kd y], ⟨c, e', fz, k1, fun t v hv => ?_⟩, rfl, rfl⟩
    have ht0 : t = 0 := by
      have := (List.getElem?_eq_some_iff.1 hv).1
      simp only [List.length_cons, List.length_nil] at this
      omega
    subst ht0
    simp only [List.getElem?_cons_zero, Option.some.injEq] at hv
    subst hv
    have := k2 j (.int kd y) (by simp [av, hy'])
    simpa using this
theorem elemT {tx e : TypeId} (hu : P.underlying tx = some (.slice e)) : P.underlying tx = some (.slice (P.elem tx)) ∧ P.elem tx = e := by simp [Program.elem, hu]
theorem JL.capSl {tx e : TypeId} {x : Operand} {a : Option Addr} {n c : Nat} (ht : P.underlying tx = some (.slice e)) (hx : ev f x = .slice a n c) (hw : Want ops f g) (hd : Nat.blt d N = true)
    (h : JL q P N ds B H ops Q rest (upd f d (.int .i64 c)) bs gs) : JL q P N ds B H ops Q (⟨some d, .call ⟨.builtin .cap, #[x], #[tx]⟩, t, p, af, g⟩ :: rest) f bs gs :=
  .val hw hd (fun w _ => by
    have := run_cap_slice (P := P) w tx t a n c (elemT ht).1
    simp [execOp, resolve, invoke, builtin, hx, this, goInt]) h
theorem JL.permG {l : List Oper} {gs' : List GS} (hp : gs.Perm gs') (h : JL .plain P N ds B H ops Q l f bs gs') : JL .plain P N ds B H ops Q l f bs gs := fun a w ha hs => h a w ha (hs.permG hp)
/-- a slice of a slice, whatever it holds -/
theorem JL.sliceH {tx e : TypeId} {sz : Nat} {x hi : Operand} {a : Option Addr} {n c : Nat} {k : IntKind} {i : Int} (ht : slT P tx = some (e, sz)) (hx : ev f x = .slice a n c) (hhi : ev f hi = .int k i) (h0 : 0 ≤ i) (h1 : i ≤ c) (hw : Want ops f g) (hd : Nat.blt d N = true)
    (h : JL q P N ds B H ops Q rest (upd f d (sliced a 0 i.toNat c sz)) bs gs) : JL q P N ds B H ops Q (⟨some d, .slice tx x none (some hi) none, t, p, af, g⟩ :: rest) f bs gs := by
  refine .val hw hd (fun w _ => ?_) h
  unfold slT at ht
  split at ht
  · rename_i e' hu
    split at ht
    · rename_i ti hti
      simp only [Option.some.injEq, Prod.mk.injEq] at ht
      obtain ⟨rfl, rfl⟩ := ht
      have hr := run_slice_h (P := P) w tx a n c (elemT hu).1 k i h0 h1
      rw [(elemT hu).2] at hr
      simp [execOp, hx, hhi, run_sliceAt_slice (P := P) w tx _ _ _ _ (elemT hu).1, hr, sizeOf, typeInfo, hti]
    · cases ht
  · cases ht
theorem JL.sliceL {tx e : TypeId} {sz : Nat} {x lo : Operand} {a : Option Addr} {n c : Nat} {k : IntKind} {i : Int} (ht : slT P tx = some (e, sz)) (hx : ev f x = .slice a n c) (hlo : ev f lo = .int k i) (h0 : 0 ≤ i) (h1 : i ≤ n) (hw : Want ops f g) (hd : Nat.blt d N = true)
    (h : JL q P N ds B H ops Q rest (upd f d (sliced a i.toNat n c sz)) bs gs) : JL q P N ds B H ops Q (⟨some d, .slice tx x (some lo) none none, t, p, af, g⟩ :: rest) f bs gs := by
  refine .val hw hd (fun w _ => ?_) h
  unfold slT at ht
  split at ht
  · rename_i e' hu
    split at ht
    · rename_i ti hti
      simp only [Option.some.injEq, Prod.mk.injEq] at ht
      obtain ⟨rfl, rfl⟩ := ht
      have hr := run_slice_l (P := P) w tx a n c (elemT hu).1 k i h0 h1
      rw [(elemT hu).2] at hr
      simp [execOp, hx, hlo, run_sliceAt_slice (P := P) w tx _ _ _ _ (elemT hu).1, hr, sizeOf, typeInfo, hti]
    · cases ht
  · cases ht
theorem JL.sliceLH {tx e : TypeId} {sz : Nat} {x lo hi : Operand} {a : Option Addr} {n c : Nat} {k k' : IntKind} {i j : Int} (ht : slT P tx = some (e, sz)) (hx : ev f x = .slice a n c) (hlo : ev f lo = .int k i) (hhi : ev f hi = .int k' j) (h0 : 0 ≤ i) (h1 : i ≤ j) (h2 : j ≤ c) (hw : Want ops f g) (hd : Nat.blt d N = true)
    (h : JL q P N ds B H ops Q rest (upd f d (sliced a i.toNat j.toNat c sz)) bs gs) : JL q P N ds B H ops Q (⟨some d, .slice tx x (some lo) (some hi) none, t, p, af, g⟩ :: rest) f bs gs := by
  refine .val hw hd (fun w _ => ?_) h
  unfold slT at ht
  split at ht
  · rename_i e' hu
    split at ht
    · rename_i ti hti
      simp only [Option.some.injEq, Prod.mk.injEq] at ht
      obtain ⟨rfl, rfl⟩ := ht
      have hr := run_slice_lh (P := P) w tx a n c (elemT hu).1 k k' i j h0 h1 h2
      rw [(elemT hu).2] at hr
      simp [execOp, hx, hlo, hhi, run_sliceAt_slice (P := P) w tx _ _ _ _ (elemT hu).1, hr, sizeOf, typeInfo, hti]
    · cases ht
  · cases ht
theorem JL.sliceLHM {tx e : TypeId} {sz : Nat} {x lo hi mx : Operand} {a : Option Addr} {n c : Nat} {k k' k2 : IntKind} {i j m : Int} (ht : slT P tx = some (e, sz)) (hx : ev f x = .slice a n c) (hlo : ev f lo = .int k i) (hhi : ev f hi = .int k' j) (hmx : ev f mx = .int k2 m) (h0 : 0 ≤ i) (h1 : i ≤ j) (h2 : j ≤ m) (h3 : m ≤ c) (hw : Want ops f g) (hd : Nat.blt d N = true)
    (h : JL q P N ds B H ops Q rest (upd f d (sliced a i.toNat j.toNat m.toNat sz)) bs gs) : JL q P N ds B H ops Q (⟨some d, .slice tx x (some lo) (some hi) (some mx), t, p, af, g⟩ :: rest) f bs gs := by
  refine .val hw hd (fun w _ => ?_) h
  unfold slT at ht
  split at ht
  · rename_i e' hu
    split at ht
    · rename_i ti hti
      simp only [Option.some.injEq, Prod.mk.injEq] at ht
      obtain ⟨rfl, rfl⟩ := ht
      have hr := run_slice_lhm (P := P) w tx a n c (elemT hu).1 k k' k2 i j m h0 h1 h2 h3
      rw [(elemT hu).2] at hr
      simp [execOp, hx, hlo, hhi, hmx, run_sliceAt_slice (P := P) w tx _ _ _ _ (elemT hu).1, hr, sizeOf, typeInfo, hti]
    · cases ht
  · cases ht
/-- a row of zeros is made by an append onto nothing -/
theorem JL.appendZ {tx tn e : TypeId} {sz by_ : Nat} {x y : Operand} {k kn : IntKind} {i : Int} (hA : apT P tx = some (e, sz, by_)) (htn : P.underlying tn = some (.int kn)) (hx : ev f x = .slice none 0 0) (hy : ev f y = .int k i) (h0 : 0 < i) (h1 : i ≤ 4294967296) (hw : Want ops f g) (hd : Nat.blt d N = true)
    (h : ∀ b cap xs, xs.length = i.toNat * sz → JL .plain P N ds B H ops Q rest (upd f d (.slice (some ⟨b, 0, none⟩) i.toNat cap)) bs (⟨.slice (some ⟨b, 0, none⟩) i.toNat cap, e, sz, i.toNat, xs⟩ :: gs)) : JL .plain P N ds B H ops Q (⟨some d, .call ⟨.builtin .append, #[x, y], #[tx, tn]⟩, t, p, af, g⟩ :: rest) f bs gs :=
  .step hw fun a w ha hs => by
    obtain ⟨ti, z, hu, hti, hz, hsz, hby, hzs, hpos, hb⟩ := apT_spec hA
    subst hsz
    subst hby
    have hi : (i.toNat : Int) = i := Int.toNat_of_nonneg (by omega)
    have hbyt : i.toNat * ti.bytes ≤ 140737488355328 := Nat.le_trans (Nat.mul_le_mul (show i.toNat ≤ 4294967296 by omega) hb) (by decide)
    have hr := Lib.run_append_nil_zeros (P := P) w tx tn t e ti z k kn hu htn hti hz i.toNat (by omega) hpos (by omega) (by omega)
    have h63 : i.toNat ≤ maxLen := by simp only [maxLen]; omega
    have hge := grownCap_ge w i.toNat 0 e
    have hcm := grownCap_le_maxLen w i.toNat 0 e h63
    have hlz : (Builtin.zeroCells z.cells i.toNat).size = i.toNat * ti.size := by rw [size_zeroCells, hzs]
    have hown : (w.drew.alloc (.cells (Builtin.zeroCells z.cells i.toNat ++ Builtin.zeroCells z.cells (grownCap w i.toNat 0 e - i.toNat)) e)).ownsRow B.w.heap.size e ti.size
        (.slice (some ⟨w.heap.size, 0, none⟩) i.toNat (grownCap w i.toNat 0 e)) i.toNat (Builtin.zeroCells z.cells i.toNat).toList := by
      refine ⟨by simpa using hlz, .inr ⟨w.heap.size, _, _, rfl, hs.below.size, heap_alloc_new w.drew _, hge, hcm, ?_, ?_⟩⟩
      · simp only [Array.size_append, size_zeroCells, hzs, ← Nat.add_mul]
        congr 1
        omega
      · simp only [Array.toList_append]
        have : i.toNat * ti.size = (Builtin.zeroCells z.cells i.toNat).toList.length := by simpa using hlz.symm
        rw [this]
        exact List.take_left
    unfold Oper.wp
    have hr' : (execOp (ev f) ⟨some d, .call ⟨.builtin .append, #[x, y], #[tx, tn]⟩, t, p, af, g⟩).run P w = .ok (.value (.slice (some ⟨w.heap.size, 0, none⟩) i.toNat (grownCap w i.toNat 0 e))) (w.drew.alloc (.cells (Builtin.zeroCells z.cells i.toNat ++ Builtin.zeroCells z.cells (grownCap w i.toNat 0 e - i.toNat)) e)) := by
      rw [hi] at hr
      simp [execOp, resolve, invoke, builtin, hx, hy, hr]
    rw [ha.eval, hr']
    have hst := hs.addRow (w' := w.drew.alloc (.cells (Builtin.zeroCells z.cells i.toNat ++ Builtin.zeroCells z.cells (grownCap w i.toNat 0 e - i.toNat)) e)) ⟨rfl, rfl, rfl, by simp, fun k hk _ => heap_alloc_old w.drew _ hk⟩ hown rfl
    exact h _ _ _ (by rw [Array.length_toList]; exact hlz) _ _ (ha.put hd _) hst
/-- the row is none of its elements -/
theorem JL.cutRow {gb cap n k' sz : Nat} {e : TypeId} {xs ys : List Value} {l : List Oper} (hx : xs.length = n * sz) (h : JL .plain P N ds B H ops Q l f bs (⟨.slice (some ⟨gb, 0, none⟩) n cap, e, sz, n, xs⟩ :: gs)) : JL .plain P N ds B H ops Q l f bs (⟨.slice (some ⟨gb, 0, none⟩) (n + k') cap, e, sz, n + k', xs ++ ys⟩ :: gs) := fun a w ha hs => h a w ha (hs.cut hx)
/-- an append of a row's own end onto its front -/
theorem JL.appendIn {tx e : TypeId} {sz by_ : Nat} {x y : Operand} {gb cap n i m c : Nat} {A : Addr} {j : Nat} {xs : List Value} (hA : apT P tx = some (e, sz, by_)) (hx : ev f x = .slice (some ⟨gb, 0, none⟩) i cap) (hy : ev f y = .slice (some A) m c) (hAj : m = 0 ∨ A = ⟨gb, j * sz, none⟩) (hi : i ≤ n) (hjm : j + m ≤ n) (him : i + m ≤ n) (h1 : AllOne xs) (hw : Want ops f g) (hd : Nat.blt d N = true)
    (h : JL .plain P N ds B H ops Q rest (upd f d (.slice (some ⟨gb, 0, none⟩) (i + m) cap)) bs (⟨.slice (some ⟨gb, 0, none⟩) (i + m) cap, e, sz, i + m, xs.take (i * sz) ++ (xs.drop (j * sz)).take (m * sz)⟩ :: gs)) :
    JL .plain P N ds B H ops Q (⟨some d, .call ⟨.builtin .append, #[x, y], #[tx, tx]⟩, t, p, af, g⟩ :: rest) f bs (⟨.slice (some ⟨gb, 0, none⟩) n cap, e, sz, n, xs⟩ :: gs) :=
  .step hw fun a w ha hs => by
    obtain ⟨ti, z, hu, hti, hz, hsz, hby, hzs, hpos, hb⟩ := apT_spec hA
    subst hsz
    obtain ⟨hxl, h2⟩ := hs.row _ List.mem_cons_self
    rcases h2 with ⟨h0, _⟩ | ⟨g', cap', cur, hv, hbg, hg, hnc, hcm, hcs, htake⟩
    · cases h0
    · cases hv
      simp only at hxl hg hnc hcs htake
      have hnews : ∀ t u, ((xs.drop (j * ti.size)).take (m * ti.size))[t]? = some u → w.cell? (A.add t) = some u := fun t u hu => by
        have hlt := (List.getElem?_eq_some_iff.1 hu).1
        rcases hAj with rfl | rfl
        · simp at hlt
        · rw [Addr.add_mid, cell_of_cells hg]
          have hmt : t < m * ti.size := by
            have := List.length_take_le (m * ti.size) (xs.drop (j * ti.size)); omega
          rw [List.getElem?_take, if_pos hmt, List.getElem?_drop, ← htake, List.getElem?_take] at hu
          split at hu
          · simpa using hu
          · cases hu
      have hjn : j * ti.size + m * ti.size ≤ n * ti.size := by rw [← Nat.add_mul]; exact Nat.mul_le_mul_right _ hjm
      have hlnews : ((xs.drop (j * ti.size)).take (m * ti.size)).length = m * ti.size := by simp; omega
      have hone : ∀ u ∈ (xs.drop (j * ti.size)).take (m * ti.size), u.oneCell' = true := fun u hu => h1 u (List.mem_of_mem_drop (List.mem_of_mem_take hu))
      have hcap : i + m ≤ cap := by omega
      have him' : i * ti.size + m * ti.size ≤ n * ti.size := by rw [← Nat.add_mul]; exact Nat.mul_le_mul_right _ him
      have hncs : n * ti.size ≤ cur.size := by rw [hcs]; exact Nat.mul_le_mul_right _ hnc
      have hfit : i * ti.size + ((xs.drop (j * ti.size)).take (m * ti.size)).length ≤ cur.size := by rw [hlnews]; omega
      have hr := run_append_room (P := P) w tx t e ti hu hti gb i cap cur hg A m c _ hlnews hnews hone hcap hfit
      unfold Oper.wp
      have hr' : (execOp (ev f) ⟨some d, .call ⟨.builtin .append, #[x, y], #[tx, tx]⟩, t, p, af, g⟩).run P w = .ok (.value (.slice (some ⟨gb, 0, none⟩) (i + m) cap)) (w.setRow gb (cur.toList.take (i * ti.size) ++ ((xs.drop (j * ti.size)).take (m * ti.size)) ++ cur.toList.drop (i * ti.size + ((xs.drop (j * ti.size)).take (m * ti.size)).length)).toArray) := by
        simp [execOp, resolve, invoke, builtin, hx, hy, hr]
      rw [ha.eval, hr']
      have htk : cur.toList.take (i * ti.size) = xs.take (i * ti.size) := by
        rw [← htake, List.take_take, Nat.min_eq_left (by rw [← Nat.add_mul] at him'; exact Nat.mul_le_mul_right _ hi)]
      have hlt : (xs.take (i * ti.size) ++ (xs.drop (j * ti.size)).take (m * ti.size)).length = (i + m) * ti.size := by rw [List.length_append, hlnews, List.length_take, Nat.add_mul]; omega
      generalize hcur : (cur.toList.take (i * ti.size) ++ ((xs.drop (j * ti.size)).take (m * ti.size)) ++ cur.toList.drop (i * ti.size + ((xs.drop (j * ti.size)).take (m * ti.size)).length)) = new
      have hst := hs.regrow (j := 0) (q := ⟨.slice (some ⟨gb, 0, none⟩) n cap, e, ti.size, n, xs⟩) (w' := w.setRow gb new.toArray) (v' := .slice (some ⟨gb, 0, none⟩) (i + m) cap) (n' := i + m) (xs' := xs.take (i * ti.size) ++ (xs.drop (j * ti.size)).take (m * ti.size)) rfl
        ⟨rfl, rfl, rfl, by simp, fun k _ hk => setRow_other w gb k _ (fun e => hk (by simp [Value.ownBlock, e]))⟩ ⟨hlt, .inr ⟨gb, cap, _, rfl, hbg, setRow_heap w gb cur _ e _ hg, hcap, hcm, ?_, ?_⟩⟩ (.inl rfl)
      · exact h _ _ (ha.put hd _) hst
      · rw [← hcur]
        simp only [List.size_toArray, List.length_append, List.length_take, List.length_drop, Array.length_toList, hlnews]
        omega
      · rw [← hcur, htk]
        simp only
        rw [← hlt]
        exact List.take_left
/-- what lies behind a row is cleared -/
theorem JL.clearTail {tx e : TypeId} {sz by_ : Nat} {x : Operand} {gb cap n m c : Nat} {xs zs : List Value} (hA : apT P tx = some (e, sz, by_)) (hz : zeroL P e = some zs) (hz1 : AllOne zs) (hx : ev f x = .slice (some ⟨gb, n * sz, none⟩) m c) (hm : 0 < m) (hcap : n + m ≤ cap) (hw : Want ops f g)
    (h : JL .plain P N ds B H ops Q rest f bs (⟨.slice (some ⟨gb, 0, none⟩) n cap, e, sz, n, xs⟩ :: gs)) :
    JL .plain P N ds B H ops Q (⟨none, .call ⟨.builtin .clear, #[x], #[tx]⟩, t, p, af, g⟩ :: rest) f bs (⟨.slice (some ⟨gb, 0, none⟩) n cap, e, sz, n, xs⟩ :: gs) :=
  .step hw fun a w ha hs => by
    obtain ⟨ti, z, hu, hti, hzz, hsz, hby, hzs, hpos, hb⟩ := apT_spec hA
    subst hsz
    obtain ⟨hxl, h2⟩ := hs.row _ List.mem_cons_self
    rcases h2 with ⟨h0, _⟩ | ⟨g', cap', cur, hv, hbg, hg, hnc, hcm, hcs, htake⟩
    · cases h0
    · cases hv
      simp only at hxl hg hnc hcs htake
      have hzv : ∀ w, (zeroValue e).run P w = .ok z w := fun w => by simp [zeroValue, typeInfo, hti, hzz]
      have hzl : zs = z.cells.toList := by
        unfold zeroL at hz
        rw [hti] at hz
        simp only [hzz, Option.map_some, Option.some.injEq] at hz
        rw [← hz, vcells_eq]
      have hlz : (Builtin.zeroCells z.cells m).toList.length = m * ti.size := by simp [size_zeroCells, hzs]
      have hone : ∀ u ∈ (Builtin.zeroCells z.cells m).toList, u.oneCell' = true := fun u hu => by
        simp only [Builtin.zeroCells, Array.toList_map, List.mem_map, Array.mem_toList_iff, Array.mem_range] at hu
        obtain ⟨k, _, rfl⟩ := hu
        have hk : k % z.cells.size < z.cells.size := Nat.mod_lt _ (by omega)
        rw [getElem!_pos z.cells _ hk]
        exact hz1 _ (by rw [hzl]; exact Array.mem_toList_iff.2 (Array.getElem_mem hk))
      have hfit : n * ti.size + 0 + (Builtin.zeroCells z.cells m).toList.length ≤ cur.size := by
        rw [hlz, Nat.add_zero, ← Nat.add_mul, hcs]; exact Nat.mul_le_mul_right _ hcap
      have hst := run_storeCells_at P gb (n * ti.size) e (Builtin.zeroCells z.cells m).toList 0 cur w hg hfit hone
      simp only [Nat.add_zero] at hst
      unfold Oper.wp
      have hr' : (execOp (ev f) ⟨none, .call ⟨.builtin .clear, #[x], #[tx]⟩, t, p, af, g⟩).run P w = .ok (.value (.tuple #[])) (w.setRow gb (cur.toList.take (n * ti.size) ++ (Builtin.zeroCells z.cells m).toList ++ cur.toList.drop (n * ti.size + (Builtin.zeroCells z.cells m).toList.length)).toArray) := by
        obtain ⟨m', rfl⟩ : ∃ m', m = m' + 1 := ⟨m - 1, by omega⟩
        simp [execOp, resolve, invoke, builtin, hx, Builtin.clear_, run_underlying hu, hzv, hst]
      rw [ha.eval, hr']
      generalize hcur : cur.toList.take (n * ti.size) ++ (Builtin.zeroCells z.cells m).toList ++ cur.toList.drop (n * ti.size + (Builtin.zeroCells z.cells m).toList.length) = new
      have hst := hs.regrow (j := 0) (q := ⟨.slice (some ⟨gb, 0, none⟩) n cap, e, ti.size, n, xs⟩) (w' := w.setRow gb new.toArray) (v' := .slice (some ⟨gb, 0, none⟩) n cap) (n' := n) (xs' := xs) rfl
        ⟨rfl, rfl, rfl, by simp, fun k _ hk => setRow_other w gb k _ (fun e => hk (by simp [Value.ownBlock, e]))⟩ ⟨hxl, .inr ⟨gb, cap, _, rfl, hbg, setRow_heap w gb cur _ e _ hg, hnc, hcm, ?_, ?_⟩⟩ (.inl rfl)
      · exact h a _ ha hst
      · rw [← hcur]
        simp only [List.size_toArray, List.length_append, List.length_take, List.length_drop, Array.length_toList, hlz]
        rw [Nat.add_zero, hlz] at hfit
        omega
      · rw [← hcur]
        have hle : n * ti.size ≤ cur.size := by rw [hcs]; exact Nat.mul_le_mul_right _ hnc
        have hl2 : (cur.toList.take (n * ti.size)).length = n * ti.size := by simp; omega
        simp only [List.append_assoc]
        rw [List.take_append_of_le_length (by omega), List.take_of_length_le (by omega)]
        exact htake
end
end Go.Dec
end
section
namespace Go.Proofs.Ytflhjlgimihmgaa
open Go Go.RowKit Go.Dec
set_option linter.unusedVariables false
structure Cell where
 Row : Int
 Col : Int
structure Span where
 Low : Int
 High : Int
structure Panel where
 Rows : List Span
structure Lap where
 Width : Int
 Length : Int
 Faults : List Cell
 Flaws : List Cell
 Panels : List Panel
structure Place where
 Row : Int
 Col : Int
 Turned : Int
def R_Cell : Rl Cell := fun _ cs x => cs = [.int .i64 x.Row, .int .i64 x.Col]
theorem R_Cell_mono : Mono R_Cell := fun _ _ _ _ _ h => h
theorem R_Cell_one : ∀ (H : Hp) (cs : List Value) (x : Cell), R_Cell H cs x → AllOne cs := by
 rintro H cs x rfl
 exact (one_cons rfl (one_cons rfl one_nil))
def R_Span : Rl Span := fun _ cs x => cs = [.int .i64 x.Low, .int .i64 x.High]
theorem R_Span_mono : Mono R_Span := fun _ _ _ _ _ h => h
theorem R_Span_one : ∀ (H : Hp) (cs : List Value) (x : Span), R_Span H cs x → AllOne cs := by
 rintro H cs x rfl
 exact (one_cons rfl (one_cons rfl one_nil))
def R_Panel : Rl Panel := fun H cs x => ∃ v0 : Value, cs = [v0] ∧ SL H 2 R_Span v0 x.Rows
theorem R_Panel_mono : Mono R_Panel := by
 rintro H H' h cs x ⟨v0, hcs, h0⟩
 exact ⟨v0, hcs, SL.mono R_Span_mono h h0⟩
def R_Lap : Rl Lap := fun H cs x => ∃ v2 v3 v4 : Value, cs = [.int .i64 x.Width, .int .i64 x.Length, v2, v3, v4] ∧ SL H 2 R_Cell v2 x.Faults ∧ SL H 2 R_Cell v3 x.Flaws ∧ SL H 1 R_Panel v4 x.Panels
def R_Place : Rl Place := fun _ cs x => cs = [.int .i64 x.Row, .int .i64 x.Col, .int .i64 x.Turned]
theorem R_Place_mono : Mono R_Place := fun _ _ _ _ _ h => h
def str_0 : ByteArray := ⟨#[0, 1, 1, 2, 1, 2, 2, 3, 1, 2, 2, 3, 2, 3, 3, 4, 1, 2, 2, 3, 2, 3, 3, 4, 2, 3, 3, 4, 3, 4, 4, 5, 1, 2, 2, 3, 2, 3, 3, 4, 2, 3, 3, 4, 3, 4, 4, 5, 2, 3, 3, 4, 3, 4, 4, 5, 3, 4, 4, 5, 4, 5, 5, 6, 1, 2, 2, 3, 2, 3, 3, 4, 2, 3, 3, 4, 3, 4, 4, 5, 2, 3, 3, 4, 3, 4, 4, 5, 3, 4, 4, 5, 4, 5, 5, 6, 2, 3, 3, 4, 3, 4, 4, 5, 3, 4, 4, 5, 4, 5, 5, 6, 3, 4, 4, 5, 4, 5, 5, 6, 4, 5, 5, 6, 5, 6, 6, 7, 1, 2, 2, 3, 2, 3, 3, 4, 2, 3, 3, 4, 3, 4, 4, 5, 2, 3, 3, 4, 3, 4, 4, 5, 3, 4, 4, 5, 4, 5, 5, 6, 2, 3, 3, 4, 3, 4, 4, 5, 3, 4, 4, 5, 4, 5, 5, 6, 3, 4, 4, 5, 4, 5, 5, 6, 4, 5, 5, 6, 5, 6, 6, 7, 2, 3, 3, 4, 3, 4, 4, 5, 3, 4, 4, 5, 4, 5, 5, 6, 3, 4, 4, 5, 4, 5, 5, 6, 4, 5, 5, 6, 5, 6, 6, 7, 3, 4, 4, 5, 4, 5, 5, 6, 4, 5, 5, 6, 5, 6, 6, 7, 4, 5, 5, 6, 5, 6, 6, 7, 5, 6, 6, 7, 6, 7, 7, 8]⟩
theorem en_70 : Ent Try.prog 70 := enters_of Try.func70 (by kernel_rfl) rfl
theorem fo_27_0 : fieldOff Try.prog 27 0 = some 0 := by kernel_rfl
theorem az_3 : aggsz Try.prog 3 = some (false, 1) := by kernel_rfl
theorem fo_25_1 : fieldOff Try.prog 25 1 = some 1 := by kernel_rfl
theorem en_51 : Ent Try.prog 51 := enters_of Try.func51 (by kernel_rfl) rfl
theorem fo_27_1 : fieldOff Try.prog 27 1 = some 1 := by kernel_rfl
theorem fo_25_0 : fieldOff Try.prog 25 0 = some 0 := by kernel_rfl
theorem ul_22 : Try.prog.underlying 22 = some (.slice 27) := by kernel_rfl
theorem sl_22 : slT Try.prog 22 = some (27, 2) := by kernel_rfl
theorem az_27 : aggsz Try.prog 27 = some (true, 2) := by kernel_rfl
theorem eqa_27 (a0 a1 b0 b1 : Int) (w : World) : (Op.equal 27 (.agg [.int .i64 a0, .int .i64 a1].toArray) (.agg [.int .i64 b0, .int .i64 b1].toArray)).run Try.prog w = .ok ((a0 == b0) && (a1 == b1)) w := by
 have h := run_equalIn_struct (P := Try.prog) w 9999 27 #[.int .i64 a0, .int .i64 a1] #[.int .i64 b0, .int .i64 b1] (by kernel_rfl) (by kernel_rfl)
 have h2 : (Op.eqFields 9999 #[.int .i64 a0, .int .i64 a1] #[.int .i64 b0, .int .i64 b1] (Try.prog.fieldsOf 27).toList).run Try.prog w = .ok ((a0 == b0) && (a1 == b1)) w := by
  cases e0 : (a0 == b0)
  ·simp [go_sem, Program.fieldsOf, e0]
  cases e1 : (a1 == b1)
  ·simp [go_sem, Program.fieldsOf, e0, e1]
  simp [go_sem, Program.fieldsOf, e0, e1]
 exact h.trans h2
theorem eqg_27 : Try.prog.eqGuardType Try.prog.depth 27 = false := by kernel_rfl
theorem mo_ : Try.prog.follows .mixedOrders = true := by kernel_rfl
theorem az_25 : aggsz Try.prog 25 = some (true, 5) := by kernel_rfl
theorem en_52 : Ent Try.prog 52 := enters_of Try.func52 (by kernel_rfl) rfl
theorem en_53 : Ent Try.prog 53 := enters_of Try.func53 (by kernel_rfl) rfl
theorem fo_30_0 : fieldOff Try.prog 30 0 = some 0 := by kernel_rfl
theorem az_28 : aggsz Try.prog 28 = some (false, 1) := by kernel_rfl
theorem ul_28 : Try.prog.underlying 28 = some (.slice 46) := by kernel_rfl
theorem sl_28 : slT Try.prog 28 = some (46, 2) := by kernel_rfl
theorem fo_46_0 : fieldOff Try.prog 46 0 = some 0 := by kernel_rfl
theorem fo_46_1 : fieldOff Try.prog 46 1 = some 1 := by kernel_rfl
theorem fo_25_2 : fieldOff Try.prog 25 2 = some 2 := by kernel_rfl
theorem az_22 : aggsz Try.prog 22 = some (false, 1) := by kernel_rfl
theorem en_63 : Ent Try.prog 63 := enters_of Try.func63 (by kernel_rfl) rfl
theorem fo_25_3 : fieldOff Try.prog 25 3 = some 3 := by kernel_rfl
theorem fo_25_4 : fieldOff Try.prog 25 4 = some 4 := by kernel_rfl
theorem az_23 : aggsz Try.prog 23 = some (false, 1) := by kernel_rfl
theorem ul_23 : Try.prog.underlying 23 = some (.slice 30) := by kernel_rfl
theorem sl_23 : slT Try.prog 23 = some (30, 1) := by kernel_rfl
theorem az_30 : aggsz Try.prog 30 = some (true, 1) := by kernel_rfl
theorem en_64 : Ent Try.prog 64 := enters_of Try.func64 (by kernel_rfl) rfl
theorem en_34 : Ent Try.prog 34 := enters_of Try.func34 (by kernel_rfl) rfl
theorem en_27 : Ent Try.prog 27 := enters_of Try.func27 (by kernel_rfl) rfl
theorem ze_25 : zeroL Try.prog 25 = some [.int .i64 0, .int .i64 0, .slice none 0 0, .slice none 0 0, .slice none 0 0] := by kernel_rfl
theorem ul_108 : Try.prog.underlying 108 = some (.slice 22) := by kernel_rfl
theorem sl_108 : slT Try.prog 108 = some (22, 1) := by kernel_rfl
theorem en_74 : Ent Try.prog 74 := enters_of Try.func74 (by kernel_rfl) rfl
theorem ap_22 : apT Try.prog 22 = some (27, 2, 16) := by kernel_rfl
theorem en_75 : Ent Try.prog 75 := enters_of Try.func75 (by kernel_rfl) rfl
theorem en_48 : Ent Try.prog 48 := enters_of Try.func48 (by kernel_rfl) rfl
theorem az_46 : aggsz Try.prog 46 = some (true, 2) := by kernel_rfl
theorem ze_46 : zeroL Try.prog 46 = some [.int .i64 0, .int .i64 0] := by kernel_rfl
theorem en_62 : Ent Try.prog 62 := enters_of Try.func62 (by kernel_rfl) rfl
theorem en_59 : Ent Try.prog 59 := enters_of Try.func59 (by kernel_rfl) rfl
theorem ze_27 : zeroL Try.prog 27 = some [.int .i64 0, .int .i64 0] := by kernel_rfl
theorem mp_98 : mpT Try.prog 98 = some (27, 3) := by kernel_rfl
theorem laid_ : laidOutB Try.prog = true := by kernel_rfl
theorem kt_27 : KT Try.prog 27 2 ekA := KT.agg laid_ (by kernel_rfl) (by kernel_rfl) (by kernel_rfl) (by kernel_rfl)
theorem en_61 : Ent Try.prog 61 := enters_of Try.func61 (by kernel_rfl) rfl
theorem en_60 : Ent Try.prog 60 := enters_of Try.func60 (by kernel_rfl) rfl
theorem ze_85 : zeroL Try.prog 85 = some [.int .u16 0, .int .u16 0, .int .u16 0, .int .u16 0, .int .u16 0, .int .u16 0, .int .u16 0, .int .u16 0, .int .u16 0, .int .u16 0, .int .u16 0, .int .u16 0] := by kernel_rfl
theorem ar_85 : arrT Try.prog 85 = some (83, 12) := by kernel_rfl
theorem az_83 : aggsz Try.prog 83 = some (false, 1) := by kernel_rfl
theorem az_85 : aggsz Try.prog 85 = some (true, 12) := by kernel_rfl
theorem ze_3 : zeroL Try.prog 3 = some [.int .i64 0] := by kernel_rfl
theorem ze_28 : zeroL Try.prog 28 = some [.slice none 0 0] := by kernel_rfl
theorem en_77 : Ent Try.prog 77 := enters_of Try.func77 (by kernel_rfl) rfl
theorem ap_28 : apT Try.prog 28 = some (46, 2, 16) := by kernel_rfl
theorem en_80 : Ent Try.prog 80 := enters_of Try.func80 (by kernel_rfl) rfl
theorem fo_106_2 : fieldOff Try.prog 106 2 = some 6 := by kernel_rfl
theorem fo_106_0 : fieldOff Try.prog 106 0 = some 0 := by kernel_rfl
theorem fo_62_2 : fieldOff Try.prog 62 2 = some 2 := by kernel_rfl
theorem en_71 : Ent Try.prog 71 := enters_of Try.func71 (by kernel_rfl) rfl
theorem fo_62_0 : fieldOff Try.prog 62 0 = some 0 := by kernel_rfl
theorem fo_62_1 : fieldOff Try.prog 62 1 = some 1 := by kernel_rfl
theorem fo_106_1 : fieldOff Try.prog 106 1 = some 5 := by kernel_rfl
theorem fo_106_3 : fieldOff Try.prog 106 3 = some 18 := by kernel_rfl
theorem az_54 : aggsz Try.prog 54 = some (false, 1) := by kernel_rfl
theorem az_62 : aggsz Try.prog 62 = some (true, 3) := by kernel_rfl
theorem ap_54 : apT Try.prog 54 = some (62, 3, 24) := by kernel_rfl
theorem ul_54 : Try.prog.underlying 54 = some (.slice 62) := by kernel_rfl
theorem az_106 : aggsz Try.prog 106 = some (true, 19) := by kernel_rfl
theorem ze_106 : zeroL Try.prog 106 = some [.int .i64 0, .int .i64 0, .slice none 0 0, .slice none 0 0, .slice none 0 0, .int .i64 0, .int .u16 0, .int .u16 0, .int .u16 0, .int .u16 0, .int .u16 0, .int .u16 0, .int .u16 0, .int .u16 0, .int .u16 0, .int .u16 0, .int .u16 0, .int .u16 0, .slice none 0 0] := by kernel_rfl
theorem en_68 : Ent Try.prog 68 := enters_of Try.func68 (by kernel_rfl) rfl
theorem en_69 : Ent Try.prog 69 := enters_of Try.func69 (by kernel_rfl) rfl
theorem en_33 : Ent Try.prog 33 := enters_of Try.func33 (by kernel_rfl) rfl
theorem en_45 : Ent Try.prog 45 := enters_of Try.func45 (by kernel_rfl) rfl
theorem en_44 : Ent Try.prog 44 := enters_of Try.func44 (by kernel_rfl) rfl
theorem en_43 : Ent Try.prog 43 := enters_of Try.func43 (by kernel_rfl) rfl
theorem en_14 : Ent Try.prog 14 := enters_of Try.func14 (by kernel_rfl) rfl
theorem en_47 : Ent Try.prog 47 := enters_of Try.func47 (by kernel_rfl) rfl
theorem en_46 : Ent Try.prog 46 := enters_of Try.func46 (by kernel_rfl) rfl
theorem ap_48 : apT Try.prog 48 = some (3, 1, 8) := by kernel_rfl
theorem un_9 : Try.prog.underlying 9 = some .string := by kernel_rfl
theorem un_5 : Try.prog.underlying 5 = some (.int .u8) := by kernel_rfl
theorem un_3 : Try.prog.underlying 3 = some (.int .i64) := by kernel_rfl
theorem ul_90 : Try.prog.underlying 90 = some (.slice 83) := by kernel_rfl
theorem sl_90 : slT Try.prog 90 = some (83, 1) := by kernel_rfl
theorem en_49 : Ent Try.prog 49 := enters_of Try.func49 (by kernel_rfl) rfl
theorem en_42 : Ent Try.prog 42 := enters_of Try.func42 (by kernel_rfl) rfl
theorem en_17 : Ent Try.prog 17 := enters_of Try.func17 (by kernel_rfl) rfl
theorem en_18 : Ent Try.prog 18 := enters_of Try.func18 (by kernel_rfl) rfl
theorem en_22 : Ent Try.prog 22 := enters_of Try.func22 (by kernel_rfl) rfl
theorem ul_48 : Try.prog.underlying 48 = some (.slice 3) := by kernel_rfl
theorem sl_48 : slT Try.prog 48 = some (3, 1) := by kernel_rfl
theorem ap_23 : apT Try.prog 23 = some (30, 1, 24) := by kernel_rfl
theorem en_19 : Ent Try.prog 19 := enters_of Try.func19 (by kernel_rfl) rfl
theorem en_10 : Ent Try.prog 10 := enters_of Try.func10 (by kernel_rfl) rfl
theorem en_11 : Ent Try.prog 11 := enters_of Try.func11 (by kernel_rfl) rfl
theorem en_12 : Ent Try.prog 12 := enters_of Try.func12 (by kernel_rfl) rfl
theorem ze_30 : zeroL Try.prog 30 = some [.slice none 0 0] := by kernel_rfl
theorem en_54 : Ent Try.prog 54 := enters_of Try.func54 (by kernel_rfl) rfl
theorem en_26 : Ent Try.prog 26 := enters_of Try.func26 (by kernel_rfl) rfl
end Go.Proofs.Ytflhjlgimihmgaa
end
section
set_option maxRecDepth 100000
set_option maxHeartbeats 40000000
namespace Go.Proofs.Ytflhjlgimihmgaa
open Go Go.RowKit Go.Dec
set_option linter.unusedVariables false
theorem mz_sl : slT Try.prog 28 = some (46, 2) := by kernel_rfl
theorem mz_azs : aggsz Try.prog 28 = some (false, 1) := by kernel_rfl
theorem mz_aze : aggsz Try.prog 46 = some (true, 2) := by kernel_rfl
theorem mz_ul : Try.prog.underlying 28 = some (.slice 46) := by kernel_rfl
def I_slices_Backward___api_Span_api_Span__1_s {σ ρ : Type} (l : List Span) (cs : σ → Int × Span → Option (σ ⊕ ρ)) : Int × σ → Option ((Int × σ) ⊕ (σ ⊕ ρ))
  | (i, s) => if decide (0 ≤ i) = true then ((geti l i).bind fun x => (cs s (i, x)).bind fun y => match y with | .inl s' => some (.inl (w64 (i - 1), s')) | .inr e => some (.inr (.inr e))) else some (.inr (.inl s))
def I_slices_Backward___api_Span_api_Span__1 {σ ρ : Type} (n : Nat) (l : List Span) (cs : σ → Int × Span → Option (σ ⊕ ρ)) (s : σ) : Option (σ ⊕ ρ) :=
  loopO n (I_slices_Backward___api_Span_api_Span__1_s l cs) (w64 ((l.length : Int) - 1), s)
set_option maxRecDepth 100000 in
set_option maxHeartbeats 4000000 in
theorem it_slices_Backward___api_Span_api_Span__1 (n : Nat) (H : Hp) (l : List Span) (l_v0 : Value) (hl_0 : SL H 2 R_Span l_v0 l) (l_b : Nat) (l_c : Cells H l_b 0 [l_v0]) :
    IT2 Try.prog 80 [.pointer (some ⟨l_b, 0, none⟩)] H (VPlain2 fun (x : Int × Span) => (.int .i64 x.1, .agg [.int .i64 x.2.Low, .int .i64 x.2.High].toArray)) (fun _ _ cs s => I_slices_Backward___api_Span_api_Span__1 n l cs s) := by
  refine IT2.of (N := 19) Try.func80 rfl rfl rfl rfl fun σ ρ B A Ax cs lY s0 y hF hY H1 fr gs Q hs1 hA hout => ?_
  unfold I_slices_Backward___api_Span_api_Span__1 at hF
  refine JC.seq ?_
  refine JC.region (by rfl) ?_
  intro hQ
  refine JL.loadH 0 mz_azs rfl (Cells.mono hs1 l_c) rfl .none rfl ?_
  refine JL.lenSL (R := R_Span) mz_ul (SL.mono R_Span_mono hs1 hl_0) .none rfl ?_
  refine JL.bin rfl rfl rfl .none rfl ?_
  refine JL.assign .none rfl ?_
  refine JL.done hQ ?_
  refine JQ.go ?_
  refine JC.block ?_
  refine JC.loop hF (fun (z : Int × σ) Hz f bs gs => match z with | (r, s) => f 0 = .func (.yield lY) #[] #[] ∧ f 1 = .pointer (some ⟨l_b, 0, none⟩) ∧ f 3 = .int .i64 r ∧ A s Hz bs gs ∧ HSub H1 Hz) ⟨rfl, rfl, rfl, hA, HSub.refl _⟩ ?_
  rintro ⟨r, s⟩ x H2 f bs gs2 ⟨hf0, hf1, hf3, hA2, hs2⟩ hF hr
  rw [I_slices_Backward___api_Span_api_Span__1_s] at hF
  refine (JC.norm (i := 0) hf0 (JC.norm (i := 1) hf1 (JC.norm (i := 3) hf3 ?_)))
  refine JC.seq ?_
  refine JC.seq ?_
  refine JC.region (by rfl) ?_
  intro hQ
  refine JL.move .none rfl ?_
  refine JL.bin rfl rfl rfl .none rfl ?_
  refine JL.done hQ ?_
  refine JQ.go ?_
  rcases ite_some hF with ⟨hc, hF⟩ | ⟨hc, hF⟩
  · refine JC.cond_t (b := decide (0 ≤ r)) rfl hc ?_
    refine JC.skip ?_
    refine JQ.go ?_
    refine JC.seq ?_
    refine JC.block ?_
    refine JC.seq ?_
    obtain ⟨x0, hx0, hF⟩ := bind_some hF
    obtain ⟨y0, hy0, hF⟩ := bind_some hF
    refine JC.regionY _ 6 rfl rfl (by rfl) ?_
    intro hQ
    refine JL.move .none rfl ?_
    refine JL.move .none rfl ?_
    refine JL.loadH 0 mz_azs rfl (Cells.mono (hs1.trans hs2) l_c) rfl .none rfl ?_
    refine JL.move .none rfl ?_
    refine JL.indexSL (R := R_Span) mz_sl (SL.mono R_Span_mono (hs1.trans hs2) hl_0) rfl hx0 .none rfl ?_
    rintro b1 o1 cs1 hc1 - rfl
    refine JL.loadH 0 mz_aze rfl hc1 rfl .none rfl ?_
    refine JL.atYield2 (A := A) (Ax := Ax) (y := y0) (tl := []) hQ (by rfl) rfl rfl rfl rfl (fun w hw => hY s (r, x0) y0 _ [] [] H2 bs gs2 w hA2 hy0 ⟨rfl, rfl⟩ hw) ?_ ?_
    · rintro s' H3 fr3 gs3 rfl hs3 hA3
      refine JL.not rfl .none rfl ?_
      refine JL.done hQ ?_
      refine JQ.go ?_
      refine JC.cond_f (b := !true) rfl rfl ?_
      refine JC.skip ?_
      refine JQ.normal_block ?_
      refine JQ.go ?_
      refine JC.region (by rfl) ?_
      intro hQ
      refine JL.move .none rfl ?_
      refine JL.bin rfl rfl rfl .none rfl ?_
      refine JL.assign .none rfl ?_
      refine JL.done hQ ?_
      obtain rfl := Option.some.inj hF
      exact JQ.next rfl ⟨rfl, rfl, rfl, hA3, hs2.trans hs3⟩
    · rintro e H3 fr3 gs3 rfl hs3 hA3
      refine JL.not rfl .none rfl ?_
      refine JL.done hQ ?_
      refine JQ.go ?_
      refine JC.cond_t (b := !false) rfl rfl ?_
      refine JC.ret ?_
      refine JQ.ret_block ?_
      refine JQ.ret_then ?_
      refine JQ.ret_then ?_
      refine JQ.ret_block ?_
      obtain rfl := Option.some.inj hF
      have e2 := hr _ rfl
      subst e2
      exact (hout H3 _ [] fr3 gs3 (hs2.trans hs3) hA3).1
  · refine JC.cond_f (b := decide (0 ≤ r)) rfl hc ?_
    refine JC.exit ?_
    refine JQ.exit_then ?_
    refine JQ.exit_then ?_
    refine JQ.exit_block ?_
    obtain rfl := Option.some.inj hF
    have e2 := hr _ rfl
    subst e2
    exact (hout H2 _ [] bs gs2 hs2 hA2).2
theorem mz_ap : apT Try.prog 22 = some (27, 2, 16) := by kernel_rfl
theorem mz_sl22 : slT Try.prog 22 = some (27, 2) := by kernel_rfl
theorem mz_ul22 : Try.prog.underlying 22 = some (.slice 27) := by kernel_rfl
theorem mz_i3 : Try.prog.underlying 3 = some (.int .i64) := by kernel_rfl
theorem mz_ze : zeroL Try.prog 27 = some [.int .i64 0, .int .i64 0] := by kernel_rfl
theorem mz_mo : Try.prog.follows .mixedOrders = true := by kernel_rfl
set_option maxRecDepth 100000 in
set_option maxHeartbeats 4000000 in
/-- slices.Grow of nil: an empty row with room -/
theorem c_Grow (H : Hp) (i : Int) (u : Unit) (hu : growck i = some u) : OC Try.prog 74 [.slice none 0 0, .int .i64 i] H 27 2 (fun m xs => m = 0 ∧ xs = []) := by
  obtain ⟨h0, h1⟩ := growck_some hu
  have hw : w64 (i - w64 (((0 : Nat) : Int) - ((0 : Nat) : Int))) = i := by
    have e : w64 (((0 : Nat) : Int) - ((0 : Nat) : Int)) = 0 := by decide
    rw [e, Int.sub_zero]
    simp only [w64, IntKind.wrap_i64]; omega
  refine OC.of (N := 27) Try.func74 rfl rfl rfl fun w => ?_
  refine JC.seq ?_
  refine JC.region (by rfl) ?_
  intro hQ
  refine JL.assign .none rfl ?_
  refine JL.done hQ ?_
  refine JQ.go ?_
  refine JC.seq ?_
  refine JC.seq ?_
  refine JC.region (by rfl) ?_
  intro hQ
  refine JL.move .none rfl ?_
  refine JL.bin rfl rfl rfl .none rfl ?_
  refine JL.done hQ ?_
  refine JQ.go ?_
  refine JC.cond_f (b := decide (i < 0)) rfl (by simp; omega) ?_
  refine JC.skip ?_
  refine JQ.go ?_
  refine JC.seq ?_
  refine JC.seq ?_
  refine JC.region (by rfl) ?_
  intro hQ
  refine JL.move .none rfl ?_
  refine JL.move .none rfl ?_
  refine JL.capSl mz_ul22 rfl .none rfl ?_
  refine JL.move .none rfl ?_
  refine JL.len mz_ul22 rfl .none rfl ?_
  refine JL.bin rfl rfl rfl .none rfl ?_
  refine JL.bin rfl rfl rfl .none rfl ?_
  refine JL.assign .none rfl ?_
  refine JL.done hQ ?_
  refine JQ.go ?_
  refine JC.seq ?_
  refine JC.region (by rfl) ?_
  intro hQ
  refine JL.move .none rfl ?_
  refine JL.bin rfl rfl rfl .none rfl ?_
  refine JL.done hQ ?_
  refine JQ.go ?_
  by_cases hp : 0 < i
  · refine JC.cond_t (b := decide (0 < w64 (i - w64 (((0 : Nat) : Int) - ((0 : Nat) : Int))))) rfl (by rw [hw]; simp [hp]) ?_
    refine JC.region (by rfl) ?_
    intro hQ
    refine JL.move .none rfl ?_
    refine JL.move .none rfl ?_
    refine JL.capSl mz_ul22 rfl .none rfl ?_
    refine JL.sliceH mz_sl22 rfl rfl (by decide) (by decide) .none rfl ?_
    refine JL.move .none rfl ?_
    refine JL.appendZ (i := i) mz_ap mz_i3 rfl (congrArg (Value.int .i64) hw) hp h1 .none rfl ?_
    intro b cap xs hxs
    refine JL.move .none rfl ?_
    refine JL.len mz_ul22 rfl .none rfl ?_
    refine JL.sliceH mz_sl22 rfl rfl (by decide) (by omega) .none rfl ?_
    have e0 : sliced (some (⟨b, 0, none⟩ : Addr)) 0 ((0 : Nat) : Int).toNat cap 2 = .slice (some ⟨b, 0, none⟩) 0 cap := by simp [sliced, Addr.add]
    rw [e0]
    have ec : ∀ (gs : List GS) (z : GS), z = ⟨.slice (some ⟨b, 0, none⟩) (0 + i.toNat) cap, 27, 2, 0 + i.toNat, [] ++ xs⟩ → (⟨.slice (some ⟨b, 0, none⟩) i.toNat cap, 27, 2, i.toNat, xs⟩ : GS) = z := fun _ z hz => by rw [hz]; simp
    rw [ec [] _ rfl]
    refine JL.cutRow rfl ?_
    refine JL.assign .none rfl ?_
    refine JL.done hQ ?_
    refine JQ.go ?_
    refine JC.seq ?_
    refine JC.region (by rfl) ?_
    intro hQ
    refine JL.move .none rfl ?_
    refine JL.assign .none rfl ?_
    refine JL.done hQ ?_
    refine JQ.go ?_
    refine JC.ret ?_
    exact JQ.outO 0 rfl rfl rfl ⟨rfl, rfl⟩ ⟨rfl, rfl⟩
  · refine JC.cond_f (b := decide (0 < w64 (i - w64 (((0 : Nat) : Int) - ((0 : Nat) : Int))))) rfl (by rw [hw]; simp; omega) ?_
    refine JC.skip ?_
    refine JQ.go ?_
    refine JC.newNil (e := 27) (sz := 2) ?_
    refine JC.seq ?_
    refine JC.region (by rfl) ?_
    intro hQ
    refine JL.move .none rfl ?_
    refine JL.assign .none rfl ?_
    refine JL.done hQ ?_
    refine JQ.go ?_
    refine JC.ret ?_
    exact JQ.outO 0 rfl rfl rfl ⟨rfl, rfl⟩ ⟨rfl, rfl⟩
theorem CH.delck {H : Hp} {xs : List Value} {l y : List Cell} {i j : Int} (h : CH H 2 R_Cell xs l) (hy : delck l i j = some y) : CH H 2 R_Cell (xs.take (i.toNat * 2) ++ (xs.drop (j.toNat * 2)).take ((l.length - j.toNat) * 2)) y ∧ y.length = i.toNat + (l.length - j.toNat) ∧ 0 ≤ i ∧ i < j ∧ j ≤ l.length := by
  unfold Dec.delck at hy
  split at hy
  · rename_i hb
    obtain ⟨h0, h1, h2⟩ := hb
    simp only [Option.some.injEq] at hy
    subst hy
    have htake : CH H 2 R_Cell (xs.take (i.toNat * 2)) (l.take i.toNat) := by
      refine ⟨by rw [List.length_take, List.length_take, h.1]; omega, fun k x hk => ?_⟩
      rw [List.getElem?_take] at hk
      split at hk
      · rename_i hlt
        obtain ⟨cs, k1, k2, k3⟩ := h.2 k x hk
        refine ⟨cs, k1, k2, fun t v hv => ?_⟩
        have := (List.getElem?_eq_some_iff.1 hv).1
        rw [List.getElem?_take, if_pos (by omega)]
        exact k3 t v hv
      · cases hk
    have hdrop : CH H 2 R_Cell ((xs.drop (j.toNat * 2)).take ((l.length - j.toNat) * 2)) (l.drop j.toNat) := by
      have hfull : (xs.drop (j.toNat * 2)).take ((l.length - j.toNat) * 2) = xs.drop (j.toNat * 2) := List.take_of_length_le (by rw [List.length_drop, h.1]; omega)
      rw [hfull]
      refine ⟨by rw [List.length_drop, List.length_drop, h.1]; omega, fun k x hk => ?_⟩
      rw [List.getElem?_drop] at hk
      obtain ⟨cs, k1, k2, k3⟩ := h.2 _ x hk
      refine ⟨cs, k1, k2, fun t v hv => ?_⟩
      rw [List.getElem?_drop]
      have := k3 t v hv
      rw [show j.toNat * 2 + (k * 2 + t) = (j.toNat + k) * 2 + t by omega]
      exact this
    exact ⟨htake.append hdrop, by simp; omega, h0, h1, h2⟩
  · cases hy
theorem CH.all2 {H : Hp} {xs : List Value} {l : List Cell} (h : CH H 2 R_Cell xs l) : AllOne xs := fun u hu => by
  obtain ⟨k, hk⟩ := List.mem_iff_getElem?.1 hu
  have hlt := (List.getElem?_eq_some_iff.1 hk).1
  rw [h.1] at hlt
  obtain ⟨cs, k1, k2, k3⟩ := h.2 (k / 2) (l[k / 2]'(by omega)) (List.getElem?_eq_getElem _)
  have := k3 (k % 2) (cs[k % 2]'(by omega)) (List.getElem?_eq_getElem _)
  rw [show k / 2 * 2 + k % 2 = k by omega, hk] at this
  rw [Option.some.inj this]
  exact R_Cell_one _ _ _ k2 _ (List.getElem_mem _)
set_option maxRecDepth 100000 in
set_option maxHeartbeats 4000000 in
/-- slices.Delete of something out of an own row -/
theorem c_Delete (H : Hp) (l : List Cell) (v : Value) (xs : List Value) (hch : CH H 2 R_Cell xs l) (i j : Int) (y : List Cell) (hy : delck l i j = some y) {B : Bs} {w : World} {bs : List (Nat × Obj)} {gs : List GS} (hs : St B H bs (⟨v, 27, 2, l.length, xs⟩ :: gs) w) :
    Calls Try.prog 46 [v, .int .i64 i, .int .i64 j].toArray w (RetW B fun v' H' bs' gs' => H = H' ∧ bs' = bs ∧ ∃ xs', gs' = ⟨v', 27, 2, y.length, xs'⟩ :: gs ∧ CH H 2 R_Cell xs' y) := by
  obtain ⟨hch', hyl, h0, h1, h2⟩ := CH.delck hch hy
  obtain ⟨b, cap, hv, hcap⟩ : ∃ b cap, v = .slice (some ⟨b, 0, none⟩) l.length cap ∧ l.length ≤ cap := by
    obtain ⟨_, hr⟩ := hs.row _ List.mem_cons_self
    rcases hr with ⟨_, hn⟩ | ⟨b, cap, cur, hv, _, _, hn, _⟩
    · simp only at hn; omega
    · exact ⟨b, cap, hv, hn⟩
  subst hv
  have hwl : (l.length : Int) ≤ cap := by omega
  refine calls_of (N := 33) Try.func46 rfl rfl rfl hs ?_
  clear hs
  refine JC.seq ?_
  refine JC.region (by rfl) ?_
  intro hQ
  refine JL.assign .none rfl ?_
  refine JL.done hQ ?_
  refine JQ.go ?_
  refine JC.seq ?_
  refine JC.region (by rfl) ?_
  intro hQ
  refine JL.move .none rfl ?_
  refine JL.move .none rfl ?_
  refine JL.move .none rfl ?_
  refine JL.move .none rfl ?_
  refine JL.len mz_ul22 rfl .none rfl ?_
  refine JL.sliceLHM mz_sl22 rfl rfl rfl rfl h0 (by omega) h2 hwl .none rfl ?_
  refine JL.done hQ ?_
  refine JQ.go ?_
  refine JC.seq ?_
  refine JC.seq ?_
  refine JC.region (by rfl) ?_
  intro hQ
  refine JL.move .none rfl ?_
  refine JL.move .none rfl ?_
  refine JL.bin rfl rfl rfl .none rfl ?_
  refine JL.done hQ ?_
  refine JQ.go ?_
  refine JC.cond_f (b := (i == j)) rfl (by simp; omega) ?_
  refine JC.skip ?_
  refine JQ.go ?_
  refine JC.seq ?_
  refine JC.region (by rfl) ?_
  intro hQ
  refine JL.move .none rfl ?_
  refine JL.len mz_ul22 rfl .none rfl ?_
  refine JL.assign .none rfl ?_
  refine JL.done hQ ?_
  refine JQ.go ?_
  refine JC.seq ?_
  refine JC.mixed 8 8 #[false, false, false, false, false, false, false, false] [] (by rfl) mz_mo (by kernel_rfl) (by kernel_rfl) ?_
  intro hQ hE
  refine JA.take 0 (listed' := #[true, false, false, false, false, false, false, false]) hQ rfl (by kernel_rfl) (by kernel_rfl) (by kernel_rfl) (by kernel_rfl) (by kernel_rfl) hE (HSub.refl _) (List.nil_sublist _) ?_
  refine JL.move .none rfl ?_
  refine JA.cont ?_
  refine JA.take 1 (listed' := #[true, true, false, false, false, false, false, false]) hQ rfl (by kernel_rfl) (by kernel_rfl) (by kernel_rfl) (by kernel_rfl) (by kernel_rfl) hE (HSub.refl _) (List.nil_sublist _) ?_
  refine JL.move .none rfl ?_
  refine JA.cont ?_
  refine JA.take 2 (listed' := #[true, true, true, false, false, false, false, false]) hQ rfl (by kernel_rfl) (by kernel_rfl) (by kernel_rfl) (by kernel_rfl) (by kernel_rfl) hE (HSub.refl _) (List.nil_sublist _) ?_
  refine JL.sliceH mz_sl22 rfl rfl h0 (by omega) .none rfl ?_
  refine JA.cont ?_
  refine JA.take 3 (listed' := #[true, true, true, true, false, false, false, false]) hQ rfl (by kernel_rfl) (by kernel_rfl) (by kernel_rfl) (by kernel_rfl) (by kernel_rfl) hE (HSub.refl _) (List.nil_sublist _) ?_
  refine JL.move .none rfl ?_
  refine JA.cont ?_
  refine JA.take 4 (listed' := #[true, true, true, true, true, false, false, false]) hQ rfl (by kernel_rfl) (by kernel_rfl) (by kernel_rfl) (by kernel_rfl) (by kernel_rfl) hE (HSub.refl _) (List.nil_sublist _) ?_
  refine JL.move .none rfl ?_
  refine JA.cont ?_
  refine JA.take 5 (listed' := #[true, true, true, true, true, true, false, false]) hQ rfl (by kernel_rfl) (by kernel_rfl) (by kernel_rfl) (by kernel_rfl) (by kernel_rfl) hE (HSub.refl _) (List.nil_sublist _) ?_
  refine JL.sliceL mz_sl22 rfl rfl (by omega) h2 .none rfl ?_
  refine JA.cont ?_
  have ei : sliced (some (⟨b, 0, none⟩ : Addr)) 0 i.toNat cap 2 = .slice (some ⟨b, 0, none⟩) i.toNat cap := by simp [sliced, Addr.add]
  refine JA.many [6] (by kernel_rfl) (by simp) (all_one ⟨_, #[true, true, true, true, true, true, true, false], rfl, (by kernel_rfl), ?_⟩)
  have eA : ∃ A, sliced (some (⟨b, 0, none⟩ : Addr)) j.toNat l.length cap 2 = .slice (some A) (l.length - j.toNat) (cap - j.toNat) ∧ (l.length - j.toNat = 0 ∨ A = ⟨b, j.toNat * 2, none⟩) := by
    by_cases hc : cap = j.toNat
    · exact ⟨⟨b, 0, none⟩, by simp [sliced, hc], .inl (by omega)⟩
    · have h0' : ¬ j.toNat * 2 = 0 := by omega
      exact ⟨⟨b, j.toNat * 2, none⟩, by simp [sliced, hc, Addr.add, h0'], .inr rfl⟩
  obtain ⟨A, hA, hAj⟩ := eA
  refine JL.appendIn (i := i.toNat) (m := l.length - j.toNat) (j := j.toNat) (A := A) (c := cap - j.toNat) mz_ap (by first | rfl | exact ei) hA hAj (by omega) (by omega) (by omega) (CH.all2 hch) .none rfl ?_
  refine JA.after hE (HSub.refl _) (List.nil_sublist _) ?_
  refine JA.many [7] (by kernel_rfl) (by simp) (all_one ⟨_, #[true, true, true, true, true, true, true, true], rfl, (by kernel_rfl), ?_⟩)
  refine JL.assign .none rfl ?_
  refine JA.after hE (HSub.refl _) (List.nil_sublist _) ?_
  refine JA.done hQ (by kernel_rfl) ?_
  refine JQ.go ?_
  refine JC.seq ?_
  refine JC.region (by rfl) ?_
  intro hQ
  refine JL.move .none rfl ?_
  refine JL.move .none rfl ?_
  refine JL.len mz_ul22 rfl .none rfl ?_
  refine JL.move .none rfl ?_
  refine JL.sliceLH mz_sl22 rfl rfl rfl (by omega) (by omega) (by omega) .none rfl ?_
  have eT : sliced (some (⟨b, 0, none⟩ : Addr)) ((i.toNat + (l.length - j.toNat) : Nat) : Int).toNat ((l.length : Nat) : Int).toNat cap 2 = .slice (some ⟨b, (i.toNat + (l.length - j.toNat)) * 2, none⟩) (l.length - (i.toNat + (l.length - j.toNat))) (cap - (i.toNat + (l.length - j.toNat))) := by
    have hne : ¬ cap = i.toNat + (l.length - j.toNat) := by omega
    simp only [Int.toNat_natCast, sliced, if_neg hne]
    by_cases hz : (i.toNat + (l.length - j.toNat)) * 2 = 0
    · simp [Addr.add, hz]
    · simp [Addr.add, hz]
  rw [eT]
  refine JL.clearTail mz_ap mz_ze (one_cons rfl (one_cons rfl one_nil)) rfl (by omega) (by omega) .none ?_
  refine JL.done hQ ?_
  refine JQ.go ?_
  refine JC.seq ?_
  refine JC.region (by rfl) ?_
  intro hQ
  refine JL.move .none rfl ?_
  refine JL.assign .none rfl ?_
  refine JL.done hQ ?_
  refine JQ.go ?_
  refine JC.ret ?_
  exact JQ.outW rfl (.tmp .nil) ⟨rfl, rfl, _, by rw [hyl]; rfl, hch'⟩
end Go.Proofs.Ytflhjlgimihmgaa
end
section
set_option maxRecDepth 100000
set_option maxHeartbeats 40000000
namespace Go.Proofs.Ytflhjlgimihmgaa
open Go Go.RowKit Go.Dec
set_option linter.unusedVariables false
-- 70 ferrule/ferruleref01.Within
def F_ref01_Within (n : Nat) (n_ : Int) (low : Int) (high : Int) : Option Bool :=
 some ((decide (low ≤ n_)) && (decide (n_ ≤ high)))
theorem c_ref01_Within (n : Nat) (H : Hp) (n_ : Int) (low : Int) (high : Int) (y : Bool) (hF : F_ref01_Within n n_ low high = some y) : SC Try.prog 70 [.int .i64 n_, .int .i64 low, .int .i64 high] (.bool y) H := by
 rw [F_ref01_Within] at hF
 refine SC.of (N := 15) Try.func70 rfl rfl rfl fun w => ?_
 refine JC.seq (JC.region (by rfl) ?_)
 intro hQ
 refine JL.assign .none rfl ?_
 refine JL.done hQ (JQ.go (JC.seq (JC.region (by rfl) ?_)))
 intro hQ
 refine JL.move .none rfl ?_
 refine JL.move .none rfl ?_
 refine JL.bin rfl rfl rfl .none rfl ?_
 refine JL.move .none rfl ?_
 refine JL.cut 4 (fun f => f 14 = .bool ((decide (low ≤ n_)) && (decide (n_ ≤ high)))) ?_ ?_
 ·intro hJ1
  rcases bcases (decide (low ≤ n_)) with hc2 | hc2
  ·skip
   refine JL.move (.some rfl rfl rfl hc2) rfl ?_
   refine JL.move (.some rfl rfl rfl hc2) rfl ?_
   refine JL.bin rfl rfl rfl (.some rfl rfl rfl hc2) rfl ?_
   refine JL.pick_t (b := decide (low ≤ n_)) rfl hc2 .none rfl ?_
   exact hJ1 _ (and_t hc2 rfl)
  ·skip
   refine JL.skip (.bool rfl rfl rfl hc2) rfl ?_
   refine JL.skip (.bool rfl rfl rfl hc2) rfl ?_
   refine JL.skip (.bool rfl rfl rfl hc2) rfl ?_
   refine JL.pick_f (b := decide (low ≤ n_)) rfl hc2 .none rfl ?_
   exact hJ1 _ (and_f hc2 rfl)
 ·rintro f hf14
  refine (JL.norm (i := 14) hf14 ?_)
  refine JL.assign .none rfl ?_
  refine JL.done hQ (JQ.go (JC.ret ?_))
  obtain rfl := Option.some.inj hF
  exact JQ.outS rfl (.tmp .nil) rfl
-- 51 ferrule/ferruleref03.within
def F_ref03_within (n : Nat) (n_ : Int) (low : Int) (high : Int) : Option Bool :=
 (F_ref01_Within n n_ low high).bind fun y1 => some y1
theorem c_ref03_within (n : Nat) (H : Hp) (n_ : Int) (low : Int) (high : Int) (y : Bool) (hF : F_ref03_within n n_ low high = some y) : SC Try.prog 51 [.int .i64 n_, .int .i64 low, .int .i64 high] (.bool y) H := by
 rw [F_ref03_within] at hF
 refine SC.of (N := 11) Try.func51 rfl rfl rfl fun w => ?_
 refine JC.seq (JC.region (by rfl) ?_)
 intro hQ
 refine JL.assign .none rfl ?_
 refine JL.done hQ (JQ.go (JC.seq (JC.region (by rfl) ?_)))
 intro hQ
 refine JL.move .none rfl ?_
 refine JL.move .none rfl ?_
 refine JL.move .none rfl ?_
 obtain ⟨y1, hy1, hF⟩ := bind_some hF
 refine JL.callS (c_ref01_Within n H n_ low high y1 hy1) rfl en_70 .none rfl ?_
 refine JL.assign .none rfl ?_
 refine JL.done hQ (JQ.go (JC.ret ?_))
 obtain rfl := Option.some.inj hF
 exact JQ.outS rfl (.tmp .nil) rfl
-- 52 ferrule/ferruleref03.IsCell
def F_ref03_IsCell (n : Nat) (s : Lap) (c : Cell) : Option Bool :=
 (F_ref03_within n c.Row 0 (w64 (s.Length - 1))).bind fun y3 => (if y3 = true then ((F_ref03_within n c.Col 0 (w64 (s.Width - 1))).bind fun y8 => some y8) else (some false) : Option Bool).bind fun p5 => some p5
theorem c_ref03_IsCell (n : Nat) (H : Hp) (s : Lap) (s_v2 : Value) (hs_2 : SL H 2 R_Cell s_v2 s.Faults) (s_v3 : Value) (hs_3 : SL H 2 R_Cell s_v3 s.Flaws) (s_v4 : Value) (hs_4 : SL H 1 R_Panel s_v4 s.Panels) (c : Cell) (y : Bool) (hF : F_ref03_IsCell n s c = some y) : SC Try.prog 52 [.agg [.int .i64 s.Width, .int .i64 s.Length, s_v2, s_v3, s_v4].toArray, .agg [.int .i64 c.Row, .int .i64 c.Col].toArray] (.bool y) H := by
 rw [F_ref03_IsCell] at hF
 refine SC.of (N := 19) Try.func52 rfl rfl rfl fun w => ?_
 refine JC.seq (JC.region (by rfl) ?_)
 intro hQ
 refine JL.box (cs := [.int .i64 s.Width, .int .i64 s.Length, s_v2, s_v3, s_v4]) rfl .none rfl ?_
 intro b1
 refine JL.box (cs := [.int .i64 c.Row, .int .i64 c.Col]) rfl .none rfl ?_
 intro b2
 refine JL.assign .none rfl ?_
 refine JL.done hQ (JQ.go (JC.seq (JC.region (by rfl) ?_)))
 intro hQ
 refine JL.fieldAddr fo_27_0 rfl .none rfl ?_
 refine JL.loadOwn 0 az_3 rfl rfl rfl .none rfl ?_
 refine JL.fieldAddr fo_25_1 rfl .none rfl ?_
 refine JL.loadOwn 1 az_3 rfl rfl rfl .none rfl ?_
 refine JL.bin rfl rfl rfl .none rfl ?_
 obtain ⟨y3, hy3, hF⟩ := bind_some hF
 refine JL.callS (c_ref03_within n H c.Row 0 (w64 (s.Length - 1)) y3 hy3) rfl en_51 .none rfl ?_
 refine JL.move .none rfl ?_
 obtain ⟨p5, hp5, hF⟩ := bind_some hF
 refine JL.cut 7 (fun f => f 18 = .bool p5) ?_ ?_
 ·intro hJ6
  rcases ite_some hp5 with ⟨hc7, hF⟩ | ⟨hc7, hF⟩
  ·skip
   refine JL.fieldAddr fo_27_1 rfl (.some rfl rfl rfl hc7) rfl ?_
   refine JL.loadOwn 0 az_3 rfl rfl rfl (.some rfl rfl rfl hc7) rfl ?_
   refine JL.fieldAddr fo_25_0 rfl (.some rfl rfl rfl hc7) rfl ?_
   refine JL.loadOwn 1 az_3 rfl rfl rfl (.some rfl rfl rfl hc7) rfl ?_
   refine JL.bin rfl rfl rfl (.some rfl rfl rfl hc7) rfl ?_
   obtain ⟨y8, hy8, hF⟩ := bind_some hF
   refine JL.callS (c_ref03_within n H c.Col 0 (w64 (s.Width - 1)) y8 hy8) rfl en_51 (.some rfl rfl rfl hc7) rfl ?_
   refine JL.pick_t (b := y3) rfl hc7 .none rfl ?_
   obtain rfl := Option.some.inj hF
   exact hJ6 _ (rfl)
  ·skip
   refine JL.skip (.bool rfl rfl rfl hc7) rfl ?_
   refine JL.skip (.bool rfl rfl rfl hc7) rfl ?_
   refine JL.skip (.bool rfl rfl rfl hc7) rfl ?_
   refine JL.skip (.bool rfl rfl rfl hc7) rfl ?_
   refine JL.skip (.bool rfl rfl rfl hc7) rfl ?_
   refine JL.skip (.bool rfl rfl rfl hc7) rfl ?_
   refine JL.pick_f (b := y3) rfl hc7 .none rfl ?_
   obtain rfl := Option.some.inj hF
   exact hJ6 _ (rfl)
 ·rintro f hf18
  refine (JL.norm (i := 18) hf18 ?_)
  refine JL.assign .none rfl ?_
  refine JL.done hQ (JQ.go (JC.ret ?_))
  obtain rfl := Option.some.inj hF
  exact JQ.outS rfl (.tmp .nil) rfl
-- 53 ferrule/ferruleref03.In
def F_ref03_In_s1 (n : Nat) (l : List Cell) (c : Cell) : Int → Option (Int ⊕ (Bool ⊕ Unit))
 | i_76 => if decide (i_76 < (l.length : Int)) = true then ((geti l i_76).bind fun y86 => if ((y86.Row == c.Row) && (y86.Col == c.Col)) = true then (some (Sum.inr (Sum.inl true))) else (some (Sum.inl (w64 (i_76 + 1))))) else (some (Sum.inr (Sum.inr ())))
def F_ref03_In (n : Nat) (l : List Cell) (c : Cell) : Option Bool :=
 (loopO n (F_ref03_In_s1 n l c) 0).bind fun r47 => match r47 with | .inl o => some o | .inr _ => some false
theorem c_ref03_In (n : Nat) (H : Hp) (l : List Cell) (l_v0 : Value) (hl_0 : SL H 2 R_Cell l_v0 l) (c : Cell) (y : Bool) (hF : F_ref03_In n l c = some y) : SC Try.prog 53 [l_v0, .agg [.int .i64 c.Row, .int .i64 c.Col].toArray] (.bool y) H := by
 rw [F_ref03_In] at hF
 refine SC.of (N := 18) Try.func53 rfl rfl rfl fun w => ?_
 refine JC.seq (JC.region (by rfl) ?_)
 intro hQ
 refine JL.box (cs := [.int .i64 c.Row, .int .i64 c.Col]) rfl .none rfl ?_
 intro b1
 refine JL.assign .none rfl ?_
 refine JL.done hQ (JQ.go (JC.seq (JC.seq (JC.region (by rfl) ?_))))
 intro hQ
 refine JL.assign .none rfl ?_
 refine JL.done hQ (JQ.go ?_)
 obtain ⟨r47, hlr47, hKr47⟩ := bind_some hF
 refine JC.join (fun (_ : Unit) H46 f bs gs => bs = [] ∧ gs = [] ∧ HSub H H46 ∧ Sum.inr () = r47) ?_ ?_
 ·skip
  refine JC.block (JC.loop hlr47 (fun (i_76 : Int) H77 f bs gs => f 0 = l_v0 ∧ f 3 = .pointer (some ⟨b1, 0, none⟩) ∧ f 5 = .int .i64 i_76 ∧ bs = [(b1, .cells [.int .i64 c.Row, .int .i64 c.Col].toArray 27)] ∧ gs = [] ∧ HSub H H77) ⟨rfl, rfl, rfl, rfl, rfl, (HSub.refl _)⟩ ?_)
  rintro i_76 x79 H77 f bs gs ⟨hf0, hf3, hf5, rfl, rfl, hs77⟩ hF hr78
  rw [F_ref03_In_s1] at hF
  refine (JC.norm (i := 0) hf0 (JC.norm (i := 3) hf3 (JC.norm (i := 5) hf5 ?_)))
  refine JC.seq (JC.seq (JC.region (by rfl) ?_))
  intro hQ
  refine JL.move .none rfl ?_
  refine JL.move .none rfl ?_
  refine JL.lenSL (R := R_Cell) ul_22 (SL.mono R_Cell_mono hs77 hl_0) .none rfl ?_
  refine JL.bin rfl rfl rfl .none rfl ?_
  refine JL.done hQ (JQ.go ?_)
  rcases ite_some hF with ⟨hc80, hF⟩ | ⟨hc80, hF⟩
  ·refine JC.cond_t (b := decide (i_76 < (l.length : Int))) rfl hc80 ?_
   refine JC.skip (JQ.go (JC.seq (JC.block (JC.seq (JC.draw (by rfl) mo_ (by kernel_rfl) ?_)))))
   intro hQ
   refine JL.move .none rfl ?_
   refine JL.move .none rfl ?_
   obtain ⟨y86, hy86, hF⟩ := bind_some hF
   refine JL.indexSL (R := R_Cell) sl_22 (SL.mono R_Cell_mono hs77 hl_0) rfl hy86 .none rfl ?_
   rintro b87 o88 cs89 hc90 - rfl
   refine JL.loadH 0 az_27 rfl hc90 rfl .none rfl ?_
   refine JL.loadOwn 0 az_27 rfl rfl rfl .none rfl ?_
   refine JL.eqAgg eqg_27 rfl rfl (fun w => eqa_27 y86.Row y86.Col c.Row c.Col w) .none rfl ?_
   refine JL.doneQ hQ ?_
   refine JQ.go ?_
   rcases ite_some hF with ⟨hc91, hF⟩ | ⟨hc91, hF⟩
   ·refine JC.cond_t (b := ((y86.Row == c.Row) && (y86.Col == c.Col))) rfl hc91 ?_
    refine JC.seq (JC.region (by rfl) ?_)
    intro hQ
    refine JL.assign .none rfl ?_
    refine JL.done hQ (JQ.go (JC.fresh (fun f => f 4 = .bool true) rfl ?_))
    rintro f hf4
    refine (JC.norm (i := 4) hf4 ?_)
    refine JC.ret (JQ.ret_block (JQ.ret_then (JQ.ret_then (JQ.ret_block (JQ.ret_join (JQ.ret_then ?_))))))
    obtain rfl := Option.some.inj hF
    have ehr78 := hr78 _ rfl
    subst ehr78
    have hF := hKr47
    try dsimp only at hF
    obtain rfl := Option.some.inj hF
    exact JQ.outS rfl (.tmp .nil) rfl
   ·refine JC.cond_f (b := ((y86.Row == c.Row) && (y86.Col == c.Col))) rfl hc91 ?_
    refine JC.skip (JQ.normal_block (JQ.go (JC.region (by rfl) ?_)))
    intro hQ
    refine JL.move .none rfl ?_
    refine JL.bin rfl rfl rfl .none rfl ?_
    refine JL.assign .none rfl ?_
    refine JL.done hQ ?_
    obtain rfl := Option.some.inj hF
    exact JQ.next rfl ⟨rfl, rfl, rfl, rfl, rfl, hs77⟩
  ·refine JC.cond_f (b := decide (i_76 < (l.length : Int))) rfl hc80 ?_
   refine JC.exit (JQ.exit_then (JQ.exit_then (JQ.exit_block ?_)))
   obtain rfl := Option.some.inj hF
   have ehr78 := hr78 _ rfl
   subst ehr78
   refine JQ.mask [false] [] ?_
   exact JQ.join () ⟨rfl, rfl, hs77, rfl⟩
 ·rintro _ H46 f bs gs ⟨rfl, rfl, hs46, rfl⟩
  have hF := hKr47
  try dsimp only at hF
  refine JQ.go (JC.seq (JC.region (by rfl) ?_))
  intro hQ
  refine JL.assign .none rfl ?_
  refine JL.done hQ (JQ.go (JC.ret ?_))
  obtain rfl := Option.some.inj hF
  exact JQ.outS rfl (.tmp .nil) rfl
-- 63 ferrule/ferruleref03.areCells
def F_ref03_areCells_s1 (n : Nat) (s : Lap) (l : List Cell) (others : List Cell) : Int → Option (Int ⊕ (Bool ⊕ Unit))
 | i_446 => if decide (i_446 < (l.length : Int)) = true then ((geti l i_446).bind fun y493 => (F_ref03_IsCell n s y493).bind fun y498 => (if (!y498) = true then (some true) else ((slc l 0 i_446).bind fun y511 => (geti l i_446).bind fun y514 => (F_ref03_In n y511 y514).bind fun y519 => some y519) : Option Bool).bind fun p508 => (if p508 = true then (some true) else ((geti l i_446).bind fun y529 => (F_ref03_In n others y529).bind fun y534 => some y534) : Option Bool).bind fun p526 => if p526 = true then (some (Sum.inr (Sum.inl false))) else (some (Sum.inl (w64 (i_446 + 1))))) else (some (Sum.inr (Sum.inr ())))
def F_ref03_areCells (n : Nat) (s : Lap) (l : List Cell) (others : List Cell) : Option Bool :=
 (loopO n (F_ref03_areCells_s1 n s l others) 0).bind fun r269 => match r269 with | .inl o => some o | .inr _ => some (decide ((l.length : Int) ≤ 20))
theorem c_ref03_areCells (n : Nat) (H : Hp) (s : Lap) (s_v2 : Value) (hs_2 : SL H 2 R_Cell s_v2 s.Faults) (s_v3 : Value) (hs_3 : SL H 2 R_Cell s_v3 s.Flaws) (s_v4 : Value) (hs_4 : SL H 1 R_Panel s_v4 s.Panels) (l : List Cell) (l_v0 : Value) (hl_0 : SL H 2 R_Cell l_v0 l) (others : List Cell) (others_v0 : Value) (hothers_0 : SL H 2 R_Cell others_v0 others) (y : Bool) (hF : F_ref03_areCells n s l others = some y) : SC Try.prog 63 [.agg [.int .i64 s.Width, .int .i64 s.Length, s_v2, s_v3, s_v4].toArray, l_v0, others_v0] (.bool y) H := by
 rw [F_ref03_areCells] at hF
 refine SC.of (N := 42) Try.func63 rfl rfl rfl fun w => ?_
 refine JC.seq (JC.region (by rfl) ?_)
 intro hQ
 refine JL.box (cs := [.int .i64 s.Width, .int .i64 s.Length, s_v2, s_v3, s_v4]) rfl .none rfl ?_
 intro b1
 refine JL.assign .none rfl ?_
 refine JL.done hQ (JQ.go (JC.seq (JC.seq (JC.region (by rfl) ?_))))
 intro hQ
 refine JL.assign .none rfl ?_
 refine JL.done hQ (JQ.go ?_)
 obtain ⟨r269, hlr269, hKr269⟩ := bind_some hF
 refine JC.join (fun (_ : Unit) H268 f bs gs => f 1 = l_v0 ∧ bs = [] ∧ gs = [] ∧ HSub H H268 ∧ Sum.inr () = r269) ?_ ?_
 ·skip
  refine JC.block (JC.loop hlr269 (fun (i_446 : Int) H447 f bs gs => f 1 = l_v0 ∧ f 2 = others_v0 ∧ f 3 = .pointer (some ⟨b1, 0, none⟩) ∧ f 7 = .int .i64 i_446 ∧ bs = [(b1, .cells [.int .i64 s.Width, .int .i64 s.Length, s_v2, s_v3, s_v4].toArray 25)] ∧ gs = [] ∧ HSub H H447) ⟨rfl, rfl, rfl, rfl, rfl, rfl, (HSub.refl _)⟩ ?_)
  rintro i_446 x449 H447 f bs gs ⟨hf1, hf2, hf3, hf7, rfl, rfl, hs447⟩ hF hr448
  rw [F_ref03_areCells_s1] at hF
  refine (JC.norm (i := 1) hf1 (JC.norm (i := 2) hf2 (JC.norm (i := 3) hf3 (JC.norm (i := 7) hf7 ?_))))
  refine JC.seq (JC.seq (JC.region (by rfl) ?_))
  intro hQ
  refine JL.move .none rfl ?_
  refine JL.move .none rfl ?_
  refine JL.lenSL (R := R_Cell) ul_22 (SL.mono R_Cell_mono hs447 hl_0) .none rfl ?_
  refine JL.bin rfl rfl rfl .none rfl ?_
  refine JL.done hQ (JQ.go ?_)
  rcases ite_some hF with ⟨hc450, hF⟩ | ⟨hc450, hF⟩
  ·refine JC.cond_t (b := decide (i_446 < (l.length : Int))) rfl hc450 ?_
   refine JC.skip (JQ.go (JC.seq (JC.block (JC.seq (JC.draw (by rfl) mo_ (by kernel_rfl) ?_)))))
   intro hQ
   refine JL.loadOwn 0 az_25 rfl rfl rfl .none rfl ?_
   refine JL.move .none rfl ?_
   refine JL.move .none rfl ?_
   obtain ⟨y493, hy493, hF⟩ := bind_some hF
   refine JL.indexSL (R := R_Cell) sl_22 (SL.mono R_Cell_mono hs447 hl_0) rfl hy493 .none rfl ?_
   rintro b494 o495 cs496 hc497 - rfl
   refine JL.loadH 0 az_27 rfl hc497 rfl .none rfl ?_
   obtain ⟨y498, hy498, hF⟩ := bind_some hF
   refine JL.callS (c_ref03_IsCell n H447 s s_v2 (SL.mono R_Cell_mono hs447 hs_2) s_v3 (SL.mono R_Cell_mono hs447 hs_3) s_v4 (SL.mono R_Panel_mono hs447 hs_4) y493 y498 hy498) rfl en_52 .none rfl ?_
   refine JL.not rfl .none rfl ?_
   refine JL.move .none rfl ?_
   obtain ⟨p508, hp508, hF⟩ := bind_some hF
   refine JL.cut 9 (fun f => f 1 = l_v0 ∧ f 2 = others_v0 ∧ f 3 = .pointer (some ⟨b1, 0, none⟩) ∧ f 7 = .int .i64 i_446 ∧ f 30 = .bool p508) ?_ ?_
   ·intro hJ509
    rcases ite_some hp508 with ⟨hc510, hF⟩ | ⟨hc510, hF⟩
    ·skip
     refine JL.skip (.bool rfl rfl rfl hc510) rfl ?_
     refine JL.skip (.bool rfl rfl rfl hc510) rfl ?_
     refine JL.skip (.bool rfl rfl rfl hc510) rfl ?_
     refine JL.skip (.bool rfl rfl rfl hc510) rfl ?_
     refine JL.skip (.bool rfl rfl rfl hc510) rfl ?_
     refine JL.skip (.bool rfl rfl rfl hc510) rfl ?_
     refine JL.skip (.bool rfl rfl rfl hc510) rfl ?_
     refine JL.skip (.bool rfl rfl rfl hc510) rfl ?_
     refine JL.pick_t (b := (!y498)) rfl hc510 .none rfl ?_
     obtain rfl := Option.some.inj hF
     exact hJ509 _ ⟨rfl, rfl, rfl, rfl, rfl⟩
    ·skip
     refine JL.move (.some rfl rfl rfl hc510) rfl ?_
     refine JL.move (.some rfl rfl rfl hc510) rfl ?_
     obtain ⟨y511, hy511, hF⟩ := bind_some hF
     refine JL.sliceHi (R := R_Cell) sl_22 (SL.mono R_Cell_mono hs447 hl_0) rfl hy511 (.some rfl rfl rfl hc510) rfl ?_
     intro v512 hv513
     refine JL.move (.some rfl rfl rfl hc510) rfl ?_
     refine JL.move (.some rfl rfl rfl hc510) rfl ?_
     obtain ⟨y514, hy514, hF⟩ := bind_some hF
     refine JL.indexSL (R := R_Cell) sl_22 (SL.mono R_Cell_mono hs447 hl_0) rfl hy514 (.some rfl rfl rfl hc510) rfl ?_
     rintro b515 o516 cs517 hc518 - rfl
     refine JL.loadH 0 az_27 rfl hc518 rfl (.some rfl rfl rfl hc510) rfl ?_
     obtain ⟨y519, hy519, hF⟩ := bind_some hF
     refine JL.callS (c_ref03_In n H447 y511 v512 hv513 y514 y519 hy519) rfl en_53 (.some rfl rfl rfl hc510) rfl ?_
     refine JL.pick_f (b := (!y498)) rfl hc510 .none rfl ?_
     obtain rfl := Option.some.inj hF
     exact hJ509 _ ⟨rfl, rfl, rfl, rfl, rfl⟩
   ·rintro f ⟨hf1, hf2, hf3, hf7, hf30⟩
    refine (JL.norm (i := 1) hf1 (JL.norm (i := 2) hf2 (JL.norm (i := 3) hf3 (JL.norm (i := 7) hf7 (JL.norm (i := 30) hf30 ?_)))))
    refine JL.move .none rfl ?_
    obtain ⟨p526, hp526, hF⟩ := bind_some hF
    refine JL.cut 7 (fun f => f 1 = l_v0 ∧ f 2 = others_v0 ∧ f 3 = .pointer (some ⟨b1, 0, none⟩) ∧ f 7 = .int .i64 i_446 ∧ f 38 = .bool p526) ?_ ?_
    ·intro hJ527
     rcases ite_some hp526 with ⟨hc528, hF⟩ | ⟨hc528, hF⟩
     ·skip
      refine JL.skip (.bool rfl rfl rfl hc528) rfl ?_
      refine JL.skip (.bool rfl rfl rfl hc528) rfl ?_
      refine JL.skip (.bool rfl rfl rfl hc528) rfl ?_
      refine JL.skip (.bool rfl rfl rfl hc528) rfl ?_
      refine JL.skip (.bool rfl rfl rfl hc528) rfl ?_
      refine JL.skip (.bool rfl rfl rfl hc528) rfl ?_
      refine JL.pick_t (b := p508) rfl hc528 .none rfl ?_
      obtain rfl := Option.some.inj hF
      exact hJ527 _ ⟨rfl, rfl, rfl, rfl, rfl⟩
     ·skip
      refine JL.move (.some rfl rfl rfl hc528) rfl ?_
      refine JL.move (.some rfl rfl rfl hc528) rfl ?_
      refine JL.move (.some rfl rfl rfl hc528) rfl ?_
      obtain ⟨y529, hy529, hF⟩ := bind_some hF
      refine JL.indexSL (R := R_Cell) sl_22 (SL.mono R_Cell_mono hs447 hl_0) rfl hy529 (.some rfl rfl rfl hc528) rfl ?_
      rintro b530 o531 cs532 hc533 - rfl
      refine JL.loadH 0 az_27 rfl hc533 rfl (.some rfl rfl rfl hc528) rfl ?_
      obtain ⟨y534, hy534, hF⟩ := bind_some hF
      refine JL.callS (c_ref03_In n H447 others others_v0 (SL.mono R_Cell_mono hs447 hothers_0) y529 y534 hy534) rfl en_53 (.some rfl rfl rfl hc528) rfl ?_
      refine JL.pick_f (b := p508) rfl hc528 .none rfl ?_
      obtain rfl := Option.some.inj hF
      exact hJ527 _ ⟨rfl, rfl, rfl, rfl, rfl⟩
    ·rintro f ⟨hf1, hf2, hf3, hf7, hf38⟩
     refine (JL.norm (i := 1) hf1 (JL.norm (i := 2) hf2 (JL.norm (i := 3) hf3 (JL.norm (i := 7) hf7 (JL.norm (i := 38) hf38 ?_)))))
     refine JL.doneQ hQ ?_
     refine JQ.go ?_
     rcases ite_some hF with ⟨hc535, hF⟩ | ⟨hc535, hF⟩
     ·refine JC.cond_t (b := p526) rfl hc535 ?_
      refine JC.seq (JC.region (by rfl) ?_)
      intro hQ
      refine JL.assign .none rfl ?_
      refine JL.done hQ (JQ.go (JC.ret (JQ.ret_block (JQ.ret_then (JQ.ret_then (JQ.ret_block (JQ.ret_join (JQ.ret_then ?_))))))))
      obtain rfl := Option.some.inj hF
      have ehr448 := hr448 _ rfl
      subst ehr448
      have hF := hKr269
      try dsimp only at hF
      obtain rfl := Option.some.inj hF
      exact JQ.outS rfl (.tmp .nil) rfl
     ·refine JC.cond_f (b := p526) rfl hc535 ?_
      refine JC.skip (JQ.normal_block (JQ.go (JC.region (by rfl) ?_)))
      intro hQ
      refine JL.move .none rfl ?_
      refine JL.bin rfl rfl rfl .none rfl ?_
      refine JL.assign .none rfl ?_
      refine JL.done hQ ?_
      obtain rfl := Option.some.inj hF
      exact JQ.next rfl ⟨rfl, rfl, rfl, rfl, rfl, rfl, hs447⟩
  ·refine JC.cond_f (b := decide (i_446 < (l.length : Int))) rfl hc450 ?_
   refine JC.exit (JQ.exit_then (JQ.exit_then (JQ.exit_block ?_)))
   obtain rfl := Option.some.inj hF
   have ehr448 := hr448 _ rfl
   subst ehr448
   refine JQ.mask [false] [] ?_
   exact JQ.join () ⟨rfl, rfl, rfl, hs447, rfl⟩
 ·rintro _ H268 f bs gs ⟨hf1, rfl, rfl, hs268, rfl⟩
  have hF := hKr269
  try dsimp only at hF
  refine (JQ.norm (i := 1) hf1 ?_)
  refine JQ.go (JC.seq (JC.region (by rfl) ?_))
  intro hQ
  refine JL.move .none rfl ?_
  refine JL.lenSL (R := R_Cell) ul_22 (SL.mono R_Cell_mono hs268 hl_0) .none rfl ?_
  refine JL.bin rfl rfl rfl .none rfl ?_
  refine JL.assign .none rfl ?_
  refine JL.done hQ (JQ.go (JC.ret ?_))
  obtain rfl := Option.some.inj hF
  exact JQ.outS rfl (.tmp .nil) rfl
-- 64 ferrule/ferruleref03.isPanel
def F_ref03_isPanel_s1 (n : Nat) (p : Panel) : Int × Int → Option ((Int × Int) ⊕ (Bool ⊕ Int))
 | (least_297, i_298) => if decide (i_298 < (p.Rows.length : Int)) = true then ((geti p.Rows i_298).bind fun y327 => (geti p.Rows i_298).bind fun y332 => (F_ref03_within n y327.Low 0 y332.High).bind fun y337 => (if (!y337) = true then (some true) else ((geti p.Rows i_298).bind fun y346 => some (decide (7 < y346.High))) : Option Bool).bind fun p343 => if p343 = true then (some (Sum.inr (Sum.inl false))) else ((geti p.Rows i_298).bind fun y352 => some (Sum.inl ((min least_297 y352.Low), (w64 (i_298 + 1)))))) else (some (Sum.inr (Sum.inr least_297)))
def F_ref03_isPanel (n : Nat) (p : Panel) : Option Bool :=
 (loopO n (F_ref03_isPanel_s1 n p) (8, 0)).bind fun r180 => match r180 with | .inl o => some o | .inr least_178 => (F_ref03_within n (p.Rows.length : Int) 1 4).bind fun y357 => some (y357 && (least_178 == 0))
theorem c_ref03_isPanel (n : Nat) (H : Hp) (p : Panel) (p_v0 : Value) (hp_0 : SL H 2 R_Span p_v0 p.Rows) (y : Bool) (hF : F_ref03_isPanel n p = some y) : SC Try.prog 64 [.agg [p_v0].toArray] (.bool y) H := by
 rw [F_ref03_isPanel] at hF
 refine SC.of (N := 51) Try.func64 rfl rfl rfl fun w => ?_
 refine JC.seq (JC.region (by rfl) ?_)
 intro hQ
 refine JL.box (cs := [p_v0]) rfl .none rfl ?_
 intro b1
 refine JL.assign .none rfl ?_
 refine JL.done hQ (JQ.go (JC.seq (JC.region (by rfl) ?_)))
 intro hQ
 refine JL.assign .none rfl ?_
 refine JL.done hQ (JQ.go (JC.seq (JC.seq (JC.region (by rfl) ?_))))
 intro hQ
 refine JL.assign .none rfl ?_
 refine JL.done hQ (JQ.go ?_)
 obtain ⟨r180, hlr180, hKr180⟩ := bind_some hF
 refine JC.join (fun (least_178 : Int) H179 f bs gs => f 1 = .pointer (some ⟨b1, 0, none⟩) ∧ f 3 = .int .i64 least_178 ∧ bs = [(b1, .cells [p_v0].toArray 30)] ∧ gs = [] ∧ HSub H H179 ∧ Sum.inr least_178 = r180) ?_ ?_
 ·skip
  refine JC.block (JC.loop hlr180 (fun (x : Int × Int) H299 f bs gs => match x with | (least_297, i_298) => f 1 = .pointer (some ⟨b1, 0, none⟩) ∧ f 3 = .int .i64 least_297 ∧ f 4 = .int .i64 i_298 ∧ bs = [(b1, .cells [p_v0].toArray 30)] ∧ gs = [] ∧ HSub H H299) ⟨rfl, rfl, rfl, rfl, rfl, (HSub.refl _)⟩ ?_)
  rintro ⟨least_297, i_298⟩ x301 H299 f bs gs ⟨hf1, hf3, hf4, rfl, rfl, hs299⟩ hF hr300
  rw [F_ref03_isPanel_s1] at hF
  refine (JC.norm (i := 1) hf1 (JC.norm (i := 3) hf3 (JC.norm (i := 4) hf4 ?_)))
  refine JC.seq (JC.seq (JC.region (by rfl) ?_))
  intro hQ
  refine JL.move .none rfl ?_
  refine JL.fieldAddr fo_30_0 rfl .none rfl ?_
  refine JL.loadOwn 0 az_28 rfl rfl rfl .none rfl ?_
  refine JL.lenSL (R := R_Span) ul_28 (SL.mono R_Span_mono hs299 hp_0) .none rfl ?_
  refine JL.bin rfl rfl rfl .none rfl ?_
  refine JL.done hQ (JQ.go ?_)
  rcases ite_some hF with ⟨hc302, hF⟩ | ⟨hc302, hF⟩
  ·refine JC.cond_t (b := decide (i_298 < (p.Rows.length : Int))) rfl hc302 ?_
   refine JC.skip (JQ.go (JC.seq (JC.block (JC.seq (JC.seq (JC.draw (by rfl) mo_ (by kernel_rfl) ?_))))))
   intro hQ
   refine JL.fieldAddr fo_30_0 rfl .none rfl ?_
   refine JL.loadOwn 0 az_28 rfl rfl rfl .none rfl ?_
   refine JL.move .none rfl ?_
   obtain ⟨y327, hy327, hF⟩ := bind_some hF
   refine JL.indexSL (R := R_Span) sl_28 (SL.mono R_Span_mono hs299 hp_0) rfl hy327 .none rfl ?_
   rintro b328 o329 cs330 hc331 - rfl
   refine JL.fieldAddr fo_46_0 rfl .none rfl ?_
   refine JL.loadH 0 az_3 rfl hc331 rfl .none rfl ?_
   refine JL.fieldAddr fo_30_0 rfl .none rfl ?_
   refine JL.loadOwn 0 az_28 rfl rfl rfl .none rfl ?_
   refine JL.move .none rfl ?_
   obtain ⟨y332, hy332, hF⟩ := bind_some hF
   refine JL.indexSL (R := R_Span) sl_28 (SL.mono R_Span_mono hs299 hp_0) rfl hy332 .none rfl ?_
   rintro b333 o334 cs335 hc336 - rfl
   refine JL.fieldAddr fo_46_1 rfl .none rfl ?_
   refine JL.loadH 1 az_3 rfl hc336 rfl .none rfl ?_
   obtain ⟨y337, hy337, hF⟩ := bind_some hF
   refine JL.callS (c_ref03_within n H299 y327.Low 0 y332.High y337 hy337) rfl en_51 .none rfl ?_
   refine JL.not rfl .none rfl ?_
   refine JL.move .none rfl ?_
   obtain ⟨p343, hp343, hF⟩ := bind_some hF
   refine JL.cut 8 (fun f => f 1 = .pointer (some ⟨b1, 0, none⟩) ∧ f 3 = .int .i64 least_297 ∧ f 4 = .int .i64 i_298 ∧ f 34 = .bool p343) ?_ ?_
   ·intro hJ344
    rcases ite_some hp343 with ⟨hc345, hF⟩ | ⟨hc345, hF⟩
    ·skip
     refine JL.skip (.bool rfl rfl rfl hc345) rfl ?_
     refine JL.skip (.bool rfl rfl rfl hc345) rfl ?_
     refine JL.skip (.bool rfl rfl rfl hc345) rfl ?_
     refine JL.skip (.bool rfl rfl rfl hc345) rfl ?_
     refine JL.skip (.bool rfl rfl rfl hc345) rfl ?_
     refine JL.skip (.bool rfl rfl rfl hc345) rfl ?_
     refine JL.skip (.bool rfl rfl rfl hc345) rfl ?_
     refine JL.pick_t (b := (!y337)) rfl hc345 .none rfl ?_
     obtain rfl := Option.some.inj hF
     exact hJ344 _ ⟨rfl, rfl, rfl, rfl⟩
    ·skip
     refine JL.fieldAddr fo_30_0 rfl (.some rfl rfl rfl hc345) rfl ?_
     refine JL.loadOwn 0 az_28 rfl rfl rfl (.some rfl rfl rfl hc345) rfl ?_
     refine JL.move (.some rfl rfl rfl hc345) rfl ?_
     obtain ⟨y346, hy346, hF⟩ := bind_some hF
     refine JL.indexSL (R := R_Span) sl_28 (SL.mono R_Span_mono hs299 hp_0) rfl hy346 (.some rfl rfl rfl hc345) rfl ?_
     rintro b347 o348 cs349 hc350 - rfl
     refine JL.fieldAddr fo_46_1 rfl (.some rfl rfl rfl hc345) rfl ?_
     refine JL.loadH 1 az_3 rfl hc350 rfl (.some rfl rfl rfl hc345) rfl ?_
     refine JL.bin rfl rfl rfl (.some rfl rfl rfl hc345) rfl ?_
     refine JL.pick_f (b := (!y337)) rfl hc345 .none rfl ?_
     obtain rfl := Option.some.inj hF
     exact hJ344 _ ⟨rfl, rfl, rfl, rfl⟩
   ·rintro f ⟨hf1, hf3, hf4, hf34⟩
    refine (JL.norm (i := 1) hf1 (JL.norm (i := 3) hf3 (JL.norm (i := 4) hf4 (JL.norm (i := 34) hf34 ?_))))
    refine JL.doneQ hQ ?_
    refine JQ.go ?_
    rcases ite_some hF with ⟨hc351, hF⟩ | ⟨hc351, hF⟩
    ·refine JC.cond_t (b := p343) rfl hc351 ?_
     refine JC.seq (JC.region (by rfl) ?_)
     intro hQ
     refine JL.assign .none rfl ?_
     refine JL.done hQ (JQ.go (JC.ret (JQ.ret_then (JQ.ret_block (JQ.ret_then (JQ.ret_then (JQ.ret_block (JQ.ret_join (JQ.ret_then ?_)))))))))
     obtain rfl := Option.some.inj hF
     have ehr300 := hr300 _ rfl
     subst ehr300
     have hF := hKr180
     try dsimp only at hF
     obtain rfl := Option.some.inj hF
     exact JQ.outS rfl (.tmp .nil) rfl
    ·refine JC.cond_f (b := p343) rfl hc351 ?_
     refine JC.skip (JQ.go (JC.region (by rfl) ?_))
     intro hQ
     refine JL.move .none rfl ?_
     refine JL.fieldAddr fo_30_0 rfl .none rfl ?_
     refine JL.loadOwn 0 az_28 rfl rfl rfl .none rfl ?_
     refine JL.move .none rfl ?_
     obtain ⟨y352, hy352, hF⟩ := bind_some hF
     refine JL.indexSL (R := R_Span) sl_28 (SL.mono R_Span_mono hs299 hp_0) rfl hy352 .none rfl ?_
     rintro b353 o354 cs355 hc356 - rfl
     refine JL.fieldAddr fo_46_0 rfl .none rfl ?_
     refine JL.loadH 0 az_3 rfl hc356 rfl .none rfl ?_
     refine JL.min rfl rfl .none rfl ?_
     refine JL.assign .none rfl ?_
     refine JL.done hQ (JQ.normal_block (JQ.go (JC.region (by rfl) ?_)))
     intro hQ
     refine JL.move .none rfl ?_
     refine JL.bin rfl rfl rfl .none rfl ?_
     refine JL.assign .none rfl ?_
     refine JL.done hQ ?_
     obtain rfl := Option.some.inj hF
     exact JQ.next rfl ⟨rfl, rfl, rfl, rfl, rfl, hs299⟩
  ·refine JC.cond_f (b := decide (i_298 < (p.Rows.length : Int))) rfl hc302 ?_
   refine JC.exit (JQ.exit_then (JQ.exit_then (JQ.exit_block ?_)))
   obtain rfl := Option.some.inj hF
   have ehr300 := hr300 _ rfl
   subst ehr300
   exact JQ.join least_297 ⟨rfl, rfl, rfl, rfl, hs299, rfl⟩
 ·rintro least_178 H179 f bs gs ⟨hf1, hf3, rfl, rfl, hs179, rfl⟩
  have hF := hKr180
  try dsimp only at hF
  refine (JQ.norm (i := 1) hf1 (JQ.norm (i := 3) hf3 ?_))
  refine JQ.go (JC.seq (JC.region (by rfl) ?_))
  intro hQ
  refine JL.fieldAddr fo_30_0 rfl .none rfl ?_
  refine JL.loadOwn 0 az_28 rfl rfl rfl .none rfl ?_
  refine JL.lenSL (R := R_Span) ul_28 (SL.mono R_Span_mono hs179 hp_0) .none rfl ?_
  obtain ⟨y357, hy357, hF⟩ := bind_some hF
  refine JL.callS (c_ref03_within n H179 (p.Rows.length : Int) 1 4 y357 hy357) rfl en_51 .none rfl ?_
  refine JL.move .none rfl ?_
  refine JL.cut 3 (fun f => f 50 = .bool (y357 && (least_178 == 0))) ?_ ?_
  ·intro hJ358
   rcases bcases y357 with hc359 | hc359
   ·skip
    refine JL.move (.some rfl rfl rfl hc359) rfl ?_
    refine JL.bin rfl rfl rfl (.some rfl rfl rfl hc359) rfl ?_
    refine JL.pick_t (b := y357) rfl hc359 .none rfl ?_
    exact hJ358 _ (and_t hc359 rfl)
   ·skip
    refine JL.skip (.bool rfl rfl rfl hc359) rfl ?_
    refine JL.skip (.bool rfl rfl rfl hc359) rfl ?_
    refine JL.pick_f (b := y357) rfl hc359 .none rfl ?_
    exact hJ358 _ (and_f hc359 rfl)
  ·rintro f hf50
   refine (JL.norm (i := 50) hf50 ?_)
   refine JL.assign .none rfl ?_
   refine JL.done hQ (JQ.go (JC.ret ?_))
   obtain rfl := Option.some.inj hF
   exact JQ.outS rfl (.tmp .nil) rfl
-- 34 ferrule/ferruleref03.Check
def F_ref03_Check_s1 (n : Nat) (s : Lap) : Int → Option (Int ⊕ (Int ⊕ Unit))
 | i_75 => if decide (i_75 < (s.Panels.length : Int)) = true then ((geti s.Panels i_75).bind fun y80 => (F_ref03_isPanel n y80).bind fun y85 => if (!y85) = true then (some (Sum.inr (Sum.inl 30))) else (some (Sum.inl (w64 (i_75 + 1))))) else (some (Sum.inr (Sum.inr ())))
def F_ref03_Check (n : Nat) (s : Lap) : Option Int :=
 (F_ref03_within n s.Width 1 8).bind fun y2 => (if (!y2) = true then (some true) else ((F_ref03_within n s.Length 1 12).bind fun y7 => some (!y7)) : Option Bool).bind fun p4 => (if p4 = true then (some true) else ((F_ref03_areCells n s s.Faults ([] : List Cell)).bind fun y12 => some (!y12)) : Option Bool).bind fun p9 => (if p9 = true then (some true) else ((F_ref03_areCells n s s.Flaws s.Faults).bind fun y17 => some (!y17)) : Option Bool).bind fun p14 => if (p14 || (decide (5 < (s.Panels.length : Int)))) = true then (some 30) else ((loopO n (F_ref03_Check_s1 n s) 0).bind fun r54 => match r54 with | .inl o => some o | .inr _ => some 0)
theorem c_ref03_Check (n : Nat) (H : Hp) (s : Lap) (s_v2 : Value) (hs_2 : SL H 2 R_Cell s_v2 s.Faults) (s_v3 : Value) (hs_3 : SL H 2 R_Cell s_v3 s.Flaws) (s_v4 : Value) (hs_4 : SL H 1 R_Panel s_v4 s.Panels) (y : Int) (hF : F_ref03_Check n s = some y) : SC Try.prog 34 [.agg [.int .i64 s.Width, .int .i64 s.Length, s_v2, s_v3, s_v4].toArray] (.int .i64 y) H := by
 rw [F_ref03_Check] at hF
 refine SC.of (N := 50) Try.func34 rfl rfl rfl fun w => ?_
 refine JC.seq (JC.region (by rfl) ?_)
 intro hQ
 refine JL.box (cs := [.int .i64 s.Width, .int .i64 s.Length, s_v2, s_v3, s_v4]) rfl .none rfl ?_
 intro b1
 refine JL.assign .none rfl ?_
 refine JL.done hQ (JQ.go (JC.seq (JC.seq (JC.region (by rfl) ?_))))
 intro hQ
 refine JL.fieldAddr fo_25_0 rfl .none rfl ?_
 refine JL.loadOwn 0 az_3 rfl rfl rfl .none rfl ?_
 obtain ⟨y2, hy2, hF⟩ := bind_some hF
 refine JL.callS (c_ref03_within n H s.Width 1 8 y2 hy2) rfl en_51 .none rfl ?_
 refine JL.not rfl .none rfl ?_
 refine JL.move .none rfl ?_
 obtain ⟨p4, hp4, hF⟩ := bind_some hF
 refine JL.cut 5 (fun f => f 1 = .pointer (some ⟨b1, 0, none⟩) ∧ f 13 = .bool p4) ?_ ?_
 ·intro hJ5
  rcases ite_some hp4 with ⟨hc6, hF⟩ | ⟨hc6, hF⟩
  ·skip
   refine JL.skip (.bool rfl rfl rfl hc6) rfl ?_
   refine JL.skip (.bool rfl rfl rfl hc6) rfl ?_
   refine JL.skip (.bool rfl rfl rfl hc6) rfl ?_
   refine JL.skip (.bool rfl rfl rfl hc6) rfl ?_
   refine JL.pick_t (b := (!y2)) rfl hc6 .none rfl ?_
   obtain rfl := Option.some.inj hF
   exact hJ5 _ ⟨rfl, rfl⟩
  ·skip
   refine JL.fieldAddr fo_25_1 rfl (.some rfl rfl rfl hc6) rfl ?_
   refine JL.loadOwn 0 az_3 rfl rfl rfl (.some rfl rfl rfl hc6) rfl ?_
   obtain ⟨y7, hy7, hF⟩ := bind_some hF
   refine JL.callS (c_ref03_within n H s.Length 1 12 y7 hy7) rfl en_51 (.some rfl rfl rfl hc6) rfl ?_
   refine JL.not rfl (.some rfl rfl rfl hc6) rfl ?_
   refine JL.pick_f (b := (!y2)) rfl hc6 .none rfl ?_
   obtain rfl := Option.some.inj hF
   exact hJ5 _ ⟨rfl, rfl⟩
 ·rintro f ⟨hf1, hf13⟩
  refine (JL.norm (i := 1) hf1 (JL.norm (i := 13) hf13 ?_))
  refine JL.move .none rfl ?_
  obtain ⟨p9, hp9, hF⟩ := bind_some hF
  refine JL.cut 6 (fun f => f 1 = .pointer (some ⟨b1, 0, none⟩) ∧ f 20 = .bool p9) ?_ ?_
  ·intro hJ10
   rcases ite_some hp9 with ⟨hc11, hF⟩ | ⟨hc11, hF⟩
   ·skip
    refine JL.skip (.bool rfl rfl rfl hc11) rfl ?_
    refine JL.skip (.bool rfl rfl rfl hc11) rfl ?_
    refine JL.skip (.bool rfl rfl rfl hc11) rfl ?_
    refine JL.skip (.bool rfl rfl rfl hc11) rfl ?_
    refine JL.skip (.bool rfl rfl rfl hc11) rfl ?_
    refine JL.pick_t (b := p4) rfl hc11 .none rfl ?_
    obtain rfl := Option.some.inj hF
    exact hJ10 _ ⟨rfl, rfl⟩
   ·skip
    refine JL.loadOwn 0 az_25 rfl rfl rfl (.some rfl rfl rfl hc11) rfl ?_
    refine JL.fieldAddr fo_25_2 rfl (.some rfl rfl rfl hc11) rfl ?_
    refine JL.loadOwn 0 az_22 rfl rfl rfl (.some rfl rfl rfl hc11) rfl ?_
    obtain ⟨y12, hy12, hF⟩ := bind_some hF
    refine JL.callS (c_ref03_areCells n H s s_v2 hs_2 s_v3 hs_3 s_v4 hs_4 s.Faults s_v2 hs_2 ([] : List Cell) (.slice none 0 0) SL.nil y12 hy12) rfl en_63 (.some rfl rfl rfl hc11) rfl ?_
    refine JL.not rfl (.some rfl rfl rfl hc11) rfl ?_
    refine JL.pick_f (b := p4) rfl hc11 .none rfl ?_
    obtain rfl := Option.some.inj hF
    exact hJ10 _ ⟨rfl, rfl⟩
  ·rintro f ⟨hf1, hf20⟩
   refine (JL.norm (i := 1) hf1 (JL.norm (i := 20) hf20 ?_))
   refine JL.move .none rfl ?_
   obtain ⟨p14, hp14, hF⟩ := bind_some hF
   refine JL.cut 8 (fun f => f 1 = .pointer (some ⟨b1, 0, none⟩) ∧ f 29 = .bool p14) ?_ ?_
   ·intro hJ15
    rcases ite_some hp14 with ⟨hc16, hF⟩ | ⟨hc16, hF⟩
    ·skip
     refine JL.skip (.bool rfl rfl rfl hc16) rfl ?_
     refine JL.skip (.bool rfl rfl rfl hc16) rfl ?_
     refine JL.skip (.bool rfl rfl rfl hc16) rfl ?_
     refine JL.skip (.bool rfl rfl rfl hc16) rfl ?_
     refine JL.skip (.bool rfl rfl rfl hc16) rfl ?_
     refine JL.skip (.bool rfl rfl rfl hc16) rfl ?_
     refine JL.skip (.bool rfl rfl rfl hc16) rfl ?_
     refine JL.pick_t (b := p9) rfl hc16 .none rfl ?_
     obtain rfl := Option.some.inj hF
     exact hJ15 _ ⟨rfl, rfl⟩
    ·skip
     refine JL.loadOwn 0 az_25 rfl rfl rfl (.some rfl rfl rfl hc16) rfl ?_
     refine JL.fieldAddr fo_25_3 rfl (.some rfl rfl rfl hc16) rfl ?_
     refine JL.loadOwn 0 az_22 rfl rfl rfl (.some rfl rfl rfl hc16) rfl ?_
     refine JL.fieldAddr fo_25_2 rfl (.some rfl rfl rfl hc16) rfl ?_
     refine JL.loadOwn 0 az_22 rfl rfl rfl (.some rfl rfl rfl hc16) rfl ?_
     obtain ⟨y17, hy17, hF⟩ := bind_some hF
     refine JL.callS (c_ref03_areCells n H s s_v2 hs_2 s_v3 hs_3 s_v4 hs_4 s.Flaws s_v3 hs_3 s.Faults s_v2 hs_2 y17 hy17) rfl en_63 (.some rfl rfl rfl hc16) rfl ?_
     refine JL.not rfl (.some rfl rfl rfl hc16) rfl ?_
     refine JL.pick_f (b := p9) rfl hc16 .none rfl ?_
     obtain rfl := Option.some.inj hF
     exact hJ15 _ ⟨rfl, rfl⟩
   ·rintro f ⟨hf1, hf29⟩
    refine (JL.norm (i := 1) hf1 (JL.norm (i := 29) hf29 ?_))
    refine JL.move .none rfl ?_
    refine JL.cut 5 (fun f => f 1 = .pointer (some ⟨b1, 0, none⟩) ∧ f 35 = .bool (p14 || (decide (5 < (s.Panels.length : Int))))) ?_ ?_
    ·intro hJ18
     rcases bcases p14 with hc19 | hc19
     ·skip
      refine JL.skip (.bool rfl rfl rfl hc19) rfl ?_
      refine JL.skip (.bool rfl rfl rfl hc19) rfl ?_
      refine JL.skip (.bool rfl rfl rfl hc19) rfl ?_
      refine JL.skip (.bool rfl rfl rfl hc19) rfl ?_
      refine JL.pick_t (b := p14) rfl hc19 .none rfl ?_
      exact hJ18 _ ⟨rfl, or_t hc19 rfl⟩
     ·skip
      refine JL.fieldAddr fo_25_4 rfl (.some rfl rfl rfl hc19) rfl ?_
      refine JL.loadOwn 0 az_23 rfl rfl rfl (.some rfl rfl rfl hc19) rfl ?_
      refine JL.lenSL (R := R_Panel) ul_23 hs_4 (.some rfl rfl rfl hc19) rfl ?_
      refine JL.bin rfl rfl rfl (.some rfl rfl rfl hc19) rfl ?_
      refine JL.pick_f (b := p14) rfl hc19 .none rfl ?_
      exact hJ18 _ ⟨rfl, or_f hc19 rfl⟩
    ·rintro f ⟨hf1, hf35⟩
     refine (JL.norm (i := 1) hf1 (JL.norm (i := 35) hf35 ?_))
     refine JL.done hQ (JQ.go ?_)
     rcases ite_some hF with ⟨hc20, hF⟩ | ⟨hc20, hF⟩
     ·refine JC.cond_t (b := (p14 || (decide (5 < (s.Panels.length : Int))))) rfl hc20 ?_
      refine JC.seq (JC.region (by rfl) ?_)
      intro hQ
      refine JL.assign .none rfl ?_
      refine JL.done hQ (JQ.go (JC.ret (JQ.ret_then ?_)))
      obtain rfl := Option.some.inj hF
      exact JQ.outS rfl (.tmp .nil) rfl
     ·refine JC.cond_f (b := (p14 || (decide (5 < (s.Panels.length : Int))))) rfl hc20 ?_
      refine JC.skip (JQ.go (JC.seq (JC.seq (JC.region (by rfl) ?_))))
      intro hQ
      refine JL.assign .none rfl ?_
      refine JL.done hQ (JQ.go ?_)
      obtain ⟨r54, hlr54, hKr54⟩ := bind_some hF
      refine JC.join (fun (_ : Unit) H53 f bs gs => bs = [] ∧ gs = [] ∧ HSub H H53 ∧ Sum.inr () = r54) ?_ ?_
      ·skip
       refine JC.block (JC.loop hlr54 (fun (i_75 : Int) H76 f bs gs => f 1 = .pointer (some ⟨b1, 0, none⟩) ∧ f 3 = .int .i64 i_75 ∧ bs = [(b1, .cells [.int .i64 s.Width, .int .i64 s.Length, s_v2, s_v3, s_v4].toArray 25)] ∧ gs = [] ∧ HSub H H76) ⟨rfl, rfl, rfl, rfl, (HSub.refl _)⟩ ?_)
       rintro i_75 x78 H76 f bs gs ⟨hf1, hf3, rfl, rfl, hs76⟩ hF hr77
       rw [F_ref03_Check_s1] at hF
       refine (JC.norm (i := 1) hf1 (JC.norm (i := 3) hf3 ?_))
       refine JC.seq (JC.seq (JC.region (by rfl) ?_))
       intro hQ
       refine JL.move .none rfl ?_
       refine JL.fieldAddr fo_25_4 rfl .none rfl ?_
       refine JL.loadOwn 0 az_23 rfl rfl rfl .none rfl ?_
       refine JL.lenSL (R := R_Panel) ul_23 (SL.mono R_Panel_mono hs76 hs_4) .none rfl ?_
       refine JL.bin rfl rfl rfl .none rfl ?_
       refine JL.done hQ (JQ.go ?_)
       rcases ite_some hF with ⟨hc79, hF⟩ | ⟨hc79, hF⟩
       ·refine JC.cond_t (b := decide (i_75 < (s.Panels.length : Int))) rfl hc79 ?_
        refine JC.skip (JQ.go (JC.seq (JC.block (JC.seq (JC.region (by rfl) ?_)))))
        intro hQ
        refine JL.fieldAddr fo_25_4 rfl .none rfl ?_
        refine JL.loadOwn 0 az_23 rfl rfl rfl .none rfl ?_
        refine JL.move .none rfl ?_
        obtain ⟨y80, hy80, hF⟩ := bind_some hF
        refine JL.indexSL (R := R_Panel) sl_23 (SL.mono R_Panel_mono hs76 hs_4) rfl hy80 .none rfl ?_
        rintro b81 o82 cs83 hc84 - ⟨y80_v0, rfl, hy80_0⟩
        refine JL.loadH 0 az_30 rfl hc84 rfl .none rfl ?_
        obtain ⟨y85, hy85, hF⟩ := bind_some hF
        refine JL.callS (c_ref03_isPanel n H76 y80 y80_v0 hy80_0 y85 hy85) rfl en_64 .none rfl ?_
        refine JL.not rfl .none rfl ?_
        refine JL.done hQ (JQ.go (JC.fresh (fun f => f 1 = .pointer (some ⟨b1, 0, none⟩) ∧ f 3 = .int .i64 i_75 ∧ f 49 = .bool (!y85)) ⟨rfl, rfl, rfl⟩ ?_))
        rintro f ⟨hf1, hf3, hf49⟩
        refine (JC.norm (i := 1) hf1 (JC.norm (i := 3) hf3 (JC.norm (i := 49) hf49 ?_)))
        rcases ite_some hF with ⟨hc86, hF⟩ | ⟨hc86, hF⟩
        ·refine JC.cond_t (b := (!y85)) rfl hc86 ?_
         refine JC.seq (JC.region (by rfl) ?_)
         intro hQ
         refine JL.assign .none rfl ?_
         refine JL.done hQ (JQ.go (JC.ret (JQ.ret_block (JQ.ret_then (JQ.ret_then (JQ.ret_block (JQ.ret_join (JQ.ret_then ?_))))))))
         obtain rfl := Option.some.inj hF
         have ehr77 := hr77 _ rfl
         subst ehr77
         have hF := hKr54
         try dsimp only at hF
         obtain rfl := Option.some.inj hF
         exact JQ.outS rfl (.tmp .nil) rfl
        ·refine JC.cond_f (b := (!y85)) rfl hc86 ?_
         refine JC.skip (JQ.normal_block (JQ.go (JC.region (by rfl) ?_)))
         intro hQ
         refine JL.move .none rfl ?_
         refine JL.bin rfl rfl rfl .none rfl ?_
         refine JL.assign .none rfl ?_
         refine JL.done hQ ?_
         obtain rfl := Option.some.inj hF
         exact JQ.next rfl ⟨rfl, rfl, rfl, rfl, hs76⟩
       ·refine JC.cond_f (b := decide (i_75 < (s.Panels.length : Int))) rfl hc79 ?_
        refine JC.exit (JQ.exit_then (JQ.exit_then (JQ.exit_block ?_)))
        obtain rfl := Option.some.inj hF
        have ehr77 := hr77 _ rfl
        subst ehr77
        refine JQ.mask [false] [] ?_
        exact JQ.join () ⟨rfl, rfl, hs76, rfl⟩
      ·rintro _ H53 f bs gs ⟨rfl, rfl, hs53, rfl⟩
       have hF := hKr54
       try dsimp only at hF
       refine JQ.go (JC.seq (JC.region (by rfl) ?_))
       intro hQ
       refine JL.assign .none rfl ?_
       refine JL.done hQ (JQ.go (JC.ret ?_))
       obtain rfl := Option.some.inj hF
       exact JQ.outS rfl (.tmp .nil) rfl
end Go.Proofs.Ytflhjlgimihmgaa
end
