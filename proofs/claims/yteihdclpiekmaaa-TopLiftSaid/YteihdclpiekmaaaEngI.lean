/-
  Ranging over a function: what an iterator promises, what its caller does; the marks at a function's end; calls of yield.
-/
import Derived.Test.YteihdclpiekmaaaEngH
namespace Go.Dec
open Go Go.RowKit

/-- what is said of one's own memory at a state of a loop -/
abbrev Own1 (σ : Type) := σ → Hp → List (Nat × Obj) → List GS → Prop

/-- behind a call of yield -/
def After {σ ρ : Type} (B : Bs) (H : Hp) (A : Own1 σ) (Ax : Own1 ρ) (tl : List (Nat × Obj)) (y : σ ⊕ ρ) : Ending → World → Prop
  | .returned v, w' => ∃ H' fr gs, HSub H H' ∧ St B H' (tl ++ fr) gs w' ∧ (match y with | .inl s => v = .bool true ∧ A s H' fr gs | .inr r => v = .bool false ∧ Ax r H' fr gs)
  | _, _ => False

/-- what yield does -/
def YS {α σ ρ : Type} (P : Program) (B : Bs) (l : Nat) (V : Hp → List (Nat × Obj) → Value → α → Prop) (A : Own1 σ) (Ax : Own1 ρ) (step : σ → α → Option (σ ⊕ ρ)) : Prop :=
  ∀ s x y v own tl H fr gs w, A s H fr gs → step s x = some y → V H own v x → St B H (own ++ tl ++ fr) gs w → YieldAt (FR none) 0 P l #[v] w (After B H A Ax (own ++ tl) y)

def OneOf {σ ρ : Type} (A : Own1 σ) (Ax : Own1 ρ) : σ ⊕ ρ → Hp → List (Nat × Obj) → List GS → Prop
  | .inl s => A s
  | .inr r => Ax r
/-- what an iterator does: F runs the caller's step over what is yielded -/
def IT {α : Type} (P : Program) (k : Nat) (caps : List Value) (H0 : Hp) (V : Hp → List (Nat × Obj) → Value → α → Prop) (F : ∀ (σ ρ : Type), (σ → α → Option (σ ⊕ ρ)) → σ → Option (σ ⊕ ρ)) : Prop :=
  ∀ (σ ρ : Type) (B : Bs) (A : Own1 σ) (Ax : Own1 ρ) (step : σ → α → Option (σ ⊕ ρ)) (l : Nat) (s0 : σ) (y : σ ⊕ ρ), F σ ρ step s0 = some y → YS P B l V A Ax step →
    ∀ H fr gs w, HSub H0 H → A s0 H fr gs → St B H fr gs w →
      CallsIn (FR none) 0 P k (#[.func (.yield l) #[] #[]] ++ caps.toArray) w fun e w' => ∃ v H' fr' gs', e = .returned v ∧ HSub H H' ∧ St B H' fr' gs' w' ∧ OneOf A Ax y H' fr' gs'

section
variable {P : Program} {ro : Option Nat} {N : Nat} {ds : List Deferred} {B : Bs} {H : Hp} {Q : Exit → Act → World → Prop} {f : Nat → Value} {bs : List (Nat × Obj)} {gs : List GS}

theorem St.put {w : World} (h : St B H bs gs w) {i b : Nat} {o : Obj} (o' : Obj) (hi : bs[i]? = some (b, o)) : St B H (bs.set i (b, o')) gs (w.putObj b o') := by
  have hlt := h.own_lt (List.mem_of_getElem? hi)
  exact h.setOwn hi rfl rfl rfl (by simp) (fun k hk => World.putObj_heap_other hk) (World.putObj_heap_same hlt)

/-- what is asked where a round's body is left -/
def RQ {σ ρ : Type} (B : Bs) (H : Hp) (A : Own1 σ) (Ax : ρ → Code → Hp → List (Nat × Obj) → List GS → Prop) (T : List (Nat × Obj)) (y : σ ⊕ ρ) : Exit → Act → World → Prop
  | .normal, _, w => ∃ s, y = .inl s ∧ ∃ H' fr gs, HSub H H' ∧ A s H' fr gs ∧ St B H' (fr ++ T) gs w
  | .ret, _, w => ∃ r, y = .inr r ∧ ∃ H' fr gs, HSub H H' ∧ Ax r .ret H' fr gs ∧ St B H' (fr ++ T) gs w
  | .exit id, _, w => ∃ r, y = .inr r ∧ ∃ H' fr gs, HSub H H' ∧ Ax r (.exit id) H' fr gs ∧ St B H' (fr ++ T) gs w
  | .goto t, _, w => ∃ r, y = .inr r ∧ ∃ H' fr gs, HSub H H' ∧ Ax r (.goto t) H' fr gs ∧ St B H' (fr ++ T) gs w
  | .panic _, _, _ => False
  | .outgrown, _, _ => False
theorem noOut_RQ {σ ρ : Type} {A : Own1 σ} {Ax : ρ → Code → Hp → List (Nat × Obj) → List GS → Prop} {T : List (Nat × Obj)} {y : σ ⊕ ρ} : NoOut (RQ B H A Ax T y) := ⟨fun _ _ h => h, fun _ _ _ h => h⟩

theorem St.putL {w : World} {X Y : List (Nat × Obj)} {l : Nat} {o : Obj} (o' : Obj) (h : St B H (X ++ (l, o) :: Y) gs w) : St B H (X ++ (l, o') :: Y) gs (w.putObj l o') := by
  have := h.put (i := X.length) (b := l) (o := o) o' (by simp)
  simpa using this

/-- behind the assignments of a round -/
def AP (P : Program) (l N : Nat) (B : Bs) (Q : List (Nat × Obj) → Exit → Act → World → Prop) (body : Code) (T : List (Nat × Obj)) : Act → World → Prop := fun a w =>
  ∃ H1 f1 bs1 gs1, Fr N [] a f1 ∧ St B H1 (bs1 ++ T) gs1 w ∧ ∀ T', JC P (some l) N [] B H1 body (Q T') f1 (bs1 ++ T') gs1
def NoX : Exit → Act → World → Prop := fun _ _ _ => False
theorem noOut_AP {K : Act → World → Prop} : NoOut (Exit.then K NoX) := ⟨fun _ _ h => h, fun _ _ _ h => h⟩
theorem JQ.assigned {l : Nat} {Q : List (Nat × Obj) → Exit → Act → World → Prop} {body : Code} {T : List (Nat × Obj)} (bs1 : List (Nat × Obj)) (h : ∀ T', JC P (some l) N [] B H body (Q T') f (bs1 ++ T') gs) :
    JQ N [] B H .normal (Exit.then (AP P l N B Q body T) NoX) f (bs1 ++ T) gs := fun _ _ _ ha hs => ⟨H, f, bs1, gs, ha, hs, h⟩

/-- for p := range g -/
theorem JC.rangeFunc {α σ ρ : Type} {g : Operand} {pr : Tmp} {assign body : Code} {k : Nat} {caps : List Value} {V : Hp → List (Nat × Obj) → Value → α → Prop} {F : ∀ (σ ρ : Type), (σ → α → Option (σ ⊕ ρ)) → σ → Option (σ ⊕ ρ)}
    {step : σ → α → Option (σ ⊕ ρ)} {s0 : σ} {y : σ ⊕ ρ} (hg : ev f g = .func (.func k) #[] caps.toArray) (he : Ent P k) (hit : IT P k caps H V F) (hp : Nat.blt pr N = true)
    (hF : F σ ρ step s0 = some y) (A : Own1 σ) (Ax : ρ → Code → Hp → List (Nat × Obj) → List GS → Prop) (h0 : A s0 H bs gs)
    (hbody : ∀ l s x y v own T H' fr gs', A s H' fr gs' → step s x = some y → V H' own v x → HSub H H' →
      JC P (some l) N [] B H' assign (Exit.then (AP P l N B (fun T' => RQ B H' A Ax (own ++ T') y) body T) NoX) (upd f pr v) (fr ++ (own ++ T)) gs')
    (hdone : ∀ D s H' fr gs', y = .inl s → A s H' fr gs' → HSub H H' → JQ N (⟨.collected D, #[]⟩ :: ds) B H' .normal Q f (fr ++ [(D, .deferred (some []))]) gs')
    (hstop : ∀ D r c H' fr gs', y = .inr r → Ax r c H' fr gs' → HSub H H' → JC P none N (⟨.collected D, #[]⟩ :: ds) B H' c Q f (fr ++ [(D, .deferred (some []))]) gs') :
    JC P none N ds B H (.rangeFunc g #[pr] assign body) Q f bs gs := fun hQ a w ha hs => by
  refine wpIn_rangeFunc ?_
  intro fn hfn
  have eg : ∀ args w, (callFunc k args).run P w = .ok (.enter k args) w := he
  obtain ⟨rec, hrec⟩ : ∃ rec : LoopState → Option Code → Loop, rec = fun st pe => { state := st, pending := pe, fn, tmps := a.tmps, params := #[pr], assign, body, defers := w.heap.size } := ⟨_, rfl⟩
  obtain ⟨W1, hW1⟩ : ∃ W1, (w.alloc (.deferred (some []))).alloc (.loop (rec .ready none)) = W1 := ⟨_, rfl⟩
  obtain ⟨l, hl⟩ : ∃ l, l = w.heap.size + 1 := ⟨_, rfl⟩
  obtain ⟨D, hD⟩ : ∃ D, D = w.heap.size := ⟨_, rfl⟩
  have hs1 : St B H (bs ++ [(l, .loop (rec .ready none)), (D, .deferred (some []))]) gs W1 := by
    have h1 := (hs.alloc (.deferred (some []))).alloc (.loop (rec .ready none))
    rw [hW1] at h1
    refine h1.perm ?_
    have : (w.alloc (.deferred (some []))).heap.size = l := by rw [hl]; simp
    rw [this, ← hD]
    exact (List.perm_append_comm (l₁ := [(l, Obj.loop (rec .ready none)), (D, .deferred (some []))]) (l₂ := bs))
  have fin : ∀ (st : LoopState) (pe : Option Code) {H' : Hp} {gs' : List GS} {fc : List (Nat × Obj)} {W : World}, st ≠ .busy → St B H' (fc ++ [(l, .loop (rec st pe)), (D, .deferred (some []))]) gs' W →
      ∃ W', (Instr.endLoop l).run P W = .ok pe W' ∧ St B H' (fc ++ [(D, .deferred (some []))]) gs' W' := fun st pe H' gs' fc W hne hW => by
    have hL := (hW.own (l, .loop (rec st pe)) (by simp)).1
    refine ⟨_, ?_, (hW.putL (.loop { rec st pe with state := .exhausted })).sub (bs' := fc ++ [(D, .deferred (some []))]) ?_ (List.Sublist.refl _)⟩
    · have := run_endLoop (P := P) hL (by rw [hrec]; exact hne)
      rw [hrec] at this ⊢
      exact this
    · exact (List.Sublist.refl fc).append (by simp)
  refine ⟨w.heap.size + 1, [{ target := .collected w.heap.size, args := #[] }], W1, { target := .fn (.func k) caps.toArray, args := #[.func (.yield (w.heap.size + 1)) #[] #[]] }, W1, k,
    #[.func (.yield (w.heap.size + 1)) #[] #[]] ++ caps.toArray, W1, ?_, ?_, ?_, ?_, fun h => by simp [FR] at h, ?_⟩
  · rw [← hW1, hrec]; exact run_enterLoop_outer _ _ _ _ _
  · simp only [resolve, ha.eval, hg]
    simp [go_sem, ev]
  · intro f' hf'; exact trivial
  · simp [invoke, go_sem, eg]
  · rw [← hl, ← hD]
    refine (hit σ ρ B (fun s H' fr gs' => ∃ fc, fr = fc ++ [(l, .loop (rec .ready none)), (D, .deferred (some []))] ∧ A s H' fc gs' ∧ HSub H H')
      (fun r H' fr gs' => ∃ fc c, fr = fc ++ [(l, .loop (rec .done (some c))), (D, .deferred (some []))] ∧ Ax r c H' fc gs' ∧ HSub H H') step l s0 y hF ?_ H _ gs W1 (HSub.refl _) ⟨bs, rfl, h0, HSub.refl _⟩ hs1).mono ?_
    · -- one round
      rintro s x y v own tl H' fr gs' W ⟨fc, rfl, hA, hsub⟩ hst hV hW
      have hP : St B H' (fc ++ (own ++ (tl ++ [(l, .loop (rec .ready none)), (D, .deferred (some []))]))) gs' W := hW.perm (by
        have := (List.perm_append_comm (l₁ := own ++ tl) (l₂ := fc)).append_right [(l, Obj.loop (rec .ready none)), (D, .deferred (some []))]
        simpa using this)
      have hL := (hP.own (l, .loop (rec .ready none)) (by simp)).1
      have hy := run_yield (P := P) (args := #[v]) hL (by rw [hrec]; rfl)
      rw [hrec] at hy
      refine ⟨fn, _, assign, body, hy, roundIn_of_wpIn hfn ?_⟩
      have ha' : Fr N [] { tmps := (#[pr].zip #[v]).foldl (fun tmps (t, a) => tmps.setIfInBounds t a) a.tmps, defers := [] } (upd f pr v) := by
        have := Fr.put (ds := ds) ha hp v
        refine ⟨?_, rfl, ?_⟩
        · have := this.size; simpa [Act.put] using this
        · intro i; have := this.get i; simpa [Act.put] using this
      refine wpIn_mono (hbody l s x y v own _ H' fc gs' hA hst hV hsub noOut_AP _ W ha' hP) ?_
      intro e a1 w1 hq
      cases e with
      | normal =>
        obtain ⟨H1, f1, bs1, gs1, ha1, hs1, hJ⟩ := hq
        rw [← List.append_assoc] at hs1
        have hL1 := (hs1.own (l, .loop (rec .ready none)) (by simp)).1
        refine ⟨_, run_beginRound hL1 (by rw [hrec]), ?_⟩
        have hs2 := hs1.putL (.loop { rec .ready none with state := .busy })
        rw [List.append_assoc] at hs2
        refine wpIn_mono (hJ _ noOut_RQ a1 _ ha1 hs2) ?_
        have fin2 : ∀ (jump : Option Code) {H'' : Hp} {gs'' : List GS} {fr'' : List (Nat × Obj)} {W3 : World}, St B H'' (fr'' ++ (own ++ (tl ++ [(l, .loop { rec .ready none with state := .busy }), (D, .deferred (some []))]))) gs'' W3 →
            ∃ W4, (Instr.endRound l jump).run P W3 = .ok (.bool jump.isNone) W4 ∧ St B H'' (own ++ tl ++ (fr'' ++ [(l, .loop (rec (if jump.isNone then .ready else .done) jump)), (D, .deferred (some []))])) gs'' W4 := fun jump H'' gs'' fr'' W3 h3 => by
          rw [← List.append_assoc, ← List.append_assoc] at h3
          have hL3 := (h3.own (l, .loop { rec .ready none with state := .busy }) (by simp)).1
          have hr := run_endRound (P := P) jump hL3
          refine ⟨_, hr, ?_⟩
          have h4 := h3.putL (.loop { ({ rec .ready none with state := .busy } : Loop) with state := if jump.isNone then .ready else .done, pending := jump })
          have e4 : ({ ({ rec .ready none with state := .busy } : Loop) with state := if jump.isNone then .ready else .done, pending := jump } : Loop) = rec (if jump.isNone then .ready else .done) jump := by rw [hrec]
          rw [e4] at h4 ⊢
          refine h4.perm ?_
          have := (List.perm_append_comm (l₁ := fr'') (l₂ := own ++ tl)).append_right [(l, Obj.loop (rec (if jump.isNone then .ready else .done) jump)), (D, .deferred (some []))]
          simpa using this
        intro e a3 W3 hp3
        cases e with
        | normal =>
          obtain ⟨s', rfl, H'', fr'', gs'', k1, k2, k3⟩ := hp3
          obtain ⟨W4, r1, r2⟩ := fin2 none k3
          exact ⟨_, _, r1, H'', _, gs'', k1, r2, rfl, fr'', rfl, k2, hsub.trans k1⟩
        | ret =>
          obtain ⟨r, rfl, H'', fr'', gs'', k1, k2, k3⟩ := hp3
          obtain ⟨W4, r1, r2⟩ := fin2 (some .ret) k3
          exact ⟨_, _, r1, H'', _, gs'', k1, r2, rfl, fr'', _, rfl, k2, hsub.trans k1⟩
        | exit id =>
          obtain ⟨r, rfl, H'', fr'', gs'', k1, k2, k3⟩ := hp3
          obtain ⟨W4, r1, r2⟩ := fin2 (some (.exit id)) k3
          exact ⟨_, _, r1, H'', _, gs'', k1, r2, rfl, fr'', _, rfl, k2, hsub.trans k1⟩
        | goto t =>
          obtain ⟨r, rfl, H'', fr'', gs'', k1, k2, k3⟩ := hp3
          obtain ⟨W4, r1, r2⟩ := fin2 (some (.goto t)) k3
          exact ⟨_, _, r1, H'', _, gs'', k1, r2, rfl, fr'', _, rfl, k2, hsub.trans k1⟩
        | panic ch => exact hp3.elim
        | outgrown => exact hp3.elim
      | exit id => exact hq.elim
      | goto t => exact hq.elim
      | ret => exact hq.elim
      | panic ch => exact hq.elim
      | outgrown => exact hq.elim
    · -- behind the iterator
      rintro e W2 ⟨v, H', fr', gs', rfl, hsub, hW, hy⟩
      have ha2 : Fr N (⟨.collected D, #[]⟩ :: ds) { a with defers := [⟨.collected D, #[]⟩] ++ a.defers } f := ⟨ha.size, by simp [ha.defers], ha.get⟩
      cases y with
      | inl s =>
        obtain ⟨fc, rfl, hA, _⟩ := hy
        obtain ⟨W', r1, r2⟩ := fin .ready none (by simp) hW
        exact ⟨none, W', r1, hdone D s H' fc gs' rfl hA hsub hQ _ W' ha2 r2⟩
      | inr r =>
        obtain ⟨fc, c, rfl, hA, _⟩ := hy
        obtain ⟨W', r1, r2⟩ := fin .done (some c) (by simp) hW
        exact ⟨some c, W', r1, hstop D r c H' fc gs' rfl hA hsub hQ _ W' ha2 r2⟩
end
end Go.Dec
