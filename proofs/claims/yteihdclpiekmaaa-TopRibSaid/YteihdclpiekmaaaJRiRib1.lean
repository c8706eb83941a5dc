/-
  A part of the proof of RiRib: the texts EngG, EngH, EngI, EngJ, EngK, EngL, EngM, EngS, EngT, EngU, EngV, EngW, EngX, EngY, EngP, EngO, EngLA, EngLB, EngLC, EngLD, EngLE, EngLF.
-/
import Derived.Test.YteihdclpiekmaaaJRiRib0
import Derived.ProofKit
import Derived.Maps.RangeWalk
import Derived.DeepKeys4
import Derived.Scope
import Derived.Lib.AppendZeros
section
namespace Go.Dec
open Go Go.RowKit
section
variable {q : Md} {P : Program} {N : Nat} {ds : List Deferred} {B : Bs} {H : Hp} {ops : List Oper} {Q : Exit → Act → World → Prop} {rest : List Oper} {f : Nat → Value} {bs : List (Nat × Obj)} {gs : List GS}
variable {d : Nat} {t : TypeId} {p : String} {af : Array Edge} {g : Option (Nat × Bool)}
theorem JL.eqAgg {tx ty : TypeId} {x y : Operand} {l m : List Value} {r : Bool} (hg : P.eqGuardType P.depth tx = false) (hx : ev f x = .agg l.toArray) (hy : ev f y = .agg m.toArray) (hr : ∀ w, (Op.equal tx (.agg l.toArray) (.agg m.toArray)).run P w = .ok r w) (hw : Want ops f g) (hd : Nat.blt d N = true)
    (h : JL q P N ds B H ops Q rest (upd f d (.bool r)) bs gs) : JL q P N ds B H ops Q (⟨some d, .binOp .eql tx x y ty, t, p, af, g⟩ :: rest) f bs gs :=
  .val hw hd (fun w _ => by
    unfold execOp; simp only [hx, hy, eqGuard, binOp]; simp [run_program, hg, hr]) h
/-- own blocks: two neighbours change places -/
def swapAt {α : Type} : Nat → List α → List α
  | 0, a :: b :: l => b :: a :: l
  | n + 1, a :: l => a :: swapAt n l
  | _, l => l
theorem swapAt_perm {α : Type} : ∀ (n : Nat) (l : List α), l.Perm (swapAt n l)
  | 0, [] => by simp [swapAt]
  | 0, [a] => by simp [swapAt]
  | 0, a :: b :: l => List.Perm.swap b a l
  | n + 1, [] => by simp [swapAt]
  | n + 1, a :: l => (swapAt_perm n l).cons a
theorem JQ.swap {e : Exit} (n : Nat) (h : JQ N ds B H e Q f (swapAt n bs) gs) : JQ N ds B H e Q f bs gs := fun hQ a w ha hs => h hQ a w ha (hs.perm (swapAt_perm n bs))
end
/-- a pointer that may be nil, to data -/
def PT {α : Type} (H : Hp) (R : Rl α) (v : Value) : Option α → Prop
  | none => v = .pointer none
  | some x => ∃ b o cs, v = .pointer (some ⟨b, o, none⟩) ∧ Cells H b o cs ∧ R H cs x
theorem PT.mono {α : Type} {H H' : Hp} {R : Rl α} (hR : Mono R) (h : HSub H H') {v : Value} : ∀ {o : Option α}, PT H R v o → PT H' R v o
  | none, hp => hp
  | some _, ⟨b, o, cs, h1, h2, h3⟩ => ⟨b, o, cs, h1, h2.mono h, hR _ _ h _ _ h3⟩
end Go.Dec
end
section
namespace Go.Dec
open Go Go.RowKit
section
variable {q : Md} {P : Program} {N : Nat} {ds : List Deferred} {B : Bs} {H : Hp} {ops : List Oper} {Q : Exit → Act → World → Prop} {rest : List Oper} {f : Nat → Value} {bs : List (Nat × Obj)} {gs : List GS}
variable {d : Nat} {t : TypeId} {p : String} {af : Array Edge} {g : Option (Nat × Bool)}
/-- what an own slice holds is one cell -/
theorem JL.oneG {l : List Oper} (j : Nat) {gq : GS} (hj : gs[j]? = some gq) (h : gq.v.oneCell' = true ∧ vcells gq.v = [gq.v] → JL .plain P N ds B H ops Q l f bs gs) : JL .plain P N ds B H ops Q l f bs gs := fun a w ha hs => by
  refine h ?_ a w ha hs
  obtain ⟨_, hr⟩ := hs.row gq (List.mem_of_getElem? hj)
  rcases hr with ⟨hv, _⟩ | ⟨b, cap, cur, hv, _⟩ <;> rw [hv] <;> exact ⟨rfl, rfl⟩
theorem JL.formG {l : List Oper} (j : Nat) {gq : GS} (hj : gs[j]? = some gq) (h : ∀ a n c, gq.v = .slice a n c → JL .plain P N ds B H ops Q l f bs gs) : JL .plain P N ds B H ops Q l f bs gs := fun a w ha hs => by
  obtain ⟨_, hr⟩ := hs.row gq (List.mem_of_getElem? hj)
  rcases hr with ⟨hv, _⟩ | ⟨b, cap, cur, hv, _⟩
  · exact h _ _ _ hv a w ha hs
  · exact h _ _ _ hv a w ha hs
theorem SL.vc {α : Type} {H : Hp} {sz : Nat} {R : Rl α} {v : Value} {l : List α} (hs : SL H sz R v l) : vcells v = [v] := by
  obtain ⟨a, c, rfl, _⟩ := hs; rfl
def slc {α : Type} (l : List α) (lo hi : Int) : Option (List α) := if 0 ≤ lo ∧ lo ≤ hi ∧ hi ≤ l.length then some ((l.take hi.toNat).drop lo.toNat) else none
theorem SL.slc {α : Type} {sz : Nat} {R : Rl α} {a : Option Addr} {n c : Nat} {l m : List α} {lo hi : Int} (hs : SL H sz R (.slice a n c) l) (hm : slc l lo hi = some m) :
    n = l.length ∧ n ≤ c ∧ 0 ≤ lo ∧ lo ≤ hi ∧ hi ≤ n ∧ SL H sz R (.slice (if c = lo.toNat then a else a.map (·.add (lo.toNat * sz))) (hi.toNat - lo.toNat) (c - lo.toNat)) m := by
  obtain ⟨a', c', hv, ⟨h1, h2⟩, h3⟩ := hs
  cases hv
  unfold Dec.slc at hm
  split at hm
  · rename_i hb
    obtain ⟨k0, k1, k2⟩ := hb
    cases hm
    refine ⟨rfl, h2, k0, k1, k2, ?_⟩
    have hlen : ((l.take hi.toNat).drop lo.toNat).length = hi.toNat - lo.toNat := by simp; omega
    refine ⟨_, _, by rw [hlen], ⟨by rw [hlen]; omega, by rw [hlen]; omega⟩, ?_⟩
    by_cases hc : c = lo.toNat
    · left
      apply List.eq_nil_of_length_eq_zero
      rw [hlen]; omega
    · rcases h3 with rfl | ⟨b, o, rfl, h5⟩
      · left; simp
      · right
        refine ⟨b, o + lo.toNat * sz, by rw [if_neg hc]; simp [Addr.add_mid], fun i x hi' => ?_⟩
        rw [List.getElem?_drop, List.getElem?_take] at hi'
        split at hi'
        · obtain ⟨cs, e1, e2, e3⟩ := h5 _ x hi'
          exact ⟨cs, by rw [Nat.add_mul] at e1; rw [Nat.add_assoc]; exact e1, e2, e3⟩
        · cases hi'
  · cases hm
theorem run_bound {x : Value} {k : IntKind} {i : Int} {y : Nat} {code : BoundsCode} (hx : x = .int k i) (h0 : 0 ≤ i) (h1 : i ≤ y) (w : World) : (Instr.sliceBound x y code).run P w = .ok i.toNat w := by
  subst hx
  simp [Instr.sliceBound, asIntOf, h0, h1]
theorem JL.sliceLoHi {α : Type} {tx e : TypeId} {x lo hi : Operand} {k k' : IntKind} {i j : Int} {sz : Nat} {R : Rl α} {l m : List α} (ht : slT P tx = some (e, sz)) (hs : SL H sz R (ev f x) l) (hlo : ev f lo = .int k i) (hhi : ev f hi = .int k' j) (hm : slc l i j = some m) (hw : Want ops f g) (hd : Nat.blt d N = true)
    (h : ∀ v, SL H sz R v m → JL q P N ds B H ops Q rest (upd f d v) bs gs) : JL q P N ds B H ops Q (⟨some d, .slice tx x (some lo) (some hi) none, t, p, af, g⟩ :: rest) f bs gs := by
  obtain ⟨a, c, hv, hl, h3⟩ := id hs
  rw [hv] at hs
  obtain ⟨h1, h2, k0, k1, k2, h4⟩ := hs.slc hm
  refine .val hw hd (fun w _ => ?_) (h _ h4)
  unfold slT at ht
  split at ht
  · rename_i e' hu
    split at ht
    · rename_i ti hti
      simp only [Option.some.injEq, Prod.mk.injEq] at ht
      obtain ⟨rfl, rfl⟩ := ht
      have k2' : j ≤ ((c : Nat) : Int) := by omega
      have k1' : i ≤ ((j.toNat : Nat) : Int) := by omega
      simp [execOp, hv, Instr.sliceAt, Instr.slice, Instr.sliceBounds, run_bound hhi (Int.le_trans k0 k1) k2', run_bound hlo k0 k1', run_underlying hu, sizeOf, typeInfo, hti]
    · cases ht
  · cases ht
end
end Go.Dec
end
section
namespace Go.Dec
open Go Go.RowKit
/-- what is said of one's own memory at a state of a loop -/
abbrev Own1 (σ : Type) := σ → Hp → List (Nat × Obj) → List GS → Prop
/-- behind a call of yield -/
def After {σ ρ : Type} (B : Bs) (H : Hp) (A : Own1 σ) (Ax : Own1 ρ) (tl : List (Nat × Obj)) (y : σ ⊕ ρ) : Ending → World → Prop
  | .returned v, w' => ∃ H' fr gs, HSub H H' ∧ St B H' (tl ++ fr) gs w' ∧ (match y with | .inl s => v = .bool true ∧ A s H' fr gs | .inr r => v = .bool false ∧ Ax r H' fr gs)
  | _, _ => False
/-- what yield does -/
def YS {α σ ρ : Type} (P : Program) (B : Bs) (l : Nat) (V : Hp → List (Nat × Obj) → Value → α → Prop) (A : Own1 σ) (Ax : Own1 ρ) (step : σ → α → Option (σ ⊕ ρ)) : Prop :=
  ∀ s x y v own tl H fr gs w, A s H fr gs → step s x = some y → V H own v x → St B H (own ++ tl ++ fr) gs w → YieldAt (FR none) 0 P l #[v] w (After B H A Ax (own ++ tl) y)
def OneOf {σ ρ : Type} (A : Own1 σ) (Ax : Own1 ρ) : σ ⊕ ρ → Hp → List (Nat × Obj) → List GS → Prop
  | .inl s => A s
  | .inr r => Ax r
/-- what an iterator does: F runs the caller's step over what is yielded -/
def IT {α : Type} (P : Program) (k : Nat) (caps : List Value) (H0 : Hp) (V : Hp → List (Nat × Obj) → Value → α → Prop) (F : ∀ (σ ρ : Type), (σ → α → Option (σ ⊕ ρ)) → σ → Option (σ ⊕ ρ)) : Prop :=
  ∀ (σ ρ : Type) (B : Bs) (A : Own1 σ) (Ax : Own1 ρ) (step : σ → α → Option (σ ⊕ ρ)) (l : Nat) (s0 : σ) (y : σ ⊕ ρ), F σ ρ step s0 = some y → YS P B l V A Ax step →
    ∀ H fr gs w, HSub H0 H → A s0 H fr gs → St B H fr gs w →
      CallsIn (FR none) 0 P k (#[.func (.yield l) #[] #[]] ++ caps.toArray) w fun e w' => ∃ v H' fr' gs', e = .returned v ∧ HSub H H' ∧ St B H' fr' gs' w' ∧ OneOf A Ax y H' fr' gs'
section
variable {P : Program} {ro : Option Nat} {N : Nat} {ds : List Deferred} {B : Bs} {H : Hp} {Q : Exit → Act → World → Prop} {f : Nat → Value} {bs : List (Nat × Obj)} {gs : List GS}
theorem St.put {w : World} (h : St B H bs gs w) {i b : Nat} {o : Obj} (o' : Obj) (hi : bs[i]? = some (b, o)) : St B H (bs.set i (b, o')) gs (w.putObj b o') := by
  have hlt := h.own_lt (List.mem_of_getElem? hi)
  exact h.setOwn hi rfl rfl rfl (by simp) (fun k hk => World.putObj_heap_other hk) (World.putObj_heap_same hlt)
/-- what is asked where a round's body is left -/
def RQ {σ ρ : Type} (B : Bs) (H : Hp) (A : Own1 σ) (Ax : ρ → Code → Hp → List (Nat × Obj) → List GS → Prop) (T : List (Nat × Obj)) (y : σ ⊕ ρ) : Exit → Act → World → Prop
  | .normal, _, w => ∃ s, y = .inl s ∧ ∃ H' fr gs, HSub H H' ∧ A s H' fr gs ∧ St B H' (fr ++ T) gs w
  | .ret, _, w => ∃ r, y = .inr r ∧ ∃ H' fr gs, HSub H H' ∧ Ax r .ret H' fr gs ∧ St B H' (fr ++ T) gs w
  | .exit id, _, w => ∃ r, y = .inr r ∧ ∃ H' fr gs, HSub H H' ∧ Ax r (.exit id) H' fr gs ∧ St B H' (fr ++ T) gs w
  | .goto t, _, w => ∃ r, y = .inr r ∧ ∃ H' fr gs, HSub H H' ∧ Ax r (.goto t) H' fr gs ∧ St B H' (fr ++ T) gs w
  | .panic _, _, _ => False
  | .outgrown, _, _ => False
theorem noOut_RQ {σ ρ : Type} {A : Own1 σ} {Ax : ρ → Code → Hp → List (Nat × Obj) → List GS → Prop} {T : List (Nat × Obj)} {y : σ ⊕ ρ} : NoOut (RQ B H A Ax T y) := ⟨fun _ _ h => h, fun _ _ _ h => h⟩
theorem St.putL {w : World} {X Y : List (Nat × Obj)} {l : Nat} {o : Obj} (o' : Obj) (h : St B H (X ++ (l, o) :: Y) gs w) : St B H (X ++ (l, o') :: Y) gs (w.putObj l o') := by
  have := h.put (i := X.length) (b := l) (o := o) o' (by simp)
  simpa using this
/-- behind the assignments of a round -/
def AP (P : Program) (l N : Nat) (B : Bs) (Q : List (Nat × Obj) → Exit → Act → World → Prop) (body : Code) (T : List (Nat × Obj)) : Act → World → Prop := fun a w =>
  ∃ H1 f1 bs1 gs1, Fr N [] a f1 ∧ St B H1 (bs1 ++ T) gs1 w ∧ ∀ T', JC P (some l) N [] B H1 body (Q T') f1 (bs1 ++ T') gs1
def NoX : Exit → Act → World → Prop := fun _ _ _ => False
theorem noOut_AP {K : Act → World → Prop} : NoOut (Exit.then K NoX) := ⟨fun _ _ h => h, fun _ _ _ h => h⟩
theorem JQ.assigned {l : Nat} {Q : List (Nat × Obj) → Exit → Act → World → Prop} {body : Code} {T : List (Nat × Obj)} (bs1 : List (Nat × Obj)) (h : ∀ T', JC P (some l) N [] B H body (Q T') f (bs1 ++ T') gs) :
    JQ N [] B H .normal (Exit.then (AP P l N B Q body T) NoX) f (bs1 ++ T) gs := fun _ _ _ ha hs => ⟨H, f, bs1, gs, ha, hs, h⟩
/-- for p := range g -/
theorem JC.rangeFunc {α σ ρ : Type} {g : Operand} {pr : Tmp} {assign body : Code} {k : Nat} {caps : List Value} {V : Hp → List (Nat × Obj) → Value → α → Prop} {F : ∀ (σ ρ : Type), (σ → α → Option (σ ⊕ ρ)) → σ → Option (σ ⊕ ρ)}
    {step : σ → α → Option (σ ⊕ ρ)} {s0 : σ} {y : σ ⊕ ρ} (hg : ev f g = .func (.func k) #[] caps.toArray) (he : Ent P k) (hit : IT P k caps H V F) (hp : Nat.blt pr N = true)
    (hF : F σ ρ step s0 = some y) (A : Own1 σ) (Ax : ρ → Code → Hp → List (Nat × Obj) → List GS → Prop) (h0 : A s0 H bs gs)
    (hbody : ∀ l s x y v own T H' fr gs', A s H' fr gs' → step s x = some y → V H' own v x → HSub H H' →
      JC P (some l) N [] B H' assign (Exit.then (AP P l N B (fun T' => RQ B H' A Ax (own ++ T') y) body T) NoX) (upd f pr v) (fr ++ (own ++ T)) gs')
    (hdone : ∀ D s H' fr gs', y = .inl s → A s H' fr gs' → HSub H H' → JQ N (⟨.collected D, #[]⟩ :: ds) B H' .normal Q f (fr ++ [(D, .deferred (some []))]) gs')
    (hstop : ∀ D r c H' fr gs', y = .inr r → Ax r c H' fr gs' → HSub H H' → JC P none N (⟨.collected D, #[]⟩ :: ds) B H' c Q f (fr ++ [(D, .deferred (some []))]) gs') :
    JC P none N ds B H (.rangeFunc g #[pr] assign body) Q f bs gs := fun hQ a w ha hs => by
  refine wpIn_rangeFunc ?_
  intro fn hfn
  have eg : ∀ args w, (callFunc k args).run P w = .ok (.enter k args) w := he
  obtain ⟨rec, hrec⟩ : ∃ rec : LoopState → Option Code → Loop, rec = fun st pe => { state := st, pending := pe, fn, tmps := a.tmps, params := #[pr], assign, body, defers := w.heap.size } := ⟨_, rfl⟩
  obtain ⟨W1, hW1⟩ : ∃ W1, (w.alloc (.deferred (some []))).alloc (.loop (rec .ready none)) = W1 := ⟨_, rfl⟩
  obtain ⟨l, hl⟩ : ∃ l, l = w.heap.size + 1 := ⟨_, rfl⟩
  obtain ⟨D, hD⟩ : ∃ D, D = w.heap.size := ⟨_, rfl⟩
  have hs1 : St B H (bs ++ [(l, .loop (rec .ready none)), (D, .deferred (some []))]) gs W1 := by
    have h1 := (hs.alloc (.deferred (some []))).alloc (.loop (rec .ready none))
    rw [hW1] at h1
    refine h1.perm ?_
    have : (w.alloc (.deferred (some []))).heap.size = l := by rw [hl]; simp
    rw [this, ← hD]
    exact (List.perm_append_comm (l₁ := [(l, Obj.loop (rec .ready none)), (D, .deferred (some []))]) (l₂ := bs))
  have fin : ∀ (st : LoopState) (pe : Option Code) {H' : Hp} {gs' : List GS} {fc : List (Nat × Obj)} {W : World}, st ≠ .busy → St B H' (fc ++ [(l, .loop (rec st pe)), (D, .deferred (some []))]) gs' W →
      ∃ W', (Instr.endLoop l).run P W = .ok pe W' ∧ St B H' (fc ++ [(D, .deferred (some []))]) gs' W' := fun st pe H' gs' fc W hne hW => by
    have hL := (hW.own (l, .loop (rec st pe)) (by simp)).1
    refine ⟨_, ?_, (hW.putL (.loop { rec st pe with state := .exhausted })).sub (bs' := fc ++ [(D, .deferred (some []))]) ?_ (List.Sublist.refl _)⟩
    · have := run_endLoop (P := P) hL (by rw [hrec]; exact hne)
      rw [hrec] at this ⊢
      exact this
    · exact (List.Sublist.refl fc).append (by simp)
  refine ⟨w.heap.size + 1, [{ target := .collected w.heap.size, args := #[] }], W1, { target := .fn (.func k) caps.toArray, args := #[.func (.yield (w.heap.size + 1)) #[] #[]] }, W1, k,
    #[.func (.yield (w.heap.size + 1)) #[] #[]] ++ caps.toArray, W1, ?_, ?_, ?_, ?_, fun h => by simp [FR] at h, ?_⟩
  · rw [← hW1, hrec]; exact run_enterLoop_outer _ _ _ _ _
  · simp only [resolve, ha.eval, hg]
    simp [go_sem, ev]
  · intro f' hf'; exact trivial
  · simp [invoke, go_sem, eg]
  · rw [← hl, ← hD]
    refine (hit σ ρ B (fun s H' fr gs' => ∃ fc, fr = fc ++ [(l, .loop (rec .ready none)), (D, .deferred (some []))] ∧ A s H' fc gs' ∧ HSub H H')
      (fun r H' fr gs' => ∃ fc c, fr = fc ++ [(l, .loop (rec .done (some c))), (D, .deferred (some []))] ∧ Ax r c H' fc gs' ∧ HSub H H') step l s0 y hF ?_ H _ gs W1 (HSub.refl _) ⟨bs, rfl, h0, HSub.refl _⟩ hs1).mono ?_
    · -- one round
      rintro s x y v own tl H' fr gs' W ⟨fc, rfl, hA, hsub⟩ hst hV hW
      have hP : St B H' (fc ++ (own ++ (tl ++ [(l, .loop (rec .ready none)), (D, .deferred (some []))]))) gs' W := hW.perm (by
        have := (List.perm_append_comm (l₁ := own ++ tl) (l₂ := fc)).append_right [(l, Obj.loop (rec .ready none)), (D, .deferred (some []))]
        simpa using this)
      have hL := (hP.own (l, .loop (rec .ready none)) (by simp)).1
      have hy := run_yield (P := P) (args := #[v]) hL (by rw [hrec]; rfl)
      rw [hrec] at hy
      refine ⟨fn, _, assign, body, hy, roundIn_of_wpIn hfn ?_⟩
      have ha' : Fr N [] { tmps := (#[pr].zip #[v]).foldl (fun tmps (t, a) => tmps.setIfInBounds t a) a.tmps, defers := [] } (upd f pr v) := by
        have := Fr.put (ds := ds) ha hp v
        refine ⟨?_, rfl, ?_⟩
        · have := this.size; simpa [Act.put] using this
        · intro i; have := this.get i; simpa [Act.put] using this
      refine wpIn_mono (hbody l s x y v own _ H' fc gs' hA hst hV hsub noOut_AP _ W ha' hP) ?_
      intro e a1 w1 hq
      cases e with
      | normal =>
        obtain ⟨H1, f1, bs1, gs1, ha1, hs1, hJ⟩ := hq
        rw [← List.append_assoc] at hs1
        have hL1 := (hs1.own (l, .loop (rec .ready none)) (by simp)).1
        refine ⟨_, run_beginRound hL1 (by rw [hrec]), ?_⟩
        have hs2 := hs1.putL (.loop { rec .ready none with state := .busy })
        rw [List.append_assoc] at hs2
        refine wpIn_mono (hJ _ noOut_RQ a1 _ ha1 hs2) ?_
        have fin2 : ∀ (jump : Option Code) {H'' : Hp} {gs'' : List GS} {fr'' : List (Nat × Obj)} {W3 : World}, St B H'' (fr'' ++ (own ++ (tl ++ [(l, .loop { rec .ready none with state := .busy }), (D, .deferred (some []))]))) gs'' W3 →
            ∃ W4, (Instr.endRound l jump).run P W3 = .ok (.bool jump.isNone) W4 ∧ St B H'' (own ++ tl ++ (fr'' ++ [(l, .loop (rec (if jump.isNone then .ready else .done) jump)), (D, .deferred (some []))])) gs'' W4 := fun jump H'' gs'' fr'' W3 h3 => by
          rw [← List.append_assoc, ← List.append_assoc] at h3
          have hL3 := (h3.own (l, .loop { rec .ready none with state := .busy }) (by simp)).1
          have hr := run_endRound (P := P) jump hL3
          refine ⟨_, hr, ?_⟩
          have h4 := h3.putL (.loop { ({ rec .ready none with state := .busy } : Loop) with state := if jump.isNone then .ready else .done, pending := jump })
          have e4 : ({ ({ rec .ready none with state := .busy } : Loop) with state := if jump.isNone then .ready else .done, pending := jump } : Loop) = rec (if jump.isNone then .ready else .done) jump := by rw [hrec]
          rw [e4] at h4 ⊢
          refine h4.perm ?_
          have := (List.perm_append_comm (l₁ := fr'') (l₂ := own ++ tl)).append_right [(l, Obj.loop (rec (if jump.isNone then .ready else .done) jump)), (D, .deferred (some []))]
          simpa using this
        intro e a3 W3 hp3
        cases e with
        | normal =>
          obtain ⟨s', rfl, H'', fr'', gs'', k1, k2, k3⟩ := hp3
          obtain ⟨W4, r1, r2⟩ := fin2 none k3
          exact ⟨_, _, r1, H'', _, gs'', k1, r2, rfl, fr'', rfl, k2, hsub.trans k1⟩
        | ret =>
          obtain ⟨r, rfl, H'', fr'', gs'', k1, k2, k3⟩ := hp3
          obtain ⟨W4, r1, r2⟩ := fin2 (some .ret) k3
          exact ⟨_, _, r1, H'', _, gs'', k1, r2, rfl, fr'', _, rfl, k2, hsub.trans k1⟩
        | exit id =>
          obtain ⟨r, rfl, H'', fr'', gs'', k1, k2, k3⟩ := hp3
          obtain ⟨W4, r1, r2⟩ := fin2 (some (.exit id)) k3
          exact ⟨_, _, r1, H'', _, gs'', k1, r2, rfl, fr'', _, rfl, k2, hsub.trans k1⟩
        | goto t =>
          obtain ⟨r, rfl, H'', fr'', gs'', k1, k2, k3⟩ := hp3
          obtain ⟨W4, r1, r2⟩ := fin2 (some (.goto t)) k3
          exact ⟨_, _, r1, H'', _, gs'', k1, r2, rfl, fr'', _, rfl, k2, hsub.trans k1⟩
        | panic ch => exact hp3.elim
        | outgrown => exact hp3.elim
      | exit id => exact hq.elim
      | goto t => exact hq.elim
      | ret => exact hq.elim
      | panic ch => exact hq.elim
      | outgrown => exact hq.elim
    · -- behind the iterator
      rintro e W2 ⟨v, H', fr', gs', rfl, hsub, hW, hy⟩
      have ha2 : Fr N (⟨.collected D, #[]⟩ :: ds) { a with defers := [⟨.collected D, #[]⟩] ++ a.defers } f := ⟨ha.size, by simp [ha.defers], ha.get⟩
      cases y with
      | inl s =>
        obtain ⟨fc, rfl, hA, _⟩ := hy
        obtain ⟨W', r1, r2⟩ := fin .ready none (by simp) hW
        exact ⟨none, W', r1, hdone D s H' fc gs' rfl hA hsub hQ _ W' ha2 r2⟩
      | inr r =>
        obtain ⟨fc, c, rfl, hA, _⟩ := hy
        obtain ⟨W', r1, r2⟩ := fin .done (some c) (by simp) hW
        exact ⟨some c, W', r1, hstop D r c H' fc gs' rfl hA hsub hQ _ W' ha2 r2⟩
end
end Go.Dec
end
section
namespace Go.Dec
open Go Go.RowKit
section
variable {P : Program} {ro : Option Nat} {N : Nat} {ds : List Deferred} {B : Bs} {H : Hp} {Q : Exit → Act → World → Prop} {f : Nat → Value} {bs : List (Nat × Obj)} {gs : List GS}
inductive DM : List (Nat × Obj) → List Deferred → Prop
  | nil {bs : List (Nat × Obj)} : DM bs []
  | cons {bs : List (Nat × Obj)} {ds : List Deferred} {D : Nat} (i : Nat) (hi : bs[i]? = some (D, .deferred (some []))) (h : DM (bs.set i (D, .deferred none)) ds) : DM bs (⟨.collected D, #[]⟩ :: ds)
theorem RV.set {rs : List ResultVar} {vs : List Value} {i D : Nat} {x : Option (List Deferred)} {o : Obj} (h : RV P f bs rs vs) (hi : bs[i]? = some (D, .deferred x)) : RV P f (bs.set i (D, o)) rs vs := by
  induction h with
  | nil => exact .nil
  | tmp _ ih => exact .tmp ih
  | @cell a t b e z l v rs vs j hz hx hj hv _ ih =>
    have hne : i ≠ j := by intro e; subst e; rw [hi] at hj; cases hj
    exact .cell (e := e) j hz hx (by rw [List.getElem?_set_ne hne]; exact hj) hv ih
theorem leavesM {fn : Func} {rs : List ResultVar} {vs : List Value} {R : Ending → World → Prop} (hr : fn.results = rs.toArray) {ds' : List Deferred} {a : Act} (ha : Fr N ds' a f) : ∀ (ds : List Deferred) (bs : List (Nat × Obj)) (w : World), DM bs ds → RV P f bs rs vs → St B H bs gs w →
    (∀ bs' w', St B H bs' gs w' → R (.returned (resw vs)) w') → LeavesInM (FR none) 0 P fn a.tmps R ds .returning w
  | [], bs, w, _, h, hs, k => ⟨_, h.results hr ha hs, k bs w hs⟩
  | _ :: ds, bs, w, .cons (D := D) i hi hd, h, hs, k => by
    refine ⟨by simp, .inl ⟨D, _, rfl, run_takeDeferred (hs.own _ (List.mem_of_getElem? hi)).1, ?_⟩⟩
    exact leavesM hr ha ds _ _ hd (h.set hi) (hs.put _ hi) k
/-- without panics -/
def NP (Q : Exit → Act → World → Prop) : Exit → Act → World → Prop := fun e a w => Q e a w ∧ (match e with | .panic _ => False | .outgrown => False | _ => True)
theorem noOut_NP : NoOut (NP Q) := ⟨fun _ _ h => h.2, fun _ _ _ h => h.2⟩
abbrev PM (P : Program) (fn : Func) (R : Ending → World → Prop) : Exit → Act → World → Prop := NP (bodyPostM (FR none) 0 P fn R)
theorem JQ.outSM {fn : Func} {rs : List ResultVar} {vs : List Value} {v : Value} (hr : fn.results = rs.toArray) (hd : DM bs ds) (h : RV P f bs rs vs) (hv : resw vs = v) : JQ N ds B H .ret (PM P fn (RetS B v)) f bs gs := fun _ a w ha hs => by
  refine ⟨?_, trivial⟩
  show LeavesInM _ _ _ _ _ _ a.defers _ _
  rw [ha.defers]
  exact leavesM hr ha ds bs w hd h hs fun bs' w' h' => ⟨by rw [hv], h'.out⟩
theorem SC.ofM {k N : Nat} {fn : Func} {c : Code} {vs : List Value} {v : Value} {H : Hp} (hf : P.funcs[k]? = some fn) (hN : fn.ntmps = N) (hb : fn.body = some c) (hn : Nat.ble vs.length N = true)
    (h : ∀ w, JC P none N [] ⟨w, H⟩ H c (PM P fn (RetS ⟨w, H⟩ v)) (frame0 vs) [] []) : SC P k vs v H := fun w hH => by
  subst hN
  have hn := Nat.le_of_ble_eq_true hn
  exact (callsIn_wide (n := 0)).1 (callsIn_of_wp_marks hf hb trivial (wpIn_mono (h w noOut_NP _ w (fr_start hn) (St.start hH)) fun e a w hq => hq.1))
theorem HC.ofM {k N : Nat} {fn : Func} {c : Code} {vs : List Value} {Res : Hp → Value → Prop} {H : Hp} (hf : P.funcs[k]? = some fn) (hN : fn.ntmps = N) (hb : fn.body = some c) (hn : Nat.ble vs.length N = true)
    (h : ∀ w, JC P none N [] ⟨w, H⟩ H c (PM P fn (RetH ⟨w, H⟩ Res)) (frame0 vs) [] []) : HC P k vs H Res := fun w hH => by
  subst hN
  have hn := Nat.le_of_ble_eq_true hn
  exact (callsIn_wide (n := 0)).1 (callsIn_of_wp_marks hf hb trivial (wpIn_mono (h w noOut_NP _ w (fr_start hn) (St.start hH)) fun e a w hq => hq.1))
theorem JQ.round {σ ρ : Type} {H0 : Hp} {A : Own1 σ} {Ax : ρ → Code → Hp → List (Nat × Obj) → List GS → Prop} {T : List (Nat × Obj)} {y : σ ⊕ ρ} {s : σ} (hy : y = .inl s) (fr : List (Nat × Obj)) (hs : HSub H0 H) (hA : A s H fr gs) :
    JQ N ds B H .normal (RQ B H0 A Ax T y) f (fr ++ T) gs := fun _ _ _ _ hw => ⟨s, hy, H, fr, gs, hs, hA, hw⟩
theorem JQ.roundRet {σ ρ : Type} {H0 : Hp} {A : Own1 σ} {Ax : ρ → Code → Hp → List (Nat × Obj) → List GS → Prop} {T : List (Nat × Obj)} {y : σ ⊕ ρ} {r : ρ} (hy : y = .inr r) (fr : List (Nat × Obj)) (hs : HSub H0 H) (hA : Ax r .ret H fr gs) :
    JQ N ds B H .ret (RQ B H0 A Ax T y) f (fr ++ T) gs := fun _ _ _ _ hw => ⟨r, hy, H, fr, gs, hs, hA, hw⟩
theorem wpOpsIn_prefix {l2 : List Nat} {ops : List Oper} (hnd : noDefer ops = true) (hQ : NoOut Q) : ∀ (l : List Nat) (a : Act) (w : World),
    wpOps P ops.toArray (fun e a w => match e with | .normal => wpOpsIn (FR ro) 0 P ops.toArray Q l2 a w | e => Q e a w) l a w → wpOpsIn (FR ro) 0 P ops.toArray Q (l ++ l2) a w
  | [], _, _, h => h
  | i :: rest, a, w, h => by
    unfold wpOps at h
    rw [List.cons_append]
    unfold wpOpsIn
    cases ho : ops.toArray[i]? with
    | none => simp only [ho] at h ⊢; exact wpOpsIn_prefix hnd hQ rest a w h
    | some o =>
      simp only [ho] at h ⊢
      have hod : ∀ c, o.op ≠ .defer c := noDefer_spec hnd (i := i) (by simpa using ho)
      split
      · rename_i hw
        rw [if_pos hw] at h
        rcases h with h | ⟨_, h⟩
        · refine ⟨fun _ _ => trivial, ?_⟩
          rw [Oper.semAt_eq _ _ _ hod]
          unfold Oper.wp at h
          generalize (execOp a.eval o).run P w = r at h
          match r with
          | .ok (.value v) w' => exact wpOpsIn_prefix hnd hQ rest _ _ h
          | .ok .skip w' => exact wpOpsIn_prefix hnd hQ rest _ _ h
          | .ok (.defer d) w' => exact wpOpsIn_prefix hnd hQ rest _ _ h
          | .ok (.enter f args) w' =>
            refine ⟨fun h => by simp [FR] at h, ?_⟩
            have hc : Calls P f args w' _ := h
            have := (callsIn_wide (n := 0 - 1)).2 hc
            refine CallsIn.mono (R := _) (show CallsIn (FR ro) (0 - 1) P f args w' _ from this) ?_
            intro e w'' hr
            cases e with
            | returned v => exact wpOpsIn_prefix hnd hQ rest _ _ hr
            | panicked c => exact hr
            | outgrown =>
              obtain ⟨a, w, hq⟩ := hr
              exact absurd hq (hQ.1 a w)
          | .ok (.row row args) w' =>
            refine ⟨fun h => by simp [FR] at h, ?_⟩
            have hc : Rows P row args w' _ := h
            intro c cs hroom
            obtain ⟨v, w'', hR, hs⟩ := hc c cs
            exact ⟨v, w'', wpOpsIn_prefix hnd hQ rest _ _ hR, (StepsIn.of_steps hs).mono fun m _ => fenced_wide P m⟩
          | .halt (.panic v) w' => exact h
        · obtain ⟨a, w, hq⟩ := h
          exact absurd hq (hQ.1 a w)
      · rename_i hw
        rw [if_neg hw] at h
        exact ⟨fun _ _ => trivial, wpOpsIn_prefix hnd hQ rest _ _ h⟩
/-- up to a call of yield -/
def YQ (P : Program) (Q : Exit → Act → World → Prop) (ops : List Oper) (m k : Nat) : Exit → Act → World → Prop := fun e a w => match e with
  | .normal => wpOpsIn (FR none) 0 P ops.toArray Q (List.range' m k) a w
  | e => Q e a w
theorem wpOps_of_wpList {ops : Array Oper} {Q : Exit → Act → World → Prop} : ∀ (l : List Oper) (k : Nat), (∀ j, j < l.length → l[j]? = ops[k + j]?) → ∀ a w, wpList P ops Q l a w → wpOps P ops Q (List.range' k l.length) a w
  | [], _, _, _, _, h => h
  | o :: l, k, hl, a, w, h => by
    have h0 : ops[k]? = some o := by have := hl 0 (by simp); simpa using this.symm
    have ih := wpOps_of_wpList (Q := Q) l (k + 1) (fun j hj => by have := hl (j + 1) (by simp; omega); rw [Nat.add_assoc, Nat.add_comm 1 j]; simpa using this)
    rw [List.length_cons, List.range'_succ]
    unfold wpList at h
    unfold wpOps
    simp only [h0]
    split
    · rename_i hw
      rw [if_pos hw] at h
      exact h.imp (fun h => Oper.wp_mono ih h) id
    · rename_i hw
      rw [if_neg hw] at h
      exact ih _ _ h
theorem JC.regionY {id : Nat} (pre : List Oper) {l : List Oper} (m : Nat) (hm : l.take m = pre) (hml : Nat.ble m l.length = true) (hnd : noDefer l = true) (h : NoOut Q → JL .plain P N ds B H l (YQ P Q l m (l.length - m)) pre f bs gs) : JC P none N ds B H (.region id l.toArray false) Q f bs gs := fun hQ a w ha hs => by
  have hml := Nat.le_of_ble_eq_true hml
  refine wpIn_region ?_
  have hsplit : List.range l.toArray.size = List.range' 0 m ++ List.range' m (l.length - m) := by
    have := List.range'_append_1 (s := 0) (m := m) (n := l.length - m)
    rw [Nat.zero_add] at this
    rw [this, List.range_eq_range', List.size_toArray]
    congr 1; omega
  rw [hsplit]
  refine wpOpsIn_prefix hnd hQ _ a w ?_
  have hpl : pre.length = m := by rw [← hm]; simp; omega
  have := wpOps_of_wpList (P := P) (ops := l.toArray) (Q := YQ P Q l m (l.length - m)) pre 0 (fun j hj => by
    rw [← hm, List.getElem?_take]
    simp
    intro h; omega) a w (h hQ a w ha hs)
  rw [hpl] at this
  exact this
/-- the call of yield itself -/
theorem JL.atYield {σ ρ : Type} {l : List Oper} {m n lY d : Nat} {x z : Operand} {tt : Array TypeId} {t : TypeId} {p : String} {af : Array Edge} {post : List Oper} {A : Own1 σ} {Ax : Own1 ρ} {tl : List (Nat × Obj)} {y : σ ⊕ ρ}
    (hQ : NoOut Q) (hnd : noDefer l = true) (hl : l.drop m = ⟨some d, .call { callee := .value x, args := #[z], argTypes := tt }, t, p, af, none⟩ :: post) (hn : l.length - m = n)
    (hx : ev f x = .func (.yield lY) #[] #[]) (hd : Nat.blt d N = true) (hy : ∀ w, St B H bs gs w → YieldAt (FR none) 0 P lY #[ev f z] w (After B H A Ax tl y))
    (hgo : ∀ s H' fr gs', y = .inl s → HSub H H' → A s H' fr gs' → JL .plain P N ds B H' l Q post (upd f d (.bool true)) (tl ++ fr) gs')
    (hstop : ∀ r H' fr gs', y = .inr r → HSub H H' → Ax r H' fr gs' → JL .plain P N ds B H' l Q post (upd f d (.bool false)) (tl ++ fr) gs') :
    JL .plain P N ds B H l (YQ P Q l m n) [] f bs gs := .nil fun a w ha hs => by
  have hlen : l.length - m = post.length + 1 := by rw [← List.length_drop, hl]; rfl
  show wpOpsIn (FR none) 0 P l.toArray Q (List.range' m n) a w
  rw [← hn, hlen, List.range'_succ]
  have hget : ∀ j, l[m + j]? = (l.drop m)[j]? := fun j => by rw [List.getElem?_drop]
  have h0 : l.toArray[m]? = some ⟨some d, .call { callee := .value x, args := #[z], argTypes := tt }, t, p, af, none⟩ := by
    have := hget 0; rw [hl] at this; simpa using this
  unfold wpOpsIn
  simp only [h0]
  have hw : Region.wanted ⟨some d, .call { callee := .value x, args := #[z], argTypes := tt }, t, p, af, none⟩ (yielded l.toArray a.tmps) = true := by simp [Region.wanted]
  rw [if_pos hw]
  refine ⟨fun _ _ => trivial, ?_⟩
  obtain ⟨fn, tmps, assign, body, hrun, hround⟩ := hy w hs
  have hexec : (execOp a.eval ⟨some d, .call { callee := .value x, args := #[z], argTypes := tt }, t, p, af, none⟩).run P w = .ok (.round lY fn tmps assign body) w := by
    rw [ha.eval]
    simp [execOp, hx, hrun, resolve, invoke, go_sem]
  rw [Oper.semAt_eq _ _ _ (by intro c; simp), hexec, Oper.uponIn_round]
  refine ⟨fun h => by simp [FR] at h, hround.mono ?_⟩
  intro e w'' hr
  have hrest : ∀ {v : Value} {H' : Hp} {bs' : List (Nat × Obj)} {gs' : List GS}, St B H' bs' gs' w'' → JL .plain P N ds B H' l Q post (upd f d v) bs' gs' → wpOpsIn (FR none) 0 P l.toArray Q (List.range' (m + 1) post.length) (a.put (some d) v) w'' := fun h1 h2 =>
    wpOpsIn_of_wpOps hnd hQ _ _ _ (wpOps_of_wpList post (m + 1) (fun j hj => by
      have := hget (j + 1)
      rw [hl] at this
      rw [Nat.add_assoc, Nat.add_comm 1 j]
      simpa using this.symm) _ _ (h2 _ _ (ha.put hd _) h1))
  cases e with
  | returned v =>
    obtain ⟨H', fr, gs', k1, k2, k3⟩ := hr
    cases y with
    | inl s => obtain ⟨rfl, k4⟩ := k3; exact hrest k2 (hgo s H' fr gs' rfl k1 k4)
    | inr r => obtain ⟨rfl, k4⟩ := k3; exact hrest k2 (hstop r H' fr gs' rfl k1 k4)
  | panicked c => exact hr.elim
  | outgrown => exact hr.elim
end
end Go.Dec
end
section
namespace Go.Dec
open Go Go.RowKit
/-- a call whose result is an own growing slice -/
def OC (P : Program) (k : Nat) (vs : List Value) (H : Hp) (e : TypeId) (sz : Nat) (Res : Nat → List Value → Prop) : Prop :=
  ∀ w, HLe H w → Calls P k vs.toArray w fun en w' => ∃ v n xs, en = .returned v ∧ Kept H w w' ∧ w'.ownsRow w.heap.size e sz v n xs ∧ Res n xs
section
variable {q : Md} {P : Program} {N : Nat} {ds : List Deferred} {B : Bs} {H : Hp} {ops : List Oper} {Q : Exit → Act → World → Prop} {rest : List Oper} {f : Nat → Value} {bs : List (Nat × Obj)} {gs : List GS}
variable {d : Nat} {t : TypeId} {p : String} {af : Array Edge} {g : Option (Nat × Bool)}
theorem OC.of {k N : Nat} {fn : Func} {c : Code} {vs : List Value} {H : Hp} {e : TypeId} {sz : Nat} {Res : Nat → List Value → Prop} (hf : P.funcs[k]? = some fn) (hN : fn.ntmps = N) (hb : fn.body = some c) (hn : Nat.ble vs.length N = true)
    (h : ∀ w, JC P none N [] ⟨w, H⟩ H c (bodyPost P fn fun en w' => ∃ v n xs, en = .returned v ∧ Kept H w w' ∧ w'.ownsRow w.heap.size e sz v n xs ∧ Res n xs) (frame0 vs) [] []) : OC P k vs H e sz Res := fun w hH => by
  subst hN
  have hn := Nat.le_of_ble_eq_true hn
  exact (callsIn_wide (n := 0)).1 (callsIn_of_wp hf hb trivial (h w (noOut_body (fun w' hq => by obtain ⟨_, _, _, h, _⟩ := hq; cases h) (fun c w' hq => by obtain ⟨_, _, _, h, _⟩ := hq; cases h)) _ w (fr_start hn) (St.start hH)))
/-- the frame is written anew -/
theorem JC.fresh {ro : Option Nat} {c : Code} (A : (Nat → Value) → Prop) (h0 : A f) (k : ∀ f', A f' → JC P ro N ds B H c Q f' bs gs) : JC P ro N ds B H c Q f bs gs := k f h0
theorem PT.form {α : Type} {R : Rl α} {v : Value} {o : Option α} (h : PT H R v o) : ∃ a, v = .pointer a := by
  cases o with
  | none => exact ⟨none, h⟩
  | some x => obtain ⟨b, o, cs, h, _⟩ := h; exact ⟨_, h⟩
theorem PT.one {α : Type} {R : Rl α} {v : Value} {o : Option α} (h : PT H R v o) : v.oneCell' = true := by
  obtain ⟨a, rfl⟩ := h.form; rfl
theorem PT.vc {α : Type} {R : Rl α} {v : Value} {o : Option α} (h : PT H R v o) : vcells v = [v] := by
  obtain ⟨a, rfl⟩ := h.form; rfl
/-- what an iterator yields: plain values; rows of plain values, lent -/
def VPlain {α : Type} (enc : α → Value) : Hp → List (Nat × Obj) → Value → α → Prop := fun _ own v x => own = [] ∧ v = enc x
/-- an iterator's contract out of its body -/
theorem IT.of {α : Type} {k N : Nat} {fn : Func} {c : Code} {caps : List Value} {H0 : Hp} {V : Hp → List (Nat × Obj) → Value → α → Prop} {F : ∀ (σ ρ : Type), (σ → α → Option (σ ⊕ ρ)) → σ → Option (σ ⊕ ρ)}
    (hf : P.funcs[k]? = some fn) (hN : fn.ntmps = N) (hb : fn.body = some c) (hn : Nat.ble (caps.length + 1) N = true) (hres : fn.results = #[])
    (h : ∀ (σ ρ : Type) (B : Bs) (A : Own1 σ) (Ax : Own1 ρ) (step : σ → α → Option (σ ⊕ ρ)) (l : Nat) (s0 : σ) (y : σ ⊕ ρ), F σ ρ step s0 = some y → YS P B l V A Ax step →
      ∀ H fr gs (Q : Exit → Act → World → Prop), HSub H0 H → A s0 H fr gs →
        (∀ H' f' X fr' gs', HSub H H' → OneOf A Ax y H' fr' gs' → JQ N [] B H' .ret Q f' (X ++ fr') gs' ∧ JQ N [] B H' .normal Q f' (X ++ fr') gs') →
        JC P none N [] B H c Q (frame0 (.func (.yield l) #[] #[] :: caps)) fr gs) : IT P k caps H0 V F := by
  intro σ ρ B A Ax step l s0 y hF hY H fr gs w hsub hA hs
  subst hN
  have hn := Nat.le_of_ble_eq_true hn
  have hargs : (#[Value.func (.yield l) #[] #[]] ++ caps.toArray) = (Value.func (.yield l) #[] #[] :: caps).toArray := by simp
  rw [hargs]
  refine callsIn_of_wp hf hb trivial (h σ ρ B A Ax step l s0 y hF hY H fr gs _ hsub hA ?_ (noOut_body (fun w' hq => by obtain ⟨_, _, _, _, h, _⟩ := hq; cases h) (fun c w' hq => by obtain ⟨_, _, _, _, h, _⟩ := hq; cases h)) _ w (fr_start (by simpa using hn)) hs)
  intro H' f' X fr' gs' k1 k2
  have out : ∀ a w, Fr fn.ntmps [] a f' → St B H' (X ++ fr') gs' w → a.defers = [] ∧ ∃ v, (results fn a.tmps).run P w = .ok v w ∧ ∃ v' H' fr' gs', Ending.returned v = .returned v' ∧ HSub H H' ∧ St B H' fr' gs' w ∧ OneOf A Ax y H' fr' gs' := fun a w ha hs' =>
    ⟨ha.defers, _, RV.results (P := P) (rs := []) (by rw [hres]) .nil ha hs', _, H', fr', gs', rfl, k1, hs'.sub (List.sublist_append_right ..) (List.Sublist.refl _), k2⟩
  exact ⟨fun _ a w ha hs' => out a w ha hs', fun _ a w ha hs' => out a w ha hs'⟩
end
end Go.Dec
end
section
set_option maxRecDepth 100000
set_option maxHeartbeats 40000000
namespace Go.Dec
open Go Go.RowKit
section
variable {q : Md} {P : Program} {N : Nat} {ds : List Deferred} {B : Bs} {H : Hp} {ops : List Oper} {Q : Exit → Act → World → Prop} {rest : List Oper} {f : Nat → Value} {bs : List (Nat × Obj)} {gs : List GS}
variable {d : Nat} {t : TypeId} {p : String} {af : Array Edge} {g : Option (Nat × Bool)}
/-- the address of an element, whatever it holds -/
theorem JL.indexAt {tx e : TypeId} {x ix : Operand} {k : IntKind} {i : Int} {sz b o n c : Nat} (ht : slT P tx = some (e, sz)) (hx : ev f x = .slice (some ⟨b, o, none⟩) n c) (hi : ev f ix = .int k i) (h0 : 0 ≤ i) (h1 : i < n) (hw : Want ops f g) (hd : Nat.blt d N = true)
    (h : JL q P N ds B H ops Q rest (upd f d (.pointer (some ⟨b, o + i.toNat * sz, none⟩))) bs gs) : JL q P N ds B H ops Q (⟨some d, .indexAddr tx x ix, t, p, af, g⟩ :: rest) f bs gs := by
  refine .val hw hd (fun w _ => ?_) h
  unfold slT at ht
  split at ht
  · rename_i e' hu
    split at ht
    · rename_i ti hti
      simp only [Option.some.injEq, Prod.mk.injEq] at ht
      obtain ⟨rfl, rfl⟩ := ht
      simp [execOp, hx, hi, Instr.indexAt, asIntOf, run_underlying hu, h0, h1, sizeOf, typeInfo, hti, Addr.add_mid]
    · cases ht
  · cases ht
/-- a load of one cell of an own block, at whatever place -/
theorem JL.loadAt {tx : TypeId} {x : Operand} (i : Nat) {b k : Nat} {l : List Value} {e : TypeId} {v : Value} (hz : aggsz P tx = some (false, 1)) (hx : ev f x = .pointer (some ⟨b, k, none⟩)) (hi : bs[i]? = some (b, .cells l.toArray e)) (hv : l[k]? = some v) (hw : Want ops f g) (hd : Nat.blt d N = true)
    (h : JL q P N ds B H ops Q rest (upd f d v) bs gs) : JL q P N ds B H ops Q (⟨some d, .load tx x, t, p, af, g⟩ :: rest) f bs gs := by
  refine .val hw hd (fun w hs => ?_) h
  have hl := run_load_of (P := P) (w := w) (o := 0) (b := b) (k := k) (l := l) (v := v) hz (hs.has hi) (by simp [loadw, hv])
  rw [Nat.zero_add] at hl
  unfold execOp
  simp [hx, hl]
theorem putC_set {l : List Value} {k : Nat} {v : Value} (h : k < l.length) : putC l k [v] = l.set k v := by
  rw [putC, List.set_eq_take_append_cons_drop, if_pos h]; simp
/-- a store into one cell of an own block, at whatever place -/
theorem JL.storeAt {tx e : TypeId} {x y : Operand} (i : Nat) {b k : Nat} {l l' : List Value} {v : Value} (hz : aggsz P tx = some (false, 1)) (hx : ev f x = .pointer (some ⟨b, k, none⟩)) (hy : ev f y = v) (h1 : vcells v = [v] ∧ v.oneCell' = true) (hi : bs[i]? = some (b, .cells l.toArray e)) (hk : k < l.length) (hl : l.set k v = l') (hw : Want ops f g)
    (h : JL .plain P N ds B H ops Q rest f (bs.set i (b, .cells l'.toArray e)) gs) : JL .plain P N ds B H ops Q (⟨none, .store tx x y, t, p, af, g⟩ :: rest) f bs gs := by
  refine JL.storeOwn i (cs := [v]) hz hx (by rw [hy]; exact h1.1) rfl (fun u hu => by rw [List.mem_singleton.1 hu]; exact h1.2) hi (Nat.ble_eq_true_of_le (by omega)) hw ?_
  rw [putC_set hk, hl]
  exact h
end
end Go.Dec
end
section
namespace Go.Dec
open Go Go.RowKit
/-- all that lies in a world, as data -/
def hw (w : World) : Hp := ⟨fun b => w.heap[b]?, none⟩
theorem hw_le (w : World) : HLe (hw w) w := ⟨fun _ _ h => h, fun _ _ h => by cases h⟩
def Opens {T α : Type} (enc : TypeId × Value → T) (P : Program) (t : TypeId) (sz : Nat) (R : Rl α) (Wf : α → Prop) : Prop :=
  ∀ (w : World) (base : Nat) (sp : Nat → Bool) (held : Bool) (fuel : Nat) (cs : List Value) (y : DataW T × List MemPlace), DataW.trod enc P w base sp held fuel t cs = some y → cs.length = sz ∧ ∃ x, R (hw w) cs x ∧ Wf x
def I64 (n : Int) : Prop := -9223372036854775808 ≤ n ∧ n ≤ 9223372036854775807
section
variable {T α : Type} {enc : TypeId × Value → T} {P : Program} {t : TypeId}
theorem Opens.int (ht : P.underlying t = some (.int .i64)) : Opens enc P t 1 RInt I64 := by
  intro w base sp held fuel cs y h
  obtain ⟨n, rfl, rfl, hwf⟩ := DataW.trod_int ht h
  refine ⟨rfl, n, rfl, ?_⟩
  simpa [Lit.wf, IntKind.min, IntKind.max, IntKind.signed, IntKind.bits, I64] using hwf
theorem Opens.bool (ht : P.underlying t = some .bool) : Opens enc P t 1 RBool (fun _ => True) := by
  intro w base sp held fuel cs y h
  obtain ⟨n, rfl, rfl⟩ := DataW.trod_bool ht h
  exact ⟨rfl, n, rfl, trivial⟩
theorem list_of {Pr : Nat → α → Prop} : ∀ n, (∀ i, i < n → ∃ x, Pr i x) → ∃ l : List α, l.length = n ∧ ∀ i x, l[i]? = some x → Pr i x
  | 0, _ => ⟨[], rfl, by simp⟩
  | n + 1, h => by
    obtain ⟨l, h1, h2⟩ := list_of n (fun i hi => h i (by omega))
    obtain ⟨x, hx⟩ := h n (by omega)
    refine ⟨l ++ [x], by simp [h1], fun i y hi => ?_⟩
    rw [List.getElem?_append] at hi
    split at hi
    · exact h2 i y hi
    · rename_i hge
      have : i - l.length = 0 := by
        have := (List.getElem?_eq_some_iff.1 hi).1
        simp at this; omega
      rw [this] at hi
      simp at hi
      have e : i = n := by omega
      subst e; subst hi; exact hx
theorem cells_of {w : World} {base sz : Nat} {a : Addr} {cs : List Value} (h : w.cells? base a sz = some cs) (hpos : 0 < sz) : cs.length = sz ∧ a.spot = none ∧ Cells (hw w) a.block a.off cs := by
  obtain ⟨_, hlen, hget⟩ := World.cells?_some h
  have h0 := hget 0 hpos
  have hs : a.spot = none := by
    cases hsp : a.spot with
    | none => rfl
    | some x =>
      have h1 : w.cell? (a.add 0) = none := by
        unfold Addr.add World.cell?
        simp [hsp]
        split <;> rfl
      rw [h1] at h0
      have := (List.getElem?_eq_none_iff.1 h0.symm)
      omega
  refine ⟨hlen, hs, ?_⟩
  have hblk : ∃ c e fz, w.heap[a.block]? = some (.cells c e fz) := by
    unfold Addr.add World.cell? at h0
    simp only [if_true] at h0
    split at h0
    · rename_i c e fz hb; exact ⟨c, e, fz, hb⟩
    · have := (List.getElem?_eq_none_iff.1 h0.symm); omega
  obtain ⟨c, e, fz, hb⟩ := hblk
  refine ⟨c, e, fz, hb, fun j v hv => ?_⟩
  have hj : j < sz := by have := (List.getElem?_eq_some_iff.1 hv).1; omega
  have h2 := hget j hj
  rw [hv] at h2
  unfold Addr.add World.cell? at h2
  by_cases hj0 : j = 0
  · subst hj0
    simp [hb, hs] at h2
    simpa using h2
  · simp [hj0, hb] at h2
    exact h2
theorem Opens.slice {e : TypeId} {sz : Nat} {R : Rl α} {Wf : α → Prop} (ht : P.underlying t = some (.slice e)) (hc : P.cellsOf e = sz) (hpos : Nat.blt 0 sz = true) (he : Opens enc P e sz R Wf) : Opens enc P t 1 (RSl sz R) (fun l => (∀ x ∈ l, Wf x) ∧ l.length ≤ 9223372036854775807) := by
  have hpos : 0 < sz := Nat.le_of_ble_eq_true hpos
  intro w base sp held fuel cs y h
  rcases DataW.trod_slice ht h with ⟨rfl, rfl⟩ | ⟨a, len, cap, elems, rest, n, _, rfl, rfl, hb, hl, hm, hlen, hel, _, _⟩
  · exact ⟨rfl, [], ⟨_, rfl, SL.nil⟩, by simp⟩
  · refine ⟨rfl, ?_⟩
    rw [hc] at hel
    have each : ∀ i, i < len → ∃ x, (∃ cs', Cells (hw w) a.block (a.off + i * sz) cs' ∧ cs'.length = sz ∧ R (hw w) cs' x ∧ a.spot = none) ∧ Wf x := fun i hi => by
      have h1 := hel i hi
      rw [List.getElem?_eq_getElem (by omega)] at h1
      obtain ⟨cs', h2, h3⟩ := Option.bind_eq_some_iff.1 h1
      obtain ⟨h4, x, h5, h6⟩ := he w base sp held n cs' _ h3
      obtain ⟨_, h7, h8⟩ := cells_of h2 hpos
      have hsp : a.spot = none := by
        by_cases h0 : i * sz = 0
        · rw [h0] at h7; simpa [Addr.add] using h7
        · -- the first element says it
          have h1' := hel 0 (by omega)
          rw [List.getElem?_eq_getElem (by omega)] at h1'
          obtain ⟨cs'', h2', _⟩ := Option.bind_eq_some_iff.1 h1'
          have := (cells_of h2' hpos).2.1
          simpa [Addr.add] using this
      refine ⟨x, ⟨cs', ?_, h4, h5, hsp⟩, h6⟩
      have e1 : (a.add (i * sz)).block = a.block := by unfold Addr.add; split <;> rfl
      have e2 : (a.add (i * sz)).off = a.off + i * sz := by unfold Addr.add; split <;> simp_all
      rw [e1, e2] at h8
      exact h8
    obtain ⟨l, h1, h2⟩ := list_of len each
    have hcap : l.length ≤ 9223372036854775807 ∧ l.length ≤ cap := by
      simp only [maxLen] at hm; omega
    refine ⟨l, ⟨_, rfl, ?_⟩, fun x hx => ?_, hcap.1⟩
    · refine ⟨some a, cap, by rw [h1], hcap, ?_⟩
      by_cases h0 : l = []
      · exact .inl h0
      · right
        have hne : 0 < len := by rw [← h1]; exact List.length_pos_iff.2 h0
        obtain ⟨_, ⟨_, _, _, _, hsp⟩, _⟩ := each 0 hne
        refine ⟨a.block, a.off, ?_, fun i x hi => ?_⟩
        · cases a; simp only at hsp; subst hsp; rfl
        · obtain ⟨⟨cs', k1, k2, k3, _⟩, _⟩ := h2 i x hi
          exact ⟨cs', k1, k2, k3⟩
    · obtain ⟨i, hi⟩ := List.mem_iff_getElem?.1 hx
      exact (h2 i x hi).2
end
end Go.Dec
end
section
namespace Go.Dec
open Go Go.RowKit
/-- a call whose result holds slices that the caller owns -/
def XC (P : Program) (k : Nat) (vs : List Value) (H : Hp) (Res : Hp → Value → List GS → Prop) : Prop :=
  ∀ w, HLe H w → Calls P k vs.toArray w fun en w' => ∃ H' v gs', en = .returned v ∧ St ⟨w, H⟩ H' [] gs' w' ∧ Res H' v gs'
def setx {α : Type} (l : List α) (i : Int) (x : α) : List α := l.set i.toNat x
theorem setx_len {α : Type} (l : List α) (i : Int) (x : α) : (setx l i x).length = l.length := by simp [setx]
section
variable {q : Md} {P : Program} {N : Nat} {ds : List Deferred} {B : Bs} {H : Hp} {ops : List Oper} {Q : Exit → Act → World → Prop} {rest : List Oper} {f : Nat → Value} {bs : List (Nat × Obj)} {gs : List GS}
variable {d : Nat} {t : TypeId} {p : String} {af : Array Edge} {g : Option (Nat × Bool)}
abbrev RetX (B : Bs) (Res : Hp → Value → List GS → Prop) : Ending → World → Prop := fun en w' => ∃ H' v gs', en = .returned v ∧ St B H' [] gs' w' ∧ Res H' v gs'
theorem XC.of {k N : Nat} {fn : Func} {c : Code} {vs : List Value} {H : Hp} {Res : Hp → Value → List GS → Prop} (hf : P.funcs[k]? = some fn) (hN : fn.ntmps = N) (hb : fn.body = some c) (hn : Nat.ble vs.length N = true)
    (h : ∀ w, JC P none N [] ⟨w, H⟩ H c (bodyPost P fn (RetX ⟨w, H⟩ Res)) (frame0 vs) [] []) : XC P k vs H Res := fun w hH => by
  subst hN
  have hn := Nat.le_of_ble_eq_true hn
  exact (callsIn_wide (n := 0)).1 (callsIn_of_wp hf hb trivial (h w (noOut_body (fun w' hq => by obtain ⟨_, _, _, h, _⟩ := hq; cases h) (fun c w' hq => by obtain ⟨_, _, _, h, _⟩ := hq; cases h)) _ w (fr_start hn) (St.start hH)))
theorem JQ.outX {fn : Func} {rs : List ResultVar} {vs : List Value} {Res : Hp → Value → List GS → Prop} (hr : fn.results = rs.toArray) (h : RV P f bs rs vs) (hres : Res H (resw vs) gs) : JQ N [] B H .ret (bodyPost P fn (RetX B Res)) f bs gs := fun _ a w ha hs =>
  ⟨ha.defers, _, h.results hr ha hs, H, _, gs, rfl, hs.sub (List.nil_sublist _) (List.Sublist.refl _), hres⟩
theorem St.gains {w w' : World} (hs : St B H bs gs w) {H' : Hp} {gs' : List GS} (hc : St ⟨w, H⟩ H' [] gs' w') : St B H' bs (gs' ++ gs) w' := by
  have k := hs.grow hc.below hc.hle hc.ext.1 hc.ext.2
  refine ⟨k.below, k.hle, k.ext, k.own, k.nodup, fun r hr => ?_, fun r hr b hb => ?_, List.pairwise_append.2 ⟨hc.rdisj, k.rdisj, fun r hr u hu b hb e => ?_⟩⟩
  · rcases List.mem_append.1 hr with hr | hr
    · obtain ⟨h1, h2⟩ := hc.row r hr
      refine ⟨h1, h2.imp id ?_⟩
      rintro ⟨g, cap, cur, h3, h4, h5⟩
      exact ⟨g, cap, cur, h3, Nat.le_trans hs.below.size h4, h5⟩
    · exact k.row r hr
  · rcases List.mem_append.1 hr with hr | hr
    · have hge := ((hc.row r hr).lt b hb).1
      refine ⟨(hc.rfresh r hr b hb).1, fun x hx e => ?_⟩
      have := hs.own_lt hx
      simp only at hge
      omega
    · exact k.rfresh r hr b hb
  · have h1 := ((hc.row r hr).lt b hb).1
    have h2 := ((hs.row u hu).lt b e).2
    simp only at h1
    omega
theorem JL.callXC {kf : Nat} {l : List Operand} {tt : Array TypeId} {vs : List Value} {Res : Hp → Value → List GS → Prop} (hc : XC P kf vs H Res) (hvs : l.map (ev f) = vs) (he : Ent P kf) (hw : Want ops f g) (hd : Nat.blt d N = true)
    (h : ∀ H' v gs', HSub H H' → Res H' v gs' → JL .plain P N ds B H' ops Q rest (upd f d v) bs (gs' ++ gs)) : JL .plain P N ds B H ops Q (⟨some d, .call ⟨.value (.func kf), l.toArray, tt⟩, t, p, af, g⟩ :: rest) f bs gs :=
  .step hw fun a w ha hs => by
    unfold Oper.wp
    rw [ha.eval, run_callF hvs he, Oper.upon_enter]
    refine (hc w hs.hle).mono fun e w' => ?_
    rintro ⟨H', v, gs', rfl, hst, hres⟩
    exact h H' v gs' hst.ext.1 hres _ _ (ha.put hd v) (hs.gains hst)
theorem St.rowAt {w : World} (hs : St B H bs gs w) {j : Nat} {gq : GS} (hj : gs[j]? = some gq) {b : Nat} (hb : gq.v.ownBlock = some b) : gq.xs.length = gq.n * gq.sz ∧ ∃ cap cur, gq.v = .slice (some ⟨b, 0, none⟩) gq.n cap ∧ B.w.heap.size ≤ b ∧ w.heap[b]? = some (.cells cur gq.e (0, 0)) ∧ gq.n ≤ cap ∧ cap ≤ maxLen ∧ cur.size = cap * gq.sz ∧ cur.toList.take (gq.n * gq.sz) = gq.xs := by
  obtain ⟨h1, h2⟩ := hs.row gq (List.mem_of_getElem? hj)
  refine ⟨h1, ?_⟩
  rcases h2 with ⟨hv, _⟩ | ⟨g, cap, cur, hv, h3, h4, h5, h6, h7, h8⟩
  · rw [hv] at hb; cases hb
  · rw [hv] at hb
    simp only [Value.ownBlock, Option.some.injEq] at hb
    subst hb
    exact ⟨cap, cur, hv, h3, h4, h5, h6, h7, h8⟩
theorem JL.indexG {α : Type} (j : Nat) {gq : GS} {l : List α} {y : α} {tx e : TypeId} {x ix : Operand} {k : IntKind} {i : Int} {sz : Nat} (ht : slT P tx = some (e, sz)) (hj : gs[j]? = some gq) (hx : ev f x = gq.v) (hn : gq.n = l.length) (hi : ev f ix = .int k i) (hy : geti l i = some y) (hw : Want ops f g) (hd : Nat.blt d N = true)
    (h : ∀ b, gq.v.ownBlock = some b → JL .plain P N ds B H ops Q rest (upd f d (.pointer (some ⟨b, 0 + i.toNat * sz, none⟩))) bs gs) : JL .plain P N ds B H ops Q (⟨some d, .indexAddr tx x ix, t, p, af, g⟩ :: rest) f bs gs := fun a w ha hs => by
  have hlt : 0 ≤ i ∧ i < gq.n := by
    unfold geti at hy
    split at hy
    · rename_i h0
      have := (List.getElem?_eq_some_iff.1 hy).1
      omega
    · cases hy
  obtain ⟨_, h2⟩ := hs.row gq (List.mem_of_getElem? hj)
  rcases h2 with ⟨_, h0⟩ | ⟨b, cap, cur, hv, _⟩
  · omega
  · exact JL.indexAt ht (hx.trans hv) hi hlt.1 hlt.2 hw hd (h b (by rw [hv]; rfl)) a w ha hs
theorem getElem?_take_of {l : List Value} {m j : Nat} {v : Value} (h : (l.take m)[j]? = some v) : l[j]? = some v := by
  rw [List.getElem?_take] at h
  split at h
  · exact h
  · cases h
theorem CH.put {α : Type} {R : Rl α} {sz off : Nat} {i : Int} {xs cs2 : List Value} {l : List α} {y y' : α} (hch : CH H sz R xs l) (hy : geti l i = some y) (hoff : off + cs2.length ≤ sz) (hR : ∀ cs, R H cs y → R H (putC cs off cs2) y') : CH H sz R (putC xs (i.toNat * sz + off) cs2) (setx l i y') ∧ i.toNat * sz + off + cs2.length ≤ xs.length := by
  unfold geti at hy
  split at hy
  · obtain ⟨h1, h2⟩ := hch
    obtain ⟨cs, c1, c2, c3⟩ := h2 _ _ hy
    have hil := (List.getElem?_eq_some_iff.1 hy).1
    have hfit : i.toNat * sz + off + cs2.length ≤ xs.length := by
      have := Nat.mul_le_mul_right sz (show i.toNat + 1 ≤ l.length by omega)
      rw [Nat.succ_mul] at this
      rw [h1]; omega
    have hlen : (putC xs (i.toNat * sz + off) cs2).length = xs.length := by
      simp only [putC, List.length_append, List.length_take, List.length_drop]; omega
    have get : ∀ m, (putC xs (i.toNat * sz + off) cs2)[m]? = if m < i.toNat * sz + off then xs[m]? else if m < i.toNat * sz + off + cs2.length then cs2[m - (i.toNat * sz + off)]? else xs[m]? := fun m => by
      unfold putC
      have e1 : (xs.take (i.toNat * sz + off)).length = i.toNat * sz + off := by rw [List.length_take]; omega
      by_cases ha : m < i.toNat * sz + off
      · rw [if_pos ha, List.append_assoc, List.getElem?_append_left (by omega), List.getElem?_take, if_pos ha]
      · rw [if_neg ha]
        by_cases hb : m < i.toNat * sz + off + cs2.length
        · rw [if_pos hb, List.getElem?_append_left (by rw [List.length_append, e1]; omega), List.getElem?_append_right (by omega), e1]
        · rw [if_neg hb, List.getElem?_append_right (by rw [List.length_append, e1]; omega), List.length_append, e1, List.getElem?_drop]
          congr 1; omega
    have get2 : ∀ m, (putC cs off cs2)[m]? = if m < off then cs[m]? else if m < off + cs2.length then cs2[m - off]? else cs[m]? := fun m => by
      unfold putC
      have e1 : (cs.take off).length = off := by rw [List.length_take]; omega
      by_cases ha : m < off
      · rw [if_pos ha, List.append_assoc, List.getElem?_append_left (by omega), List.getElem?_take, if_pos ha]
      · rw [if_neg ha]
        by_cases hb : m < off + cs2.length
        · rw [if_pos hb, List.getElem?_append_left (by rw [List.length_append, e1]; omega), List.getElem?_append_right (by omega), e1]
        · rw [if_neg hb, List.getElem?_append_right (by rw [List.length_append, e1]; omega), List.length_append, e1, List.getElem?_drop]
          congr 1; omega
    refine ⟨⟨by rw [hlen, setx_len]; exact h1, fun m u hu => ?_⟩, hfit⟩
    unfold setx at hu
    rw [List.getElem?_set] at hu
    by_cases hm : i.toNat = m
    · subst hm
      rw [if_pos rfl, if_pos hil] at hu
      cases hu
      refine ⟨putC cs off cs2, ?_, hR cs c2, fun n v hv => ?_⟩
      · simp only [putC, List.length_append, List.length_take, List.length_drop]; omega
      · have hn : n < sz := by
          have := (List.getElem?_eq_some_iff.1 hv).1
          simp only [putC, List.length_append, List.length_take, List.length_drop] at this; omega
        rw [get2] at hv
        rw [get]
        by_cases ha : n < off
        · rw [if_pos ha] at hv
          rw [if_pos (by omega)]
          exact c3 n v hv
        · rw [if_neg ha] at hv
          rw [if_neg (by omega)]
          by_cases hb : n < off + cs2.length
          · rw [if_pos hb] at hv
            rw [if_pos (by omega), show i.toNat * sz + n - (i.toNat * sz + off) = n - off by omega]
            exact hv
          · rw [if_neg hb] at hv
            rw [if_neg (by omega)]
            exact c3 n v hv
    · rw [if_neg hm] at hu
      obtain ⟨ds, d1, d2, d3⟩ := h2 _ _ hu
      refine ⟨ds, d1, d2, fun n v hv => ?_⟩
      have hn : n < sz := by rw [← d1]; exact (List.getElem?_eq_some_iff.1 hv).1
      have hne : m * sz + n < i.toNat * sz ∨ i.toNat * sz + sz ≤ m * sz + n := by
        rcases Nat.lt_or_gt_of_ne hm with hlt | hgt
        · right
          have := Nat.mul_le_mul_right sz (show i.toNat + 1 ≤ m by omega)
          rw [Nat.succ_mul] at this
          omega
        · left
          have := Nat.mul_le_mul_right sz (show m + 1 ≤ i.toNat by omega)
          rw [Nat.succ_mul] at this
          omega
      rw [get]
      by_cases ha : m * sz + n < i.toNat * sz + off
      · rw [if_pos ha]; exact d3 n v hv
      · rw [if_neg ha, if_neg (by omega)]; exact d3 n v hv
  · cases hy
theorem St.storeRow {w : World} (hs : St B H bs gs w) {j : Nat} {gq : GS} (hj : gs[j]? = some gq) {b k : Nat} {cs : List Value} (hb : gq.v.ownBlock = some b) (hfit : k + cs.length ≤ gq.xs.length) {cur : Array Value} (hcur : w.heap[b]? = some (.cells cur gq.e (0, 0))) :
    St B H bs (gs.set j ⟨gq.v, gq.e, gq.sz, gq.n, putC gq.xs k cs⟩) (w.setRow b (cur.toList.take k ++ cs ++ cur.toList.drop (k + cs.length)).toArray) := by
  obtain ⟨h1, cap, cur', hv, h3, h4, h5, h6, h7, h8⟩ := hs.rowAt hj hb
  rw [hcur] at h4
  cases h4
  have hsz : gq.n * gq.sz ≤ cur.size := by rw [h7]; exact Nat.mul_le_mul_right _ h5
  have hnew := setRow_heap w b cur (cur.toList.take k ++ cs ++ cur.toList.drop (k + cs.length)).toArray _ _ hcur
  have key : w.grownBy (w.setRow b (cur.toList.take k ++ cs ++ cur.toList.drop (k + cs.length)).toArray) gq.v.ownBlock := ⟨rfl, rfl, rfl, Nat.le_of_eq (setRow_size _ _ _).symm, fun m hm hne => setRow_other w b m _ (fun e => hne (by rw [hb, e]))⟩
  refine hs.regrow hj key ⟨?_, .inr ⟨b, cap, _, hv, h3, hnew, h5, h6, ?_, ?_⟩⟩ (.inl rfl)
  · simp only [putC, List.length_append, List.length_take, List.length_drop]; omega
  · simp only [List.size_toArray, List.length_append, List.length_take, List.length_drop, Array.length_toList]; omega
  · have e0 : (cur.toList.take (gq.n * gq.sz)).length = gq.n * gq.sz := by rw [List.length_take, Array.length_toList]; omega
    have hk : k + cs.length ≤ gq.n * gq.sz := by omega
    rw [← h8]
    simp only [putC]
    rw [List.take_take, Nat.min_eq_left (by omega)]
    have e1 : (cur.toList.take k ++ cs).length = k + cs.length := by
      rw [List.length_append, List.length_take, Array.length_toList]; omega
    rw [List.take_append, List.take_of_length_le (by omega), e1, List.drop_take]
theorem JL.storeG {α : Type} {R : Rl α} (j : Nat) {gq : GS} {b kk off sz n : Nat} {r : Bool} {i : Int} {l : List α} {y y' : α} {tx : TypeId} {x u : Operand} {cs : List Value} (hz : aggsz P tx = some (r, n)) (hx : ev f x = .pointer (some ⟨b, kk, none⟩)) (hk : kk = 0 + i.toNat * sz + off) (hu : vcells (ev f u) = cs) (hn : cs.length = n) (h1 : AllOne cs)
    (hj : gs[j]? = some gq) (hb : gq.v.ownBlock = some b) (hch : CH H sz R gq.xs l) (hnl : gq.n = l.length) (hy : geti l i = some y) (hoff : Nat.ble (off + n) sz = true) (hR : ∀ cs', R H cs' y → R H (putC cs' off cs) y') (hw : Want ops f g)
    (h : ∀ xs', CH H sz R xs' (setx l i y') → JL .plain P N ds B H ops Q rest f bs (gs.set j ⟨gq.v, gq.e, gq.sz, (setx l i y').length, xs'⟩)) : JL .plain P N ds B H ops Q (⟨none, .store tx x u, t, p, af, g⟩ :: rest) f bs gs :=
  .step hw fun a w ha hs => by
    subst hn
    have hoff := Nat.le_of_ble_eq_true hoff
    obtain ⟨hc2, hfit⟩ := hch.put hy hoff hR
    obtain ⟨_, cap, cur, hv, _, h4, h5, _, h7, h8⟩ := hs.rowAt hj hb
    obtain ⟨_, hsz, _⟩ := run_isAgg_of (w := w) hz
    have hcs : gq.xs.length ≤ cur.size := by
      have := congrArg List.length h8
      rw [List.length_take, Array.length_toList] at this
      omega
    have hst := run_storeCells_at P b (i.toNat * sz + off) gq.e cs 0 cur w h4 (by omega) h1
    simp only [Nat.add_zero] at hst
    unfold Oper.wp
    have hr : (execOp (ev f) ⟨none, .store tx x u, t, p, af, g⟩).run P w = .ok .skip (w.setRow b (cur.toList.take (i.toNat * sz + off) ++ cs ++ cur.toList.drop (i.toNat * sz + off + cs.length)).toArray) := by
      subst hk
      rw [Nat.zero_add] at hx
      simp [execOp, hx, Instr.storeAt, Instr.sureAddr, storeVar, vcells_eq, hu, hsz, hst]
    rw [ha.eval, hr]
    have := hs.storeRow hj hb hfit h4
    rw [setx_len, ← hnl] at *
    exact h _ hc2 a _ ha this
end
end Go.Dec
end
section
namespace Go.Dec
open Go Go.RowKit
section
variable {q : Md} {P : Program} {N : Nat} {ds : List Deferred} {B : Bs} {H : Hp} {ops : List Oper} {Q : Exit → Act → World → Prop} {rest : List Oper} {f : Nat → Value} {bs : List (Nat × Obj)} {gs : List GS}
variable {d : Nat} {t : TypeId} {p : String} {af : Array Edge} {g : Option (Nat × Bool)}
/-- the form of an own slice's value -/
def FormG (gq : GS) : Prop := ∀ i : Nat, i < gq.n → ∃ b cap, gq.v = .slice (some ⟨b, 0, none⟩) gq.n cap
theorem St.formG {w : World} (hs : St B H bs gs w) {j : Nat} {gq : GS} (hj : gs[j]? = some gq) : FormG gq := fun i hi => by
  obtain ⟨_, h2⟩ := hs.row gq (List.mem_of_getElem? hj)
  rcases h2 with ⟨_, h0⟩ | ⟨b, cap, cur, hv, _⟩
  · omega
  · exact ⟨b, cap, hv⟩
/-- own slices lent to a call -/
theorem JL.callLGX {op : Op} {kf : Nat} {vs : List Value} {v : Value} (hc : ∀ w, St B H bs gs w → Calls P kf vs.toArray w fun e w' => e = .returned v ∧ Kept H w w') (hr : ∀ w, (execOp (ev f) ⟨some d, op, t, p, af, g⟩).run P w = .ok (.enter kf vs.toArray) w) (hq : q.calls = true) (hw : Want ops f g) (hd : Nat.blt d N = true)
    (h : JL q P N ds B H ops Q rest (upd f d v) bs gs) : JL q P N ds B H ops Q (⟨some d, op, t, p, af, g⟩ :: rest) f bs gs := by
  match q with
  | .plain =>
    exact .step hw fun a w ha hs => by
      unfold Oper.wp
      rw [ha.eval, hr, Oper.upon_enter]
      refine (hc w hs).mono fun e w' => ?_
      rintro ⟨rfl, hb⟩
      exact h _ _ (ha.put hd v) (hs.keptX hb)
  | .quiet K =>
    intro a ha
    unfold wpQuiet
    rw [if_pos (Want.wanted ha (o := ⟨some d, op, t, p, af, g⟩) hw)]
    refine ⟨v, fun w hs => ?_, h _ (ha.put hd v)⟩
    unfold Oper.quietAt
    rw [ha.eval, hr]
    refine ⟨rfl, (hc w hs).mono fun e w' => ?_⟩
    rintro ⟨rfl, hb⟩
    exact ⟨rfl, hs.keptX hb⟩
  | .first K => cases hq
theorem JL.callLG1 {α : Type} {R : Rl α} (j : Nat) {gq : GS} {la : List α} {kf : Nat} {l : List Operand} {tt : Array TypeId} {vs : List Value} {v : Value} (hj : gs[j]? = some gq) (hR : Mono R) (hch : CH H gq.sz R gq.xs la) (hn : gq.n = la.length) (hc : ∀ H1, HSub H H1 → SL H1 gq.sz R gq.v la → SC P kf vs v H1) (hvs : l.map (ev f) = vs) (he : Ent P kf) (hw : Want ops f g) (hd : Nat.blt d N = true)
    (h : JL q P N ds B H ops Q rest (upd f d v) bs gs) (hq : q.calls = true := by rfl) : JL q P N ds B H ops Q (⟨some d, .call ⟨.value (.func kf), l.toArray, tt⟩, t, p, af, g⟩ :: rest) f bs gs :=
  .callLGX (fun w hs => by
    obtain ⟨H1, h1, h2, h3⟩ := hs.freezeG hj hR hch hn
    exact (hc H1 h1 h2 w h3.hle).mono fun _ _ he => ⟨he.1, he.2.down h1⟩) (run_callF hvs he) hq hw hd h
/-- own slices in another order -/
theorem St.permG {w : World} (h : St B H bs gs w) {gs' : List GS} (hp : gs.Perm gs') : St B H bs gs' w :=
  ⟨h.below, h.hle, h.ext, h.own, h.nodup, fun g hg => h.row g (hp.mem_iff.2 hg), fun g hg => h.rfresh g (hp.mem_iff.2 hg), (hp.pairwise_iff (fun {x y} hxy b hb e => hxy b e hb)).1 h.rdisj⟩
theorem JA.permG {k : Nat} {H0 : Hp} {bs0 : List (Nat × Obj)} {fuel : Nat} {listed : Array Bool} {gs' : List GS} (hp : gs.Perm gs') (h : JA P N ds B k H0 bs0 ops Q fuel listed H f bs gs') : JA P N ds B k H0 bs0 ops Q fuel listed H f bs gs := fun a w ha hs => h a w ha (hs.permG hp)
end
end Go.Dec
end
section
namespace Go.Dec
open Go Go.RowKit
section
variable {q : Md} {P : Program} {N : Nat} {ds : List Deferred} {B : Bs} {H : Hp} {ops : List Oper} {Q : Exit → Act → World → Prop} {rest : List Oper} {f : Nat → Value} {bs : List (Nat × Obj)} {gs : List GS}
variable {d : Nat} {t : TypeId} {p : String} {af : Array Edge} {g : Option (Nat × Bool)}
theorem JL.min4 {tt : Array TypeId} {x y z u : Operand} {k : IntKind} {m n r s : Int} (hx : ev f x = .int k m) (hy : ev f y = .int k n) (hz : ev f z = .int k r) (hu : ev f u = .int k s) (hw : Want ops f g) (hd : Nat.blt d N = true)
    (h : JL q P N ds B H ops Q rest (upd f d (.int k (Min.min (Min.min (Min.min m n) r) s))) bs gs) : JL q P N ds B H ops Q (⟨some d, .call ⟨.builtin .min, #[x, y, z, u], tt⟩, t, p, af, g⟩ :: rest) f bs gs :=
  .val hw hd (fun w _ => by simp [execOp, resolve, invoke, builtin, Builtin.min_, hx, hy, hz, hu, go_sem, Builtin.min2]; omega) h
theorem JL.max4 {tt : Array TypeId} {x y z u : Operand} {k : IntKind} {m n r s : Int} (hx : ev f x = .int k m) (hy : ev f y = .int k n) (hz : ev f z = .int k r) (hu : ev f u = .int k s) (hw : Want ops f g) (hd : Nat.blt d N = true)
    (h : JL q P N ds B H ops Q rest (upd f d (.int k (Max.max (Max.max (Max.max m n) r) s))) bs gs) : JL q P N ds B H ops Q (⟨some d, .call ⟨.builtin .max, #[x, y, z, u], tt⟩, t, p, af, g⟩ :: rest) f bs gs :=
  .val hw hd (fun w _ => by simp [execOp, resolve, invoke, builtin, Builtin.max_, hx, hy, hz, hu, go_sem, Builtin.max2]; omega) h
end
end Go.Dec
end
section
namespace Go.Dec
open Go Go.RowKit
abbrev Mp := List (List Int × Int)
def klt : List Int → List Int → Bool
  | [], [] => false
  | [], _ :: _ => true
  | _ :: _, [] => false
  | a :: l, b :: m => if a < b then true else if b < a then false else klt l m
theorem klt_irrefl : ∀ k, klt k k = false
  | [] => rfl
  | a :: l => by simp [klt, klt_irrefl l]
theorem klt_trans : ∀ {k l m}, klt k l = true → klt l m = true → klt k m = true
  | [], [], _, h, _ => by simp [klt] at h
  | [], _ :: _, [], _, h => by simp [klt] at h
  | [], _ :: _, _ :: _, _, _ => rfl
  | _ :: _, [], _, h, _ => by simp [klt] at h
  | _ :: _, _ :: _, [], _, h => by simp [klt] at h
  | a :: k, b :: l, c :: m, h1, h2 => by
    unfold klt at h1 h2 ⊢
    by_cases hab : a < b
    · by_cases hbc : b < c
      · rw [if_pos (by omega)]
      · rw [if_neg hbc] at h2
        by_cases hcb : c < b
        · rw [if_pos hcb] at h2; cases h2
        · rw [if_pos (by omega)]
    · rw [if_neg hab] at h1
      by_cases hba : b < a
      · rw [if_pos hba] at h1; cases h1
      · rw [if_neg hba] at h1
        by_cases hbc : b < c
        · rw [if_pos (by omega)]
        · rw [if_neg hbc] at h2
          by_cases hcb : c < b
          · rw [if_pos hcb] at h2; cases h2
          · rw [if_neg hcb] at h2
            rw [if_neg (by omega), if_neg (by omega)]
            exact klt_trans h1 h2
theorem klt_total : ∀ {k l}, k ≠ l → klt k l = false → klt l k = true
  | [], [], h, _ => absurd rfl h
  | [], _ :: _, _, h => by simp [klt] at h
  | _ :: _, [], _, _ => rfl
  | a :: k, b :: l, h, h1 => by
    unfold klt at h1 ⊢
    by_cases hab : a < b
    · rw [if_pos hab] at h1; cases h1
    · rw [if_neg hab] at h1
      by_cases hba : b < a
      · rw [if_pos hba]
      · rw [if_neg hba] at h1 ⊢
        rw [if_neg hab]
        have e : a = b := by omega
        subst e
        exact klt_total (fun e => h (by rw [e])) h1
def mget (m : Mp) (k : List Int) : Int := match m.find? (fun p => p.1 == k) with | some p => p.2 | none => 0
def mput : Mp → List Int → Int → Mp
  | [], k, v => [(k, v)]
  | p :: r, k, v => if p.1 == k then (k, v) :: r else if klt k p.1 then (k, v) :: p :: r else p :: mput r k v
def mdel (m : Mp) (k : List Int) : Mp := m.filter fun p => !(p.1 == k)
def Srt (m : Mp) : Prop := m.Pairwise fun p q => klt p.1 q.1 = true
def mhas (m : Mp) (k : List Int) : Bool := m.any fun p => p.1 == k
theorem srt_ne {m : Mp} (h : Srt m) : m.Pairwise fun p q => p.1 ≠ q.1 := h.imp fun {a b} hab e => by rw [e, klt_irrefl] at hab; cases hab
theorem srt_inj {m : Mp} (h : Srt m) {p q : List Int × Int} (hp : p ∈ m) (hq : q ∈ m) (e : p.1 = q.1) : p = q := by
  induction m with
  | nil => cases hp
  | cons a r ih =>
    obtain ⟨h1, h2⟩ := List.pairwise_cons.1 (srt_ne h)
    rcases List.mem_cons.1 hp with rfl | hp
    · rcases List.mem_cons.1 hq with rfl | hq
      · rfl
      · exact absurd e (h1 q hq)
    · rcases List.mem_cons.1 hq with rfl | hq
      · exact absurd e.symm (h1 p (by assumption))
      · exact ih (List.pairwise_cons.1 h).2 hp hq
theorem mem_mput {k : List Int} {v : Int} {q : List Int × Int} : ∀ {m : Mp}, Srt m → (q ∈ mput m k v ↔ q = (k, v) ∨ (q ∈ m ∧ q.1 ≠ k))
  | [], _ => by simp [mput]
  | p :: r, h => by
    obtain ⟨h1, h2⟩ := List.pairwise_cons.1 h
    unfold mput
    by_cases e : p.1 = k
    · rw [if_pos (by simpa using e)]
      subst e
      constructor
      · intro hq
        rcases List.mem_cons.1 hq with rfl | hq
        · exact .inl rfl
        · refine .inr ⟨List.mem_cons_of_mem _ hq, fun e => ?_⟩
          have := h1 q hq
          rw [e, klt_irrefl] at this
          cases this
      · rintro (rfl | ⟨hq, hne⟩)
        · exact List.mem_cons_self ..
        · rcases List.mem_cons.1 hq with rfl | hq
          · exact absurd rfl hne
          · exact List.mem_cons_of_mem _ hq
    · rw [if_neg (by simpa using e)]
      by_cases hl : klt k p.1 = true
      · rw [if_pos hl]
        constructor
        · intro hq
          rcases List.mem_cons.1 hq with rfl | hq
          · exact .inl rfl
          · refine .inr ⟨hq, fun e2 => ?_⟩
            rcases List.mem_cons.1 hq with rfl | hq
            · exact e e2
            · have := klt_trans hl (h1 q hq)
              rw [e2, klt_irrefl] at this
              cases this
        · rintro (rfl | ⟨hq, _⟩)
          · exact List.mem_cons_self ..
          · exact List.mem_cons_of_mem _ hq
      · rw [if_neg hl, List.mem_cons, mem_mput h2]
        constructor
        · rintro (rfl | rfl | ⟨hq, hne⟩)
          · exact .inr ⟨List.mem_cons_self .., e⟩
          · exact .inl rfl
          · exact .inr ⟨List.mem_cons_of_mem _ hq, hne⟩
        · rintro (rfl | ⟨hq, hne⟩)
          · exact .inr (.inl rfl)
          · rcases List.mem_cons.1 hq with rfl | hq
            · exact .inl rfl
            · exact .inr (.inr ⟨hq, hne⟩)
theorem srt_mput {k : List Int} {v : Int} : ∀ {m : Mp}, Srt m → Srt (mput m k v)
  | [], _ => by simp [mput, Srt]
  | p :: r, h => by
    obtain ⟨h1, h2⟩ := List.pairwise_cons.1 h
    unfold mput
    by_cases e : p.1 = k
    · rw [if_pos (by simpa using e)]
      subst e
      exact List.pairwise_cons.2 ⟨h1, h2⟩
    · rw [if_neg (by simpa using e)]
      by_cases hl : klt k p.1 = true
      · rw [if_pos hl]
        refine List.pairwise_cons.2 ⟨fun q hq => ?_, h⟩
        rcases List.mem_cons.1 hq with rfl | hq
        · exact hl
        · exact klt_trans hl (h1 q hq)
      · rw [if_neg hl]
        refine List.pairwise_cons.2 ⟨fun q hq => ?_, srt_mput h2⟩
        rcases (mem_mput h2).1 hq with rfl | ⟨hq, _⟩
        · exact klt_total (fun e2 => e e2.symm) (by simpa using hl)
        · exact h1 q hq
theorem mhas_iff {m : Mp} {k : List Int} : mhas m k = true ↔ ∃ v, (k, v) ∈ m := by
  simp only [mhas, List.any_eq_true, beq_iff_eq]
  constructor
  · rintro ⟨⟨a, v⟩, h, rfl⟩; exact ⟨v, h⟩
  · rintro ⟨v, h⟩; exact ⟨(k, v), h, rfl⟩
theorem length_mput {k : List Int} {v : Int} : ∀ {m : Mp}, Srt m → (mput m k v).length = if mhas m k = true then m.length else m.length + 1
  | [], _ => by simp [mput, mhas]
  | p :: r, h => by
    obtain ⟨h1, h2⟩ := List.pairwise_cons.1 h
    unfold mput mhas
    by_cases e : p.1 = k
    · rw [if_pos (by simpa using e)]; simp [e]
    · rw [if_neg (by simpa using e)]
      by_cases hl : klt k p.1 = true
      · rw [if_pos hl]
        have hn : (List.any (p :: r) fun p => p.1 == k) = false := by
          rw [List.any_eq_false]
          intro q hq
          have : q.1 ≠ k := fun e2 => by
            rcases List.mem_cons.1 hq with rfl | hq
            · exact e e2
            · have := klt_trans hl (h1 q hq)
              rw [e2, klt_irrefl] at this
              cases this
          simpa using this
        rw [hn]; simp
      · rw [if_neg hl, List.length_cons, length_mput h2]
        have hb : (p.1 == k) = false := by simpa using e
        simp only [List.any_cons, hb, Bool.false_or, mhas, List.length_cons]
        split <;> rename_i hh <;> simp [hh]
theorem mget_of_mem {m : Mp} (h : Srt m) {k : List Int} {v : Int} (hm : (k, v) ∈ m) : mget m k = v := by
  unfold mget
  have : (m.find? fun p => p.1 == k).isSome = true := List.find?_isSome.2 ⟨_, hm, by simp⟩
  obtain ⟨q, hq⟩ := Option.isSome_iff_exists.1 this
  rw [hq]
  have h1 := List.mem_of_find?_eq_some hq
  have h2 := List.find?_some hq
  have e : q.1 = k := by simpa using h2
  have := srt_inj h h1 hm e
  rw [this]
theorem mget_of_not {m : Mp} {k : List Int} (h : ∀ p ∈ m, p.1 ≠ k) : mget m k = 0 := by
  unfold mget
  rw [List.find?_eq_none.2 (fun p hp => by simpa using h p hp)]
theorem mem_mdel {m : Mp} {k : List Int} {q : List Int × Int} : q ∈ mdel m k ↔ q ∈ m ∧ q.1 ≠ k := by simp [mdel]
/-- keys of n numbers -/
def Kok (n : Nat) (k : List Int) : Prop := k.length = n ∧ ∀ x ∈ k, -9223372036854775808 ≤ x ∧ x ≤ 9223372036854775807
def kok (n : Nat) (k : List Int) : Option Unit := if k.length = n ∧ (k.all fun x => decide (-9223372036854775808 ≤ x ∧ x ≤ 9223372036854775807)) = true then some () else none
theorem kok_some {n : Nat} {k : List Int} {u : Unit} (h : kok n k = some u) : Kok n k := by
  unfold kok at h
  split at h
  · rename_i hh; exact ⟨hh.1, fun x hx => by simpa using List.all_eq_true.1 hh.2 x hx⟩
  · cases h
theorem kok_ok {n : Nat} {k : List Int} (h : Kok n k) : kok n k = some () := by
  unfold kok
  rw [if_pos ⟨h.1, List.all_eq_true.2 fun x hx => by simpa using h.2 x hx⟩]
structure KT (P : Program) (kt : TypeId) (n : Nat) (ek : List Int → Value) : Prop where
  keyed : Maps.Keyed P kt
  read : ∀ k, Kok n k → ∃ l, keyOf P kt (ek k) = some l
  inj : ∀ k k', Kok n k → Kok n k' → ek k = ek k' → k = k'
def ekI (k : List Int) : Value := .int .i64 (k.headD 0)
def ekA (k : List Int) : Value := .agg (k.map (Value.int .i64)).toArray
theorem KT.int {P : Program} {kt : TypeId} (h : P.underlying kt = some (.int .i64)) : KT P kt 1 ekI where
  keyed := Maps.int_keyed h
  read := fun k hk => by
    obtain ⟨h1, h2⟩ := hk
    match k, h1 with
    | [x], _ =>
      refine ⟨_, Maps.keyOf_int_mk h ?_⟩
      have := h2 x (List.mem_singleton.2 rfl)
      simp [Lit.wf, IntKind.min, IntKind.max, IntKind.signed, IntKind.bits]; omega
  inj := fun k k' hk hk' e => by
    match k, hk.1, k', hk'.1 with
    | [x], _, [y], _ => simp [ekI] at e; rw [e]
def isI64 (P : Program) (t : TypeId) : Bool := match P.underlying t with | some (.int .i64) => Nat.beq (P.cellsOf t) 1 | _ => false
theorem isI64_spec {P : Program} {t : TypeId} (h : isI64 P t = true) : P.underlying t = some (.int .i64) ∧ P.cellsOf t = 1 := by
  unfold isI64 at h
  split at h
  · rename_i hu; exact ⟨hu, Nat.eq_of_beq_eq_true h⟩
  · cases h
/-- keys of n numbers, one behind the other -/
def keyShape (P : Program) (kt : TypeId) (n : Nat) : Bool :=
  match P.underlying kt with
  | some (.array m e) => isI64 P e && Nat.beq m n && Nat.beq (P.cellsOf kt) n
  | some (.struct fs) => Nat.beq (P.cellsOf kt) n && (fs.all (·.name != "_") && fs.toList.all fun f => isI64 P f.type && Nat.blt f.offset n)
  | _ => false
theorem mapM_some_of {α β : Type} {f : α → Option β} : ∀ (l : List α), (∀ x ∈ l, ∃ y, f x = some y) → ∃ r, l.mapM f = some r
  | [], _ => ⟨[], rfl⟩
  | a :: l, h => by
    obtain ⟨y, hy⟩ := h a (List.mem_cons_self ..)
    obtain ⟨r, hr⟩ := mapM_some_of l fun x hx => h x (List.mem_cons_of_mem _ hx)
    exact ⟨y :: r, by rw [List.mapM_cons, hy, hr]; rfl⟩
theorem keyLits_int {P : Program} {t : TypeId} (h : isI64 P t = true) {d : Nat} {cs : List Value} {x : Int} (hc : cs = [.int .i64 x]) (hx : -9223372036854775808 ≤ x ∧ x ≤ 9223372036854775807) : ∃ y, P.keyLits (d + 1) t cs = some y := by
  obtain ⟨hu, _⟩ := isI64_spec h
  subst hc
  have hw : (Lit.int .i64 x).wf = true := by simp [Lit.wf, IntKind.min, IntKind.max, IntKind.signed, IntKind.bits]; omega
  exact ⟨[.int .i64 x], by simp [Program.keyLits, hu, hw]⟩
theorem keyOf_shape {P : Program} {kt : TypeId} {n : Nat} (hs : keyShape P kt n = true) (hk : P.keyType kt = true) (hsz : Nat.blt 0 P.types.size = true) {k : List Int} (h : Kok n k) : ∃ l, keyOf P kt (ekA k) = some l := by
  obtain ⟨h1, h2⟩ := h
  have hlen : ((k.map (Value.int .i64)).toArray).toList.length = n := by simp [h1]
  have hsz : 0 < P.types.size := Nat.le_of_ble_eq_true hsz
  obtain ⟨m, hm⟩ : ∃ m, P.types.size = m + 1 := ⟨P.types.size - 1, by omega⟩
  have one : ∀ i, i < n → ∃ x, (((k.map (Value.int .i64)).toArray.toList).drop i).take 1 = [.int .i64 x] ∧ (-9223372036854775808 ≤ x ∧ x ≤ 9223372036854775807) := fun i hi => by
    have hi' : i < k.length := by omega
    refine ⟨k[i], ?_, h2 _ (List.getElem_mem hi')⟩
    simp only [List.toList_toArray]
    rw [List.drop_eq_getElem_cons (by simpa using hi')]
    simp
  unfold keyShape at hs
  split at hs
  · rename_i m' e hu
    simp only [Bool.and_eq_true] at hs
    obtain ⟨⟨he, hmn⟩, hc⟩ := hs
    have hmn := Nat.eq_of_beq_eq_true hmn
    have hc := Nat.eq_of_beq_eq_true hc
    subst hmn
    obtain ⟨r, hr⟩ := mapM_some_of (f := fun i => P.keyLits P.types.size e ((((k.map (Value.int .i64)).toArray.toList).drop (i * P.cellsOf e)).take (P.cellsOf e))) (List.range m') fun i hi => by
      obtain ⟨x, hx, hb⟩ := one i (List.mem_range.1 hi)
      rw [(isI64_spec he).2, Nat.mul_one, hm]
      exact keyLits_int he hx hb
    refine ⟨.string (keyBytes r.flatten), ?_⟩
    simp only [keyOf, hu, ekA, hk, Value.formed, hc, Bool.true_and]
    have e1 : ((k.map (Value.int .i64)).toArray.size == m') = true := by simp [h1]
    rw [if_pos e1]
    simp only [Program.keyLits, hu, Value.cells, hlen, hc, if_true, hr, Option.map_some]
  · rename_i fs hu
    simp only [Bool.and_eq_true] at hs
    obtain ⟨hc, hnm, hf⟩ := hs
    have hc := Nat.eq_of_beq_eq_true hc
    obtain ⟨r, hr⟩ := mapM_some_of (f := fun (f : Field) => P.keyLits P.types.size f.type ((((k.map (Value.int .i64)).toArray.toList).drop f.offset).take (P.cellsOf f.type))) fs.toList fun fl hfl => by
      have h3 := List.all_eq_true.1 hf fl hfl
      simp only [Bool.and_eq_true] at h3
      obtain ⟨x, hx, hb⟩ := one fl.offset (Nat.le_of_ble_eq_true h3.2)
      rw [(isI64_spec h3.1).2, hm]
      exact keyLits_int h3.1 hx hb
    refine ⟨.string (keyBytes r.flatten), ?_⟩
    simp only [keyOf, hu, ekA, hk, Value.formed, hc, Bool.true_and]
    have e1 : ((k.map (Value.int .i64)).toArray.size == n) = true := by simp [h1]
    rw [if_pos e1]
    simp only [Program.keyLits, hu, Value.cells, hlen, hc, hnm, and_self, if_true, hr, Option.map_some]
  · cases hs
theorem KT.agg {P : Program} {kt : TypeId} {n : Nat} (hl : laidOutB P = true) (hrow : Nat.blt kt P.types.size = true) (hk : P.keyTypeAt 4 kt = true) (hkt : P.keyType kt = true) (hs : keyShape P kt n = true) : KT P kt n ekA where
  keyed := Maps.Keyed.of_law (deep_law_laid hl (m := 4) (by omega) (Nat.le_of_ble_eq_true hrow) hk (by
    unfold keyShape at hs
    split at hs
    · rename_i hu; rw [hu]
    · rename_i hu; rw [hu]
    · cases hs))
  read := fun k h => keyOf_shape hs hkt (Nat.ble_eq_true_of_le (by have := Nat.le_of_ble_eq_true hrow; omega)) h
  inj := fun k k' _ _ e => by
    have e := congrArg Array.toList (Value.agg.inj e)
    have key : ∀ (a b : List Int), a.map (Value.int .i64) = b.map (Value.int .i64) → a = b := by
      intro a
      induction a with
      | nil => intro b h; cases b with
        | nil => rfl
        | cons _ _ => simp at h
      | cons x a ih => intro b h; cases b with
        | nil => simp at h
        | cons y b => simp only [List.map_cons, List.cons.injEq, Value.int.injEq, true_and] at h; rw [h.1, ih b h.2]
    exact key _ _ e
structure MR (n : Nat) (ek : List Int → Value) (m : Mp) (es : Array MapEntry) (ck : Nat) : Prop where
  st : MapKept.Stamped es ck
  mem : ∀ p ∈ m, ∃ e ∈ es.toList, e.key = ek p.1 ∧ e.val = .int .i64 p.2
  mem' : ∀ e ∈ es.toList, ∃ p ∈ m, e.key = ek p.1 ∧ e.val = .int .i64 p.2
  len : es.size = m.length
  srt : Srt m
  okk : ∀ p ∈ m, Kok n p.1
section
variable {P : Program} {kt : TypeId} {n : Nat} {ek : List Int → Value} {m : Mp} {es : Array MapEntry} {ck : Nat}
theorem MR.empty : MR n ek [] #[] 0 := ⟨MapKept.stamped_empty 0, by simp, by simp, rfl, List.Pairwise.nil, by simp⟩
theorem MR.keys (h : MR n ek m es ck) (K : KT P kt n ek) : ∀ e ∈ es.toList, ∃ l, keyOf P kt e.key = some l := fun e he => by
  obtain ⟨p, hp, h1, _⟩ := h.mem' e he
  obtain ⟨l, hl⟩ := K.read p.1 (h.okk p hp)
  exact ⟨l, by rw [h1]; exact hl⟩
/-- is the key there? -/
theorem MR.find (h : MR n ek m es ck) (K : KT P kt n ek) {k : List Int} (hk : Kok n k) (w : World) :
    ((Instr.findKey kt (ek k) es.toList).run P w = .ok none w ∧ (∀ p ∈ m, p.1 ≠ k) ∧ ∀ e ∈ es.toList, e.key ≠ ek k) ∨
    ∃ j e v, (Instr.findKey kt (ek k) es.toList).run P w = .ok (some (j, .int .i64 v)) w ∧ es.toList[j]? = some e ∧ e.key = ek k ∧ e.val = .int .i64 v ∧ (k, v) ∈ m := by
  obtain ⟨l, hl⟩ := K.read k hk
  rcases K.keyed.find w hl es.toList (h.keys K) with ⟨h1, h2⟩ | ⟨j, e, h1, h2, h3⟩
  · refine .inl ⟨h1, fun p hp e => ?_, h2⟩
    obtain ⟨x, hx, hx1, _⟩ := h.mem p hp
    exact h2 x hx (by rw [hx1, e])
  · obtain ⟨p, hp, hp1, hp2⟩ := h.mem' e (List.mem_of_getElem? h2)
    have hpk : p.1 = k := K.inj _ _ (h.okk p hp) hk (by rw [← hp1, h3])
    refine .inr ⟨j, e, p.2, ?_, h2, h3, hp2, ?_⟩
    · rw [h1, hp2]
    · rw [← hpk]; exact hp
theorem MR.check (K : KT P kt n ek) {k : List Int} (hk : Kok n k) (em : Bool) (w : World) : (Instr.checkKey em 10000 kt (ek k)).run P w = .ok () w := by
  obtain ⟨l, hl⟩ := K.read k hk
  exact K.keyed.check w em hl
theorem MR.stays (K : KT P kt n ek) {k : List Int} (hk : Kok n k) (w : World) : (Instr.keyThatStays (ek k) (ek k)).run P w = .ok (ek k) w := by
  obtain ⟨l, hl⟩ := K.read k hk
  exact K.keyed.stays w hl
/-- an entry's value is written -/
theorem MR.set (h : MR n ek m es ck) (K : KT P kt n ek) {k : List Int} (hk : Kok n k) {j : Nat} {e0 : MapEntry} (hj : es.toList[j]? = some e0) (he : e0.key = ek k) (v : Int) (g : MapEntry → MapEntry) (hg : g e0 = ⟨ek k, .int .i64 v, e0.born⟩) (hgb : ∀ e ∈ es.toList, (g e).born = e.born) :
    MR n ek (mput m k v) (es.modify j g) ck := by
  have hmem0 := List.mem_of_getElem? hj
  have hjl := (List.getElem?_eq_some_iff.1 hj).1
  have hja : es[j]? = some e0 := by simpa using hj
  obtain ⟨p0, hp0, hp01, _⟩ := h.mem' e0 hmem0
  have hp0k : p0.1 = k := K.inj _ _ (h.okk p0 hp0) hk (by rw [← hp01, he])
  have hst := (MapKept.stamped_iff es ck).1 h.st
  have hto : (es.modify j g).toList = es.toList.set j ⟨ek k, .int .i64 v, e0.born⟩ := by
    rw [Array.toList_modify, List.modify_eq_set]
    simp [hj, hg]
  have hother : ∀ i e, es.toList[i]? = some e → i ≠ j → e.key ≠ ek k := fun i e hi hne hek => by
    have hp := hst.2.2
    obtain ⟨hil, hi2⟩ := List.getElem?_eq_some_iff.1 hi
    obtain ⟨hjl, hj2⟩ := List.getElem?_eq_some_iff.1 hj
    rcases Nat.lt_or_gt_of_ne hne with hlt | hgt
    · exact List.pairwise_iff_getElem.1 hp i j hil hjl hlt (by rw [hi2, hj2, hek, he])
    · exact List.pairwise_iff_getElem.1 hp j i hjl hil hgt (by rw [hi2, hj2, hek, he])
  refine ⟨MapKept.stamped_modify h.st j g hgb fun e he' hje => ?_, fun p hp => ?_, fun e he' => ?_, ?_, srt_mput h.srt, fun p hp => ?_⟩
  · rw [hja] at hje
    cases hje
    rw [hg, he]
  · rcases (mem_mput h.srt).1 hp with rfl | ⟨hp, hne⟩
    · refine ⟨⟨ek k, .int .i64 v, e0.born⟩, ?_, rfl, rfl⟩
      rw [hto]
      exact List.mem_of_getElem? (i := j) (by rw [List.getElem?_set, if_pos rfl, if_pos hjl])
    · obtain ⟨x, hx, hx1, hx2⟩ := h.mem p hp
      refine ⟨x, ?_, hx1, hx2⟩
      obtain ⟨i, hi⟩ := List.mem_iff_getElem?.1 hx
      have hij : i ≠ j := fun e => by
        subst e
        rw [hj] at hi
        cases hi
        exact hne (K.inj _ _ (h.okk p hp) hk (by rw [← hx1, he]))
      rw [hto]
      exact List.mem_of_getElem? (i := i) (by rw [List.getElem?_set_ne (Ne.symm hij)]; exact hi)
  · rw [hto] at he'
    obtain ⟨i, hi⟩ := List.mem_iff_getElem?.1 he'
    rw [List.getElem?_set] at hi
    by_cases hij : j = i
    · subst hij
      simp only [if_true, hjl] at hi
      cases hi
      exact ⟨(k, v), (mem_mput h.srt).2 (.inl rfl), rfl, rfl⟩
    · rw [if_neg hij] at hi
      obtain ⟨p, hp, hp1, hp2⟩ := h.mem' e (List.mem_of_getElem? hi)
      refine ⟨p, (mem_mput h.srt).2 (.inr ⟨hp, fun e2 => hother i e hi (Ne.symm hij) (by rw [hp1, e2])⟩), hp1, hp2⟩
  · rw [Array.size_modify, h.len, length_mput h.srt, if_pos]
    exact mhas_iff.2 ⟨p0.2, by rw [← hp0k]; exact hp0⟩
  · rcases (mem_mput h.srt).1 hp with rfl | ⟨hp, _⟩
    · exact hk
    · exact h.okk p hp
/-- a new entry -/
theorem MR.push (h : MR n ek m es ck) {k : List Int} (hk : Kok n k) (hno : ∀ p ∈ m, p.1 ≠ k) (hne : ∀ e ∈ es.toList, e.key ≠ ek k) (v : Int) : MR n ek (mput m k v) (es.push ⟨ek k, .int .i64 v, ck⟩) (ck + 1) := by
  refine ⟨MapKept.stamped_push h.st hne, fun p hp => ?_, fun e he => ?_, ?_, srt_mput h.srt, fun p hp => ?_⟩
  · rcases (mem_mput h.srt).1 hp with rfl | ⟨hp, _⟩
    · exact ⟨⟨ek k, .int .i64 v, ck⟩, by simp, rfl, rfl⟩
    · obtain ⟨x, hx, hx1, hx2⟩ := h.mem p hp
      exact ⟨x, by simp [Array.mem_toList_iff.1 hx], hx1, hx2⟩
  · simp only [Array.toList_push, List.mem_append, List.mem_singleton] at he
    rcases he with he | rfl
    · obtain ⟨p, hp, hp1, hp2⟩ := h.mem' e he
      exact ⟨p, (mem_mput h.srt).2 (.inr ⟨hp, hno p hp⟩), hp1, hp2⟩
    · exact ⟨(k, v), (mem_mput h.srt).2 (.inl rfl), rfl, rfl⟩
  · rw [Array.size_push, h.len, length_mput h.srt, if_neg]
    intro hh
    obtain ⟨u, hu⟩ := mhas_iff.1 hh
    exact hno _ hu rfl
  · rcases (mem_mput h.srt).1 hp with rfl | ⟨hp, _⟩
    · exact hk
    · exact h.okk p hp
variable {w : World} {b : Nat}
theorem run_updateM {t e : TypeId} (h : MR n ek m es ck) (K : KT P kt n ek) (ht : P.underlying t = some (.map kt e)) (hb : w.heap[b]? = some (.map es ck)) {k : List Int} (hk : Kok n k) (v : Int) :
    ∃ es' ck', (Instr.mapUpdate t (.map (some b)) (ek k) (.int .i64 v)).run P w = .ok () (w.putObj b (.map es' ck')) ∧ MR n ek (mput m k v) es' ck' := by
  rcases h.find K hk w with ⟨h1, h2, h3⟩ | ⟨j, e0, v0, h1, h4, h5, h6, h7⟩
  · refine ⟨_, _, ?_, h.push hk h2 h3 v⟩
    simp [Instr.mapUpdate, run_underlying ht, MapKept.run_getObj_map hb, MR.check K hk, h1, MapKept.run_setObj_map _ hb, World.putObj]
  · have hja : es[j]? = some e0 := by simpa using h4
    refine ⟨_, _, ?_, h.set K hk h4 h5 v (fun e => { e with key := ek k, val := .int .i64 v }) rfl (fun _ _ => rfl)⟩
    simp [Instr.mapUpdate, run_underlying ht, MapKept.run_getObj_map hb, MR.check K hk, h1, hja, h5, MR.stays K hk, MapKept.run_setObj_map _ hb, World.putObj]
end
end Go.Dec
end
section
namespace Go.Dec
open Go Go.RowKit
/-- facts on a map type: key, element, an element's zero -/
def mpT (P : Program) (t : TypeId) : Option (TypeId × TypeId) :=
  match P.underlying t with
  | some (.map k e) => (match P.info? e with | some i => (match i.zero with | some (.int .i64 0) => some (k, e) | _ => none) | none => none)
  | _ => none
theorem mpT_spec {P : Program} {t k e : TypeId} (h : mpT P t = some (k, e)) : ∃ i, P.underlying t = some (.map k e) ∧ P.info? e = some i ∧ i.zero = some (.int .i64 0) := by
  unfold mpT at h
  split at h
  · rename_i k' e' hu
    split at h
    · rename_i i hi
      split at h
      · rename_i hz
        simp only [Option.some.injEq, Prod.mk.injEq] at h
        obtain ⟨rfl, rfl⟩ := h
        exact ⟨i, hu, hi, hz⟩
      · cases h
    · cases h
  · cases h
/-- a map as data -/
def MD (n : Nat) (ek : List Int → Value) (H : Hp) (v : Value) (m : Mp) : Prop := (v = .map none ∧ m = []) ∨ ∃ b es ck, v = .map (some b) ∧ H b = some (.map es ck) ∧ MR n ek m es ck
theorem MD.mono {n : Nat} {ek : List Int → Value} {H H' : Hp} (h : HSub H H') {v : Value} {m : Mp} (hm : MD n ek H v m) : MD n ek H' v m :=
  hm.imp id fun ⟨b, es, ck, h1, h2, h3⟩ => ⟨b, es, ck, h1, h.le _ _ h2, h3⟩
theorem MD.nil {n : Nat} {ek : List Int → Value} {H : Hp} : MD n ek H (.map none) [] := .inl ⟨rfl, rfl⟩
theorem MD.one {n : Nat} {ek : List Int → Value} {H : Hp} {v : Value} {m : Mp} (h : MD n ek H v m) : v.oneCell' = true := by
  rcases h with ⟨rfl, _⟩ | ⟨b, es, ck, rfl, _⟩ <;> rfl
theorem MD.vc {n : Nat} {ek : List Int → Value} {H : Hp} {v : Value} {m : Mp} (h : MD n ek H v m) : vcells v = [v] := by
  rcases h with ⟨rfl, _⟩ | ⟨b, es, ck, rfl, _⟩ <;> rfl
section
variable {q : Md} {P : Program} {ro : Option Nat} {N : Nat} {ds : List Deferred} {B : Bs} {H : Hp} {ops : List Oper} {Q : Exit → Act → World → Prop} {rest : List Oper} {f : Nat → Value} {bs : List (Nat × Obj)} {gs : List GS}
variable {d : Nat} {t : TypeId} {p : String} {af : Array Edge} {g : Option (Nat × Bool)} {kt : TypeId} {n : Nat} {ek : List Int → Value} {m : Mp} {es : Array MapEntry} {ck : Nat}
theorem JL.makeMap {t' : TypeId} (hw : Want ops f g) (hd : Nat.blt d N = true)
    (h : ∀ b, JL .plain P N ds B H ops Q rest (upd f d (.map (some b))) ((b, .map #[] 0) :: bs) gs) : JL .plain P N ds B H ops Q (⟨some d, .makeMap t' none, t, p, af, g⟩ :: rest) f bs gs :=
  .step hw fun a w ha hs => by
    unfold Oper.wp
    have hr : (execOp (ev f) ⟨some d, .makeMap t' none, t, p, af, g⟩).run P w = .ok (.value (.map (some w.heap.size))) (w.alloc (.map #[] 0)) := by
      simp [execOp, Instr.makeMap]
    rw [ha.eval, hr]
    exact h _ _ _ (ha.put hd _) (hs.alloc _)
/-- where the map lies: in an own block, or in the data -/
inductive MAt (H : Hp) (bs : List (Nat × Obj)) (b : Nat) (o : Obj) : Prop
  | own (i : Nat) (hi : bs[i]? = some (b, o))
  | data (h : H b = some o)
theorem MAt.at {b : Nat} {o : Obj} (h : MAt H bs b o) {w : World} (hs : St B H bs gs w) : w.heap[b]? = some o := by
  cases h with
  | own i hi => exact (hs.own _ (List.mem_of_getElem? hi)).1
  | data h => exact hs.hle.le _ _ h
theorem JL.updateM {od : Option Nat} {t' e : TypeId} {x ix y : Operand} (i : Nat) {b : Nat} {k : List Int} {v : Int} (ht : mpT P t' = some (kt, e)) (K : KT P kt n ek) (hx : ev f x = .map (some b)) (hb : bs[i]? = some (b, .map es ck)) (hm : MR n ek m es ck) (hi : ev f ix = ek k) {u : Unit} (hk : kok n k = some u) (hy : ev f y = .int .i64 v) (hw : Want ops f g) (hd : od = none)
    (h : ∀ es' ck', MR n ek (mput m k v) es' ck' → JL .plain P N ds B H ops Q rest f (bs.set i (b, .map es' ck')) gs) : JL .plain P N ds B H ops Q (⟨od, .mapUpdate t' x ix y, t, p, af, g⟩ :: rest) f bs gs :=
  .step hw fun a w ha hs => by
    obtain ⟨_, h1, _, _⟩ := mpT_spec ht
    obtain ⟨es', ck', hr, hm'⟩ := run_updateM hm K h1 (hs.own _ (List.mem_of_getElem? hb)).1 (kok_some hk) v
    unfold Oper.wp
    subst hd
    have hr2 : (execOp (ev f) ⟨none, .mapUpdate t' x ix y, t, p, af, g⟩).run P w = .ok .skip (w.putObj b (.map es' ck')) := by
      simp [execOp, hx, hi, hy, hr]
    rw [ha.eval, hr2]
    exact h es' ck' hm' a _ ha (hs.put _ hb)
/-- what is known while a loop over a map is under way: m0: what lay there at its start, d: what has come -/
structure IR (n : Nat) (ek : List Int → Value) (m0 m : Mp) (es : Array MapEntry) (ck since : Nat) (seen : Array Nat) (c0 : Nat) (d : Mp) : Prop where
  hold : ∀ x ∈ es.toList, x.born < since
  sc : since ≤ c0
  sk : since ≤ ck
  sub : ∀ p ∈ d, p ∈ m0
  nd : d.Nodup
  seen : ∀ e ∈ es.toList, ∀ p ∈ m, e.key = ek p.1 → (p ∈ d ↔ seen.contains e.born = true)
  left : ∀ p ∈ m0, p ∉ d → p ∈ m
  old : ∀ p ∈ m, p ∈ m0
  srt : Srt m0
theorem IR.start (h : MR n ek m es ck) : IR n ek m m es ck ck #[] ck [] := ⟨((MapKept.stamped_iff es ck).1 h.st).1, Nat.le_refl _, Nat.le_refl _, by simp, .nil, by simp, fun _ h _ => h, fun _ h => h, h.srt⟩
theorem IR.drop {m0 : Mp} {since c0 : Nat} {seen : Array Nat} {d : Mp} {es' : Array MapEntry} {x : List Int × Int} (h : IR n ek m0 m es ck since seen c0 d) (hs : es'.toList.Sublist es.toList) (hx : x ∈ d) : IR n ek m0 (mdel m x.1) es' ck since seen c0 d :=
  ⟨fun y hy => h.hold y (hs.subset hy), h.sc, h.sk, h.sub, h.nd, fun e he p hp => h.seen e (hs.subset he) p (mem_mdel.1 hp).1, fun p hp hn => mem_mdel.2 ⟨h.left p hp hn, fun e => hn (by rw [srt_inj h.srt hp (h.sub x hx) e]; exact hx)⟩, fun p hp => h.old p (mem_mdel.1 hp).1, h.srt⟩
end
end Go.Dec
end
section
namespace Go.Dec
open Go Go.RowKit
theorem Kok.one {k : List Int} (h : Kok 1 k) : ∃ x, k = [x] := by
  match k, h.1 with
  | [x], _ => exact ⟨x, rfl⟩
section
variable {q : Md} {P : Program} {ro : Option Nat} {N : Nat} {ds : List Deferred} {B : Bs} {H : Hp} {ops : List Oper} {Q : Exit → Act → World → Prop} {rest : List Oper} {f : Nat → Value} {bs : List (Nat × Obj)} {gs : List GS}
variable {d : Nat} {t : TypeId} {p : String} {af : Array Edge} {g : Option (Nat × Bool)}
def XB (P : Program) (k : Nat) (vs : List Value) (H : Hp) (Res : Hp → Value → List (Nat × Obj) → Prop) : Prop :=
  ∀ w, HLe H w → Calls P k vs.toArray w fun en w' => ∃ H' v bs', en = .returned v ∧ St ⟨w, H⟩ H' bs' [] w' ∧ Res H' v bs'
abbrev RetB (B : Bs) (Res : Hp → Value → List (Nat × Obj) → Prop) : Ending → World → Prop := fun en w' => ∃ H' v bs', en = .returned v ∧ St B H' bs' [] w' ∧ Res H' v bs'
theorem XB.of {k N : Nat} {fn : Func} {c : Code} {vs : List Value} {H : Hp} {Res : Hp → Value → List (Nat × Obj) → Prop} (hf : P.funcs[k]? = some fn) (hN : fn.ntmps = N) (hb : fn.body = some c) (hn : Nat.ble vs.length N = true)
    (h : ∀ w, JC P none N [] ⟨w, H⟩ H c (bodyPost P fn (RetB ⟨w, H⟩ Res)) (frame0 vs) [] []) : XB P k vs H Res := fun w hH => by
  subst hN
  have hn := Nat.le_of_ble_eq_true hn
  exact (callsIn_wide (n := 0)).1 (callsIn_of_wp hf hb trivial (h w (noOut_body (fun w' hq => by obtain ⟨_, _, _, h, _⟩ := hq; cases h) (fun c w' hq => by obtain ⟨_, _, _, h, _⟩ := hq; cases h)) _ w (fr_start hn) (St.start hH)))
theorem MD.ins {n : Nat} {ek : List Int → Value} {b : Nat} {es : Array MapEntry} {ck : Nat} {m : Mp} (h : MR n ek m es ck) : MD n ek (ins H b (.map es ck)) (.map (some b)) m := .inr ⟨b, es, ck, rfl, by rw [ins_at, if_pos rfl], h⟩
theorem MD.get {n : Nat} {ek : List Int → Value} {v : Value} {m : Mp} (h : MD n ek H v m) (hne : m ≠ []) : ∃ b es ck, v = .map (some b) ∧ H b = some (.map es ck) ∧ MR n ek m es ck := h.resolve_left fun e => hne e.2
theorem SL.fz {α : Type} {H H' : Hp} {sz : Nat} {R : Rl α} (hR : ∀ cs x, R H cs x → R H' cs x) (hf : H'.fz = H.fz) {v : Value} {l : List α} (h : SL H sz R v l) : SL H' sz R v l := by
  obtain ⟨a, c, h1, h2, h3⟩ := h
  refine ⟨a, c, h1, h2, h3.imp id ?_⟩
  rintro ⟨b, o, h4, h5⟩
  refine ⟨b, o, h4, fun i x hi => ?_⟩
  obtain ⟨cs, ⟨c0, e, fz, k0, k1⟩, k2, k3⟩ := h5 i x hi
  exact ⟨cs, ⟨c0, e, fz, by rw [hf]; exact k0, k1⟩, k2, hR _ _ k3⟩
end
end Go.Dec
end
section
namespace Go.Dec
open Go Go.RowKit
def FSub (H H' : Hp) : Prop := ∀ b o, H b = some o → H' b = some o
theorem Cells.fsub {H H' : Hp} (h : FSub H H') {b o : Nat} {l : List Value} (hc : Cells H b o l) : Cells H' b o l := by
  obtain ⟨c, e, fz, h1, h2⟩ := hc; exact ⟨c, e, fz, h _ _ h1, h2⟩
def Fzd {α : Type} (R : Rl α) : Prop := ∀ H H', FSub H H' → ∀ cs x, R H cs x → R H' cs x
theorem SL.fsub {α : Type} {H H' : Hp} {sz : Nat} {R : Rl α} (hR : Fzd R) (h : FSub H H') {v : Value} {l : List α} (hs : SL H sz R v l) : SL H' sz R v l := by
  obtain ⟨a, c, h1, h2, h3⟩ := hs
  refine ⟨a, c, h1, h2, h3.imp id ?_⟩
  rintro ⟨b, o, h4, h5⟩
  exact ⟨b, o, h4, fun i x hi => let ⟨cs, k1, k2, k3⟩ := h5 i x hi; ⟨cs, k1.fsub h, k2, hR _ _ h _ _ k3⟩⟩
theorem RInt.fz : Fzd RInt := fun _ _ _ _ _ h => h
theorem RBool.fz : Fzd RBool := fun _ _ _ _ _ h => h
theorem RSl.fz {α : Type} {sz : Nat} {R : Rl α} (hR : Fzd R) : Fzd (RSl sz R) := by
  rintro H H' h cs x ⟨v, h1, h2⟩
  exact ⟨v, h1, SL.fsub hR h h2⟩
section
variable {P : Program} {N : Nat} {B : Bs} {H : Hp} {f : Nat → Value} {bs : List (Nat × Obj)} {gs : List GS}
end
theorem CH.take {α : Type} {H : Hp} {sz : Nat} {R : Rl α} {xs : List Value} {l : List α} (h : CH H sz R xs l) {k : Nat} (hk : k ≤ l.length) : CH H sz R (xs.take (k * sz)) (l.take k) := by
  have hle : k * sz ≤ l.length * sz := Nat.mul_le_mul_right _ hk
  refine ⟨by rw [List.length_take, List.length_take, h.1, Nat.min_eq_left hle, Nat.min_eq_left hk], fun i x hi => ?_⟩
  rw [List.getElem?_take] at hi
  split at hi
  · rename_i hik
    obtain ⟨cs, h1, h2, h3⟩ := h.2 i x hi
    refine ⟨cs, h1, h2, fun j v hv => ?_⟩
    have hj : j < cs.length := (List.getElem?_eq_some_iff.1 hv).1
    have : (i + 1) * sz ≤ k * sz := Nat.mul_le_mul_right _ (by omega)
    rw [Nat.succ_mul] at this
    rw [List.getElem?_take, if_pos (by omega)]
    exact h3 j v hv
  · cases hi
section
variable {P : Program} {N : Nat} {ds : List Deferred} {B : Bs} {H : Hp} {ops : List Oper} {Q : Exit → Act → World → Prop} {rest : List Oper} {f : Nat → Value} {bs : List (Nat × Obj)} {gs : List GS}
variable {d : Nat} {t : TypeId} {p : String} {af : Array Edge} {g : Option (Nat × Bool)}
end
end Go.Dec
end
section
namespace Go.Dec
/-- from some fuel on it yields y -/
def Ev {β : Type} (F : Nat → Option β) (y : β) : Prop := ∃ N, ∀ n, N ≤ n → F n = some y
theorem Ev.some {β : Type} (y : β) : Ev (fun _ => Option.some y) y := ⟨0, fun _ _ => rfl⟩
theorem Ev.of {β : Type} {F : Nat → Option β} {y : β} (h : ∀ n, F n = Option.some y) : Ev F y := ⟨0, fun n _ => h n⟩
theorem Ev.bind {α β : Type} {F : Nat → Option α} {K : Nat → α → Option β} {x : α} {y : β} (h : Ev F x) (k : Ev (fun n => K n x) y) : Ev (fun n => (F n).bind (K n)) y := by
  obtain ⟨N, hN⟩ := h
  obtain ⟨M, hM⟩ := k
  refine ⟨max N M, fun n hn => ?_⟩
  show (F n).bind (K n) = _
  rw [hN n (by omega)]
  exact hM n (by omega)
theorem Ev.get {β : Type} {F : Nat → Option β} {y : β} (h : Ev F y) : ∃ n, F n = Option.some y := let ⟨N, hN⟩ := h; ⟨N, hN N (Nat.le_refl _)⟩
/-- loops: the step's fuel and the loop's own -/
def EvL {S R : Type} (step : Nat → S → Option (S ⊕ R)) (s : S) (r : R) : Prop := ∃ N, ∀ n m, N ≤ n → N ≤ m → loopO m (step n) s = Option.some r
theorem EvL.done {S R : Type} {step : Nat → S → Option (S ⊕ R)} {s : S} {r : R} (h : Ev (fun n => step n s) (.inr r)) : EvL step s r := by
  obtain ⟨N, hN⟩ := h
  refine ⟨N + 1, fun n m hn hm => ?_⟩
  obtain ⟨m, rfl⟩ : ∃ k, m = k + 1 := ⟨m - 1, by omega⟩
  unfold loopO
  have := hN n (by omega)
  simp only at this
  rw [this]
theorem EvL.next {S R : Type} {step : Nat → S → Option (S ⊕ R)} {s s' : S} {r : R} (h : Ev (fun n => step n s) (.inl s')) (k : EvL step s' r) : EvL step s r := by
  obtain ⟨N, hN⟩ := h
  obtain ⟨M, hM⟩ := k
  refine ⟨max N M + 1, fun n m hn hm => ?_⟩
  obtain ⟨m, rfl⟩ : ∃ k, m = k + 1 := ⟨m - 1, by omega⟩
  unfold loopO
  have := hN n (by omega)
  simp only at this
  rw [this]
  exact hM n m (by omega) (by omega)
theorem EvL.ev {S R : Type} {step : Nat → S → Option (S ⊕ R)} {s : S} {r : R} (h : EvL step s r) : Ev (fun n => loopO n (step n) s) r :=
  let ⟨N, hN⟩ := h; ⟨N, fun n hn => hN n n hn hn⟩
/-- a loop over an index from i to k: s i is the state before round i; all rounds go on -/
theorem EvL.upto {S R : Type} {step : Nat → S → Option (S ⊕ R)} (s : Nat → S) {r : R} : ∀ (k i : Nat), i ≤ k → (∀ j, i ≤ j → j < k → Ev (fun n => step n (s j)) (.inl (s (j + 1)))) → Ev (fun n => step n (s k)) (.inr r) → EvL step (s i) r := by
  intro k i hik h hd
  obtain ⟨d, rfl⟩ : ∃ d, k = i + d := ⟨k - i, by omega⟩
  clear hik
  induction d generalizing i with
  | zero => exact .done hd
  | succ d ih =>
    refine .next (h i (Nat.le_refl _) (by omega)) (ih (i + 1) (fun j h1 h2 => h j (by omega) (by omega)) ?_)
    have : i + 1 + d = i + (d + 1) := by omega
    rw [this]; exact hd
/-- a loop that is left in round k -/
theorem EvL.left {S R : Type} {step : Nat → S → Option (S ⊕ R)} (s : Nat → S) {r : R} (k : Nat) (h : ∀ j, j < k → Ev (fun n => step n (s j)) (.inl (s (j + 1)))) (hd : Ev (fun n => step n (s k)) (.inr r)) : EvL step (s 0) r :=
  EvL.upto s k 0 (Nat.zero_le _) (fun j _ h2 => h j h2) hd
theorem geti_nat {α : Type} (l : List α) (i : Nat) : geti l (i : Int) = l[i]? := by
  unfold geti
  rw [if_pos (by omega)]
  simp
theorem w64_id {n : Int} (h1 : -9223372036854775808 ≤ n) (h2 : n ≤ 9223372036854775807) : w64 n = n := by
  have : w64 n = if n % 18446744073709551616 ≥ 9223372036854775808 then n % 18446744073709551616 - 18446744073709551616 else n % 18446744073709551616 := by
    simp [w64, Go.IntKind.wrap, Go.IntKind.signed, Go.IntKind.bits]
  rw [this]
  split <;> omega
def MonoF {β : Type} (F : Nat → Option β) : Prop := ∀ n m y, n ≤ m → F n = some y → F m = some y
theorem MonoF.const {β : Type} (o : Option β) : MonoF (fun _ => o) := fun _ _ _ _ h => h
theorem MonoF.bind {α β : Type} {F : Nat → Option α} {K : Nat → α → Option β} (h : MonoF F) (k : ∀ x, MonoF (fun n => K n x)) : MonoF (fun n => (F n).bind (K n)) := fun n m y hn hy => by
  obtain ⟨x, h1, h2⟩ := bind_some hy
  show (F m).bind (K m) = _
  rw [h n m x hn h1]
  exact k x n m y hn h2
theorem MonoF.loop {S R : Type} {step : Nat → S → Option (S ⊕ R)} (h : ∀ s, MonoF (fun n => step n s)) (s : S) : MonoF (fun n => loopO n (step n) s) := by
  have key : ∀ (k n m j : Nat) (s : S) (r : R), n ≤ m → k ≤ j → loopO k (step n) s = some r → loopO j (step m) s = some r := by
    intro k
    induction k with
    | zero => intro n m j s r _ _ h; simp [loopO] at h
    | succ k ih =>
      intro n m j s r hn hj hl
      obtain ⟨j, rfl⟩ : ∃ i, j = i + 1 := ⟨j - 1, by omega⟩
      unfold loopO at hl ⊢
      cases hs : step n s with
      | none => rw [hs] at hl; cases hl
      | some x =>
        rw [hs] at hl
        have := h s n m x hn hs
        simp only at this
        rw [this]
        cases x with
        | inl s' => exact ih n m j s' r hn (by omega) hl
        | inr r' => exact hl
  exact fun n m y hn hy => key n n m m s y hn hn hy
theorem MonoF.ev {β : Type} {F : Nat → Option β} (h : MonoF F) {n : Nat} {y : β} (hy : F n = some y) : Ev F y := ⟨n, fun m hm => h n m y hm hy⟩
end Go.Dec
end
section
namespace Go
section
variable {P : Program} {b : Frame} {a : Act} {k : List Item} {cs : List Frame} {w : World}
end
end Go
namespace Go.Dec
open Go Go.RowKit
section
variable {P : Program} {ro : Option Nat} {N : Nat} {ds : List Deferred} {B : Bs} {H : Hp} {Q : Exit → Act → World → Prop} {f : Nat → Value} {bs : List (Nat × Obj)} {gs : List GS}
end
section
variable {P : Program} {N : Nat} {ds : List Deferred} {B : Bs} {H : Hp} {ops : List Oper} {Q : Exit → Act → World → Prop} {rest : List Oper} {f : Nat → Value} {bs : List (Nat × Obj)} {gs : List GS}
variable {d : Nat} {t : TypeId} {p : String} {af : Array Edge} {g : Option (Nat × Bool)}
end
def mk (D : Nat) : Deferred := ⟨.collected D, #[]⟩
section
variable {P : Program} {ro : Option Nat} {N : Nat} {ds : List Deferred} {B : Bs} {H : Hp} {Q : Exit → Act → World → Prop} {f : Nat → Value} {bs : List (Nat × Obj)} {gs : List GS}
end
end Go.Dec
end
section
namespace Go.Dec
open Go Go.RowKit
/-- what stands may be read as what stood before: from the row q' (and the rows gx) back to the row q -/
def Back (q q' : GS) (gx : List GS) : Prop := ∀ B H bs gs w, St B H bs (q' :: (gx ++ gs)) w → St B H bs (q :: gs) w
theorem Back.refl (q : GS) : Back q q [] := fun _ _ _ _ _ h => h
theorem Back.trans {q q1 q2 : GS} {gx gy : List GS} (h : Back q q1 gx) (k : Back q1 q2 gy) : Back q q2 (gy ++ gx) := fun B H bs gs w hs =>
  h B H bs gs w (k B H bs (gx ++ gs) w (by rw [List.append_assoc] at hs; exact hs))
section
variable {B : Bs} {H : Hp} {bs : List (Nat × Obj)} {gs : List GS} {w w' : World}
/-- a row cut shorter -/
theorem St.cut {g cap n k sz : Nat} {e : TypeId} {xs ys : List Value} (hs : St B H bs (⟨.slice (some ⟨g, 0, none⟩) (n + k) cap, e, sz, n + k, xs ++ ys⟩ :: gs) w) (hx : xs.length = n * sz) :
    St B H bs (⟨.slice (some ⟨g, 0, none⟩) n cap, e, sz, n, xs⟩ :: gs) w := by
  refine ⟨hs.below, hs.hle, hs.ext, hs.own, hs.nodup, fun r hr => ?_, fun r hr => ?_, ?_⟩
  · rcases List.mem_cons.1 hr with rfl | hr
    · obtain ⟨_, h2⟩ := hs.row _ List.mem_cons_self
      simp only at h2
      rcases h2 with ⟨h0, _⟩ | ⟨g', cap', cur, hv, hg, hh, hn, hcap, hsz, htake⟩
      · cases h0
      · cases hv
        refine ⟨hx, .inr ⟨g, cap, cur, rfl, hg, hh, by simp only; omega, hcap, hsz, ?_⟩⟩
        have h3 : (cur.toList.take ((n + k) * sz)).take (n * sz) = (xs ++ ys).take (n * sz) := by rw [htake]
        rw [List.take_take, Nat.min_eq_left (Nat.mul_le_mul_right _ (by omega))] at h3
        rw [h3, ← hx]
        exact List.take_left
    · exact hs.row r (List.mem_cons_of_mem _ hr)
  · rcases List.mem_cons.1 hr with rfl | hr
    · exact fun b hb => hs.rfresh (⟨.slice (some ⟨g, 0, none⟩) (n + k) cap, e, sz, n + k, xs ++ ys⟩ : GS) List.mem_cons_self b hb
    · exact hs.rfresh r (List.mem_cons_of_mem _ hr)
  · have := List.pairwise_cons.1 hs.rdisj
    exact List.pairwise_cons.2 ⟨fun r hr b hb => this.1 r hr b hb, this.2⟩
theorem Back.cut {g cap n k sz : Nat} {e : TypeId} {xs ys : List Value} (hx : xs.length = n * sz) : Back ⟨.slice (some ⟨g, 0, none⟩) n cap, e, sz, n, xs⟩ ⟨.slice (some ⟨g, 0, none⟩) (n + k) cap, e, sz, n + k, xs ++ ys⟩ [] := fun _ _ _ _ _ h => h.cut hx
theorem Back.drop (q q' : GS) : Back q q' [q] := fun _ _ _ _ _ h => h.sub (List.Sublist.refl _) (List.sublist_cons_self _ _)
end
section
variable {q : Md} {P : Program} {ro : Option Nat} {N : Nat} {ds : List Deferred} {B : Bs} {H : Hp} {ops : List Oper} {Q : Exit → Act → World → Prop} {rest : List Oper} {f : Nat → Value} {bs : List (Nat × Obj)} {gs : List GS}
variable {d : Nat} {t : TypeId} {p : String} {af : Array Edge} {g : Option (Nat × Bool)}
section
variable {a0 a1 a2 a3 a4 a5 v : Value} {kd : IntKind} {tk : List Int}
end
end
end Go.Dec
end
section
namespace Go.Dec
open Go Go.RowKit
/-- what yield does -/
def YS2 {α σ ρ : Type} (P : Program) (B : Bs) (l : Nat) (V : Hp → List (Nat × Obj) → Value × Value → α → Prop) (A : Own1 σ) (Ax : Own1 ρ) (step : σ → α → Option (σ ⊕ ρ)) : Prop :=
  ∀ s x y v own tl H fr gs w, A s H fr gs → step s x = some y → V H own v x → St B H (own ++ tl ++ fr) gs w → YieldAt (FR none) 0 P l #[v.1, v.2] w (After B H A Ax (own ++ tl) y)
/-- what an iterator does: F runs the caller's step over what is yielded -/
def IT2 {α : Type} (P : Program) (k : Nat) (caps : List Value) (H0 : Hp) (V : Hp → List (Nat × Obj) → Value × Value → α → Prop) (F : ∀ (σ ρ : Type), (σ → α → Option (σ ⊕ ρ)) → σ → Option (σ ⊕ ρ)) : Prop :=
  ∀ (σ ρ : Type) (B : Bs) (A : Own1 σ) (Ax : Own1 ρ) (step : σ → α → Option (σ ⊕ ρ)) (l : Nat) (s0 : σ) (y : σ ⊕ ρ), F σ ρ step s0 = some y → YS2 P B l V A Ax step →
    ∀ H fr gs w, HSub H0 H → A s0 H fr gs → St B H fr gs w →
      CallsIn (FR none) 0 P k (#[.func (.yield l) #[] #[]] ++ caps.toArray) w fun e w' => ∃ v H' fr' gs', e = .returned v ∧ HSub H H' ∧ St B H' fr' gs' w' ∧ OneOf A Ax y H' fr' gs'
section
variable {P : Program} {ro : Option Nat} {N : Nat} {ds : List Deferred} {B : Bs} {H : Hp} {Q : Exit → Act → World → Prop} {f : Nat → Value} {bs : List (Nat × Obj)} {gs : List GS}
end
section
variable {P : Program}
/-- an iterator's contract out of its body -/
theorem IT2.of {α : Type} {k N : Nat} {fn : Func} {c : Code} {caps : List Value} {H0 : Hp} {V : Hp → List (Nat × Obj) → Value × Value → α → Prop} {F : ∀ (σ ρ : Type), (σ → α → Option (σ ⊕ ρ)) → σ → Option (σ ⊕ ρ)}
    (hf : P.funcs[k]? = some fn) (hN : fn.ntmps = N) (hb : fn.body = some c) (hn : Nat.ble (caps.length + 1) N = true) (hres : fn.results = #[])
    (h : ∀ (σ ρ : Type) (B : Bs) (A : Own1 σ) (Ax : Own1 ρ) (step : σ → α → Option (σ ⊕ ρ)) (l : Nat) (s0 : σ) (y : σ ⊕ ρ), F σ ρ step s0 = some y → YS2 P B l V A Ax step →
      ∀ H fr gs (Q : Exit → Act → World → Prop), HSub H0 H → A s0 H fr gs →
        (∀ H' f' X fr' gs', HSub H H' → OneOf A Ax y H' fr' gs' → JQ N [] B H' .ret Q f' (X ++ fr') gs' ∧ JQ N [] B H' .normal Q f' (X ++ fr') gs') →
        JC P none N [] B H c Q (frame0 (.func (.yield l) #[] #[] :: caps)) fr gs) : IT2 P k caps H0 V F := by
  intro σ ρ B A Ax step l s0 y hF hY H fr gs w hsub hA hs
  subst hN
  have hn := Nat.le_of_ble_eq_true hn
  have hargs : (#[Value.func (.yield l) #[] #[]] ++ caps.toArray) = (Value.func (.yield l) #[] #[] :: caps).toArray := by simp
  rw [hargs]
  refine callsIn_of_wp hf hb trivial (h σ ρ B A Ax step l s0 y hF hY H fr gs _ hsub hA ?_ (noOut_body (fun w' hq => by obtain ⟨_, _, _, _, h, _⟩ := hq; cases h) (fun c w' hq => by obtain ⟨_, _, _, _, h, _⟩ := hq; cases h)) _ w (fr_start (by simpa using hn)) hs)
  intro H' f' X fr' gs' k1 k2
  have out : ∀ a w, Fr fn.ntmps [] a f' → St B H' (X ++ fr') gs' w → a.defers = [] ∧ ∃ v, (results fn a.tmps).run P w = .ok v w ∧ ∃ v' H' fr' gs', Ending.returned v = .returned v' ∧ HSub H H' ∧ St B H' fr' gs' w ∧ OneOf A Ax y H' fr' gs' := fun a w ha hs' =>
    ⟨ha.defers, _, RV.results (P := P) (rs := []) (by rw [hres]) .nil ha hs', _, H', fr', gs', rfl, k1, hs'.sub (List.sublist_append_right ..) (List.Sublist.refl _), k2⟩
  exact ⟨fun _ a w ha hs' => out a w ha hs', fun _ a w ha hs' => out a w ha hs'⟩
end
section
variable {P : Program} {N : Nat} {ds : List Deferred} {B : Bs} {H : Hp} {ops : List Oper} {Q : Exit → Act → World → Prop} {rest : List Oper} {f : Nat → Value} {bs : List (Nat × Obj)} {gs : List GS}
end
section
variable {q : Md} {P : Program} {N : Nat} {ds : List Deferred} {B : Bs} {H : Hp} {ops : List Oper} {Q : Exit → Act → World → Prop} {rest : List Oper} {f : Nat → Value} {bs : List (Nat × Obj)} {gs : List GS}
variable {d : Nat} {t : TypeId} {p : String} {af : Array Edge} {g : Option (Nat × Bool)}
end
end Go.Dec
end
section
namespace Go.Dec
open Go Go.RowKit
def RK (k : IntKind) : Rl Int := fun _ cs x => cs = [.int k x]
theorem RK.mono {k : IntKind} : Mono (RK k) := fun _ _ _ _ _ h => h
theorem RK.one {k : IntKind} : ∀ (H : Hp) (cs : List Value) (x : Int), RK k H cs x → AllOne cs := by rintro H cs x rfl; exact one_cons rfl one_nil
section
variable {q : Md} {P : Program} {ro : Option Nat} {N : Nat} {ds : List Deferred} {B : Bs} {H : Hp} {ops : List Oper} {Q : Exit → Act → World → Prop} {rest : List Oper} {f : Nat → Value} {bs : List (Nat × Obj)} {gs : List GS}
variable {d : Nat} {t : TypeId} {p : String} {af : Array Edge} {g : Option (Nat × Bool)}
theorem JL.conv {src dst : TypeId} {ud : TypeDesc} {x : Operand} {k k' : IntKind} {n : Int} (h1 : P.underlying src = some ud) (h2 : P.underlying dst = some (.int k')) (hx : ev f x = .int k n) (hw : Want ops f g) (hd : Nat.blt d N = true)
    (h : JL q P N ds B H ops Q rest (upd f d (.int k' (k'.wrap n))) bs gs) : JL q P N ds B H ops Q (⟨some d, .convert src dst x, t, p, af, g⟩ :: rest) f bs gs :=
  .val hw hd (fun w _ => by simp [execOp, hx, Go.convert, run_underlying h1, run_underlying h2, Conv.intToInt]) h
theorem JL.permG {l : List Oper} {gs' : List GS} (hp : gs.Perm gs') (h : JL .plain P N ds B H ops Q l f bs gs') : JL .plain P N ds B H ops Q l f bs gs := fun a w ha hs => h a w ha (hs.permG hp)
end
end Go.Dec
end
section
namespace Go.Dec
open Go Go.RowKit
abbrev Mx := List (List Bool)
/-- so many rows, and so many columns -/
structure Mok (W : Nat) (bl : List Nat) (M : Mx) : Prop where
  len : bl.length = M.length
  row : ∀ r ∈ M, r.length = W
/-- a row of a table, as it lies in the slice of rows -/
def RBk (W : Nat) : Rl Nat := fun _ cs b => cs = [.slice (some ⟨b, 0, none⟩) W W]
theorem RBk.mono {W : Nat} : Mono (RBk W) := fun _ _ _ _ _ h => h
theorem RBk.one {W : Nat} : ∀ (H : Hp) (cs : List Value) (x : Nat), RBk W H cs x → AllOne cs := by rintro H cs x rfl; exact one_cons rfl one_nil
theorem Mok.at {W : Nat} {bl : List Nat} {M : Mx} (h : Mok W bl M) {i : Int} {r : List Bool} (hr : geti M i = some r) : (∃ b, geti bl i = some b) ∧ r.length = W := by
  unfold geti at hr ⊢
  split at hr
  · rename_i h0
    have hlt := (List.getElem?_eq_some_iff.1 hr).1
    exact ⟨⟨_, by rw [if_pos h0]; exact List.getElem?_eq_getElem (by rw [h.len]; exact hlt)⟩, h.row r (List.mem_of_getElem? hr)⟩
  · cases hr
theorem Mok.set {W : Nat} {bl : List Nat} {M : Mx} (h : Mok W bl M) {i : Int} {r r' : List Bool} (hr : geti M i = some r) (hl : r'.length = r.length) : Mok W bl (setx M i r') := by
  refine ⟨by rw [setx_len]; exact h.len, fun x hx => ?_⟩
  rcases List.mem_or_eq_of_mem_set hx with h1 | h1
  · exact h.row x h1
  · rw [h1, hl]; exact (h.at hr).2
theorem Mok.nil {W : Nat} : Mok W [] [] := ⟨rfl, by simp⟩
theorem Mok.snoc {W : Nat} {bl : List Nat} {M : Mx} (h : Mok W bl M) (b : Nat) {r : List Bool} (hr : r.length = W) : Mok W (bl ++ [b]) (M ++ [r]) := by
  refine ⟨by simp [h.len], fun x hx => ?_⟩
  rcases List.mem_append.1 hx with h1 | h1
  · exact h.row x h1
  · rw [List.mem_singleton.1 h1]; exact hr
section
variable {q : Md} {P : Program} {ro : Option Nat} {N : Nat} {ds : List Deferred} {B : Bs} {H : Hp} {ops : List Oper} {Q : Exit → Act → World → Prop} {rest : List Oper} {f : Nat → Value} {bs : List (Nat × Obj)} {gs : List GS}
variable {d : Nat} {t : TypeId} {p : String} {af : Array Edge} {g : Option (Nat × Bool)}
theorem geti_at {α : Type} {l : List α} {i : Int} {x : α} (h : geti l i = some x) : l[i.toNat]? = some x := by
  unfold geti at h
  split at h
  · exact h
  · cases h
end
end Go.Dec
end
section
namespace Go.Dec
open Go Go.RowKit
theorem Mok.grow {W : Nat} {bl : List Nat} {M l : Mx} (h : Mok W bl M) (b : Nat) {r : List Bool} (hr : r.length = W) (hl : lim (M ++ [r]) = some l) : Mok W (bl ++ [b]) l := by
  obtain ⟨rfl, _⟩ := lim_some hl
  exact h.snoc b hr
section
variable {q : Md} {P : Program} {ro : Option Nat} {N : Nat} {ds : List Deferred} {B : Bs} {H : Hp} {ops : List Oper} {Q : Exit → Act → World → Prop} {rest : List Oper} {f : Nat → Value} {bs : List (Nat × Obj)} {gs : List GS}
variable {d : Nat} {t : TypeId} {p : String} {af : Array Edge} {g : Option (Nat × Bool)}
end
end Go.Dec
end
section
namespace Go.Dec
open Go Go.RowKit
section
variable {q : Md} {P : Program} {ro : Option Nat} {N : Nat} {ds : List Deferred} {B : Bs} {H : Hp} {ops : List Oper} {Q : Exit → Act → World → Prop} {rest : List Oper} {f : Nat → Value} {bs : List (Nat × Obj)} {gs : List GS}
variable {d : Nat} {t : TypeId} {p : String} {af : Array Edge} {g : Option (Nat × Bool)}
/-- what is loaded from an own element is known by a law alone -/
theorem JL.loadGS {α : Type} {R : Rl α} (K : Value → Prop) (j : Nat) {gq : GS} {b kk off sz : Nat} {i : Int} {l : List α} {y : α} {tx : TypeId} {x : Operand} {z : Bool × Nat} (hz : aggsz P tx = some z) (hx : ev f x = .pointer (some ⟨b, kk, none⟩)) (hk : kk = 0 + i.toNat * sz + off) (hj : gs[j]? = some gq) (hb : gq.v.ownBlock = some b)
    (hch : CH H sz R gq.xs l) (hy : geti l i = some y) (hv : ∀ cs, R H cs y → ∃ v, loadw z cs off = some v ∧ K v) (hw : Want ops f g) (hd : Nat.blt d N = true) (h : ∀ v, K v → JL q P N ds B H ops Q rest (upd f d v) bs gs) : JL q P N ds B H ops Q (⟨some d, .load tx x, t, p, af, g⟩ :: rest) f bs gs := by
  have hy0 := hy
  unfold geti at hy
  split at hy
  · obtain ⟨cs, c1, c2, c3⟩ := hch.2 _ _ hy
    obtain ⟨v, hlv, hK⟩ := hv cs c2
    refine .val hw hd (fun w hs => ?_) (h v hK)
    obtain ⟨_, cap, cur, _, _, h4, _, _, _, h8⟩ := hs.rowAt hj hb
    have hhas : Has w b (i.toNat * sz) cs := fun m u hu => by
      rw [cell_of_cells h4]
      have := c3 m u hu
      rw [← h8] at this
      have := getElem?_take_of this
      simpa using this
    have := run_load_of (P := P) (w := w) hz hhas hlv
    subst hk
    rw [Nat.zero_add] at hx
    simp [execOp, hx, this]
  · cases hy
theorem JQ.permG {e : Exit} {gs' : List GS} (hp : gs.Perm gs') (h : JQ N ds B H e Q f bs gs') : JQ N ds B H e Q f bs gs := fun hQ a w ha hs => h hQ a w ha (hs.permG hp)
end
/-- gl: the rows' own slices; L: what lies in them -/
structure Rx {β : Type} (H : Hp) (sz : Nat) (e : TypeId) (R : Rl β) (gl : List GS) (L : List (List β)) : Prop where
  len : gl.length = L.length
  row : ∀ (i : Nat) (g : GS) (l : List β), gl[i]? = some g → L[i]? = some l → g.e = e ∧ g.sz = sz ∧ g.n = l.length ∧ CH H sz R g.xs l
section
variable {β : Type} {H : Hp} {sz : Nat} {e : TypeId} {R : Rl β} {gl : List GS} {L : List (List β)}
theorem Rx.mono {H' : Hp} (hR : Mono R) (hs : HSub H H') (h : Rx H sz e R gl L) : Rx H' sz e R gl L := ⟨h.len, fun i g l h1 h2 => let ⟨k1, k2, k3, k4⟩ := h.row i g l h1 h2; ⟨k1, k2, k3, CH.mono hR hs k4⟩⟩
theorem Rx.nil : Rx H sz e R [] [] := ⟨rfl, fun i g l h => by simp at h⟩
theorem Rx.snoc (h : Rx H sz e R gl L) {g : GS} {l : List β} (h1 : g.e = e) (h2 : g.sz = sz) (h3 : g.n = l.length) (h4 : CH H sz R g.xs l) : Rx H sz e R (gl ++ [g]) (L ++ [l]) := by
  have hl := h.len
  refine ⟨by simp [hl], fun i g' l' k1 k2 => ?_⟩
  by_cases hi : i < gl.length
  · rw [List.getElem?_append_left hi] at k1
    rw [List.getElem?_append_left (by omega)] at k2
    exact h.row i g' l' k1 k2
  · have hlt := (List.getElem?_eq_some_iff.1 k1).1
    simp only [List.length_append, List.length_cons, List.length_nil] at hlt
    have hi : i = gl.length := by omega
    subst hi
    rw [List.getElem?_append_right (by omega), Nat.sub_self] at k1
    rw [List.getElem?_append_right (by omega), hl, Nat.sub_self] at k2
    cases k1; cases k2
    exact ⟨h1, h2, h3, h4⟩
theorem Rx.at (h : Rx H sz e R gl L) {i : Int} {l : List β} (hl : geti L i = some l) : ∃ g, geti gl i = some g := by
  unfold geti at hl ⊢
  split at hl
  · rename_i h0
    rw [if_pos h0]
    have := (List.getElem?_eq_some_iff.1 hl).1
    have := h.len
    exact ⟨_, List.getElem?_eq_getElem (by omega)⟩
  · cases hl
theorem Rx.get (h : Rx H sz e R gl L) {i : Int} {g : GS} {l : List β} (hg : geti gl i = some g) (hl : geti L i = some l) : g.e = e ∧ g.sz = sz ∧ g.n = l.length ∧ CH H sz R g.xs l := h.row _ _ _ (geti_at hg) (geti_at hl)
theorem Rx.set (h : Rx H sz e R gl L) {i : Int} {g g' : GS} {l l' : List β} (hg : geti gl i = some g) (hl : geti L i = some l) (h1 : g'.e = g.e) (h2 : g'.sz = g.sz) (h3 : g'.n = l'.length) (h4 : CH H sz R g'.xs l') : Rx H sz e R (gl.set i.toNat g') (setx L i l') := by
  have hlen := h.len
  refine ⟨by simp [setx, hlen], fun j k m k1 k2 => ?_⟩
  unfold setx at k2
  rw [List.getElem?_set] at k1 k2
  split at k1
  · rename_i ej
    subst ej
    obtain ⟨a1, a2, _, _⟩ := h.get hg hl
    have b1 := (List.getElem?_eq_some_iff.1 (geti_at hg)).1
    have b2 := (List.getElem?_eq_some_iff.1 (geti_at hl)).1
    rw [if_pos b1] at k1
    rw [if_pos rfl, if_pos b2] at k2
    cases k1; cases k2
    exact ⟨h1.trans a1, h2.trans a2, h3, h4⟩
  · rename_i ej
    rw [if_neg ej] at k2
    exact h.row j k m k1 k2
end
section
variable {q : Md} {P : Program} {ro : Option Nat} {N : Nat} {ds : List Deferred} {B : Bs} {H : Hp} {ops : List Oper} {Q : Exit → Act → World → Prop} {rest : List Oper} {f : Nat → Value} {bs : List (Nat × Obj)} {gs : List GS}
variable {d : Nat} {t : TypeId} {p : String} {af : Array Edge} {g : Option (Nat × Bool)}
end
end Go.Dec
end
