/-
  A part of the proof of CDome: the texts EngF, EngG, EngH, EngI, EngJ, EngK, EngL, EngM, EngS, EngT, EngU.
-/
import Derived.Test.YtcipdblhopffbaaJCDome0
import Derived.ProofKit
section
namespace Go.Dec
open Go Go.RowKit

section
variable {P : Program} {N : Nat} {ds : List Deferred} {B : Bs} {H : Hp} {ops : List Oper} {Q : Exit → Act → World → Prop} {f : Nat → Value} {bs : List (Nat × Obj)} {gs : List GS}

def Ext (B : Bs) (H : Hp) : Prop := HSub B.H H ∧ ∀ b, b < B.w.heap.size → H b = B.H b

/-- less data, fewer own blocks -/
theorem St.lower {w : World} (h : St B H bs gs w) {H0 : Hp} {bs0 : List (Nat × Obj)} {gs0 : List GS} (he : Ext B H0) (hH : HSub H0 H) (hb : bs0.Sublist bs) (hg : gs0.Sublist gs) : St B H0 bs0 gs0 w := by
  have none_of : ∀ b, H b = none → H0 b = none := fun b hb => by
    cases h0 : H0 b with
    | none => rfl
    | some o => rw [hH.le b o h0] at hb; cases hb
  have k := h.sub hb hg
  exact ⟨k.below, k.hle.sub hH, he, fun p hp => ⟨(k.own p hp).1, (k.own p hp).2.1, none_of _ (k.own p hp).2.2⟩, k.nodup, k.row, fun g hg b hb => ⟨none_of _ (k.rfresh g hg b hb).1, (k.rfresh g hg b hb).2⟩, k.rdisj⟩

/-- own blocks in another order -/
theorem St.perm {w : World} (h : St B H bs gs w) {bs' : List (Nat × Obj)} (hp : bs.Perm bs') : St B H bs' gs w :=
  ⟨h.below, h.hle, h.ext, fun p hq => h.own p (hp.mem_iff.2 hq), (hp.pairwise_iff (fun hxy e => hxy e.symm)).1 h.nodup, h.row, fun g hg b hb => ⟨(h.rfresh g hg b hb).1, fun p hq => (h.rfresh g hg b hb).2 p (hp.mem_iff.2 hq)⟩, h.rdisj⟩

/-! ### one condition on the world, until a sink comes up -/
def sinkOn (ops : Array Oper) (k i : Nat) : Bool := match ops[k]? with
  | none => true
  | some o => o.after.any fun e => Region.binds .any e && e.on == i
def wpAnyK (P : Program) (ops : Array Oper) (Q : Exit → Act → World → Prop) (k : Nat) (S : World → Prop) : Nat → Array Bool → Act → World → Prop
  | 0, listed, a, w => Region.ready .any ops listed = [] ∧ Q .normal a w
  | fuel + 1, listed, a, w =>
    (Region.ready .any ops listed = [] → Q .normal a w) ∧
    ∀ i ∈ Region.ready .any ops listed, wpOp P ops Q i (fun a' w' => ((listed.setIfInBounds i true).getD k false = false → S w') ∧ wpAnyK P ops Q k S fuel (listed.setIfInBounds i true) a' w') a w
theorem wpAny_of_K {O : Array Oper} {k : Nat} {S : World → Prop} : ∀ (fuel : Nat) (listed : Array Bool) (a : Act) (w : World), wpAnyK P O Q k S fuel listed a w → wpAny P .any O Q fuel listed a w
  | 0, _, _, _, h => h
  | fuel + 1, _, _, _, h => ⟨h.1, fun i hi => wpOp_mono (fun a' w' h' => wpAny_of_K fuel _ a' w' h'.2) (h.2 i hi)⟩

theorem wpAnyK_first {O : Array Oper} {k : Nat} {S : World → Prop} {i : Nat} {oi : Oper} {v : Value} (hi : O[i]? = some oi) (hsel : ∀ (j : Nat) (o : Oper) cs b, O[j]? = some o → o.op ≠ .select cs b)
    (hk : sinkOn O k i = true) (hQ : ∀ c a w, Q (.panic c) (a.put oi.dst v) w → Q (.panic c) a w) :
    ∀ (fuel : Nat) (listed : Array Bool) (a : Act) (w : World),
      (∀ j oj, O[j]? = some oj → j ≠ i → listed.getD j true = false → (∀ e ∈ oj.after, Region.binds .any e = true → e.on ≠ i) → oi.apart O oj = true) →
      i ∈ Region.ready .any O listed → YieldsIf P O S oi v a → listed.getD k false = false → S w →
      wpAnyK P O Q k S fuel (listed.setIfInBounds i true) (a.put oi.dst v) w → wpAnyK P O Q k S (fuel + 1) listed a w := by
  -- the sink waits for number i
  have notk : ∀ (listed : Array Bool) (j : Nat), i ∈ Region.ready .any O listed → j ∈ Region.ready .any O listed → j ≠ k := by
    intro listed j hr hj e
    subst e
    obtain ⟨hjun, oj, hoj, hall⟩ := mem_ready.1 hj
    simp only [sinkOn, hoj] at hk
    obtain ⟨e, he, hb⟩ := Array.any_eq_true'.1 hk
    simp only [Bool.and_eq_true, beq_iff_eq] at hb
    have h1 := hall e he hb.1
    have h0 := (mem_ready.1 hr).1
    rw [hb.2] at h1
    rcases Nat.lt_or_ge i listed.size with h' | h'
    · simp [h'] at h0 h1; rw [h0] at h1; cases h1
    · simp [Array.getElem?_eq_none h'] at h1
  intro fuel
  induction fuel with
  | zero =>
    intro listed a w _ hr hy _ hS H
    refine ⟨fun h => (by rw [h] at hr; cases hr), fun j hj => ?_⟩
    by_cases hji : j = i
    · subst hji; exact hy.wpOp hi hS ⟨fun _ => hS, H⟩
    · have := ready_mono hj hji
      rw [H.1] at this
      cases this
  | succ fuel ih =>
    intro listed a w hfree hr hy hl hS H
    refine ⟨fun h => (by rw [h] at hr; cases hr), fun j hj => ?_⟩
    by_cases hji : j = i
    · subst hji; exact hy.wpOp hi hS ⟨fun _ => hS, H⟩
    · have h1 := H.2 j (ready_mono hj hji)
      have hjk := notk listed j hr hj
      obtain ⟨hjun, oj, hoj, hall⟩ := mem_ready.1 hj
      have hnot : ∀ e ∈ oj.after, Region.binds .any e = true → e.on ≠ i := fun e he hb heq => by
        have h1 := hall e he hb
        have h0 := (mem_ready.1 hr).1
        rw [heq] at h1
        rcases Nat.lt_or_ge i listed.size with h' | h'
        · simp [h'] at h0 h1; rw [h0] at h1; cases h1
        · simp [Array.getElem?_eq_none h'] at h1
      have h2 := wpOp_putIf hoj (hfree j oj hoj hji hjun hnot) (fun cs b => hsel i oi cs b hi) (fun cs b => hsel j oj cs b hoj) hQ hy h1
      have hfree' : ∀ k ok, O[k]? = some ok → k ≠ i → (listed.setIfInBounds j true).getD k true = false →
          (∀ e ∈ ok.after, Region.binds .any e = true → e.on ≠ i) → oi.apart O ok = true := fun k ok hk hki hun hno => by
        refine hfree k ok hk hki ?_ hno
        by_cases hjk : j = k
        · subst hjk; exact hjun
        · rw [getD_set_ne true hjk] at hun; exact hun
      have hlj : (listed.setIfInBounds j true).getD k false = false := by rw [getD_set_ne false hjk]; exact hl
      have hli : ((listed.setIfInBounds i true).setIfInBounds j true).getD k false = false := by
        rw [getD_set_ne false hjk, getD_set_ne false (notk listed i hr hr)]; exact hl
      refine wpOp_mono (fun a' w' h3 => ⟨fun _ => h3.2.1 hli, ih (listed.setIfInBounds j true) a' w' hfree' (ready_mono hr (Ne.symm hji)) h3.1 hlj (h3.2.1 hli) ?_⟩) h2
      rw [Array.setIfInBounds_comm _ _ hji]
      exact h3.2.2
theorem wpAnyK_all {O : Array Oper} {k : Nat} {S : World → Prop} {rs : List Nat} {fuel : Nat} {listed : Array Bool} {a : Act} {w : World} (hr : Region.ready .any O listed = rs) (hne : rs ≠ [])
    (h : ∀ i ∈ rs, wpOp P O Q i (fun a' w' => ((listed.setIfInBounds i true).getD k false = false → S w') ∧ wpAnyK P O Q k S fuel (listed.setIfInBounds i true) a' w') a w) : wpAnyK P O Q k S (fuel + 1) listed a w :=
  ⟨fun h0 => absurd (hr ▸ h0) hne, hr ▸ h⟩

/-- from here on, whatever order; St B H0 bs0 []: the class of worlds that stays, until number k has come up -/
def JA (P : Program) (N : Nat) (ds : List Deferred) (B : Bs) (k : Nat) (H0 : Hp) (bs0 : List (Nat × Obj)) (ops : List Oper) (Q : Exit → Act → World → Prop) (fuel : Nat) (listed : Array Bool) (H : Hp) (f : Nat → Value) (bs : List (Nat × Obj)) (gs : List GS) : Prop :=
  ∀ a w, Fr N ds a f → St B H bs gs w → wpAnyK P ops.toArray Q k (St B H0 bs0 []) fuel listed a w

variable {k : Nat} {H0 : Hp} {bs0 : List (Nat × Obj)} {fuel : Nat} {listed listed' : Array Bool}

theorem JC.mixed {ro : Option Nat} {id : Nat} {l : List Oper} (k n : Nat) (L0 : Array Bool) (bs0 : List (Nat × Obj)) (hnd : noDefer l = true) (hm : P.follows .mixedOrders = true) (hn : l.length = n) (hL : Array.replicate n false = L0)
    (h : NoOut Q → Ext B H → JA P N ds B k H bs0 l Q n L0 H f bs gs) : JC P ro N ds B H (.region id l.toArray true) Q f bs gs := fun hQ a w ha hs => by
  refine wpIn_region_draw fun t => ?_
  simp only [Region.schedule, hm, Bool.true_or, if_true]
  refine wpOpsIn_of_wpOps hnd hQ _ a _ (wpAny_sound _ t _ a _ (wpAny_of_K (k := k) (S := St B H bs0 []) _ _ _ _ ?_))
  subst hn; subst hL
  have := h hQ hs.ext a _ ha (hs.drew (w.drawn + 1))
  simpa using this

theorem JA.take (i : Nat) {o : Oper} (hQ : NoOut Q) (hi : ops[i]? = some o) (hs : Region.noSelect ops.toArray = true) (hf : Region.free .any ops.toArray listed i = true) (hr : (Region.ready .any ops.toArray listed).contains i = true)
    (hl : listed.setIfInBounds i true = listed') (hk : (sinkOn ops.toArray k i && !listed.getD k false) = true)
    (he : Ext B H0) (hH : HSub H0 H) (hb : bs0.Sublist bs)
    (h : JL (.first fun a' => ∀ w, St B H bs gs w → wpAnyK P ops.toArray Q k (St B H0 bs0 []) fuel listed' a' w) P N ds B H0 ops Q [o] f bs0 []) :
    JA P N ds B k H0 bs0 ops Q (fuel + 1) listed H f bs gs := fun a w ha hst => by
  subst hl
  obtain ⟨v, hy, hK⟩ := h a ha
  simp only [Bool.and_eq_true, Bool.not_eq_true'] at hk
  exact wpAnyK_first (by simpa using hi) (Region.noSelect_spec hs) hk.1 (fun c a' w' hq => absurd hq (hQ.2 c _ w')) _ _ _ _ (Region.free_spec (by simpa using hi) hf) (by simpa using hr) hy hk.2 (hst.lower he hH hb (List.nil_sublist _)) (hK w hst)
theorem JA.cont (h : JA P N ds B k H0 bs0 ops Q fuel listed H f bs gs) :
    JL (.first fun a' => ∀ w, St B H bs gs w → wpAnyK P ops.toArray Q k (St B H0 bs0 []) fuel listed a' w) P N ds B H0 ops Q [] f bs0 [] := fun a ha w hs => h a w ha hs

/-- where an operation has been carried out -/
def QA (P : Program) (B : Bs) (k : Nat) (H0 : Hp) (bs0 : List (Nat × Obj)) (ops : List Oper) (Q : Exit → Act → World → Prop) (fuel : Nat) (listed : Array Bool) : Exit → Act → World → Prop
  | .normal, a, w => (listed.getD k false = false → St B H0 bs0 [] w) ∧ wpAnyK P ops.toArray Q k (St B H0 bs0 []) fuel listed a w
  | e, a, w => Q e a w
theorem Oper.wp_QA {o : Oper} {a : Act} {w : World} {K : Act → World → Prop} {Q' : Exit → Act → World → Prop} (hQ : ∀ c a w, Q' (.panic c) a w → Q (.panic c) a w) (hL : LetsOut Q' → LetsOut Q) (h : o.wp P a w K Q') : o.wp P a w K Q := by
  unfold Oper.wp at *
  generalize (execOp a.eval o).run P w = r at *
  match r with
  | .ok (.value v) w' => exact h
  | .ok .skip w' => exact h
  | .ok (.defer d) w' => exact h
  | .ok (.enter k args) w' =>
    refine Calls.mono (show Calls P k args w' _ from h) fun e w'' he => ?_
    cases e with
    | returned v => exact he
    | panicked c => exact hQ c _ _ he
    | outgrown => exact hL he
  | .ok (.row row args) w' => exact h
  | .halt (.panic v) w' => exact hQ _ _ _ h
theorem wpOp_of_JL {i : Nat} {o : Oper} (hi : ops[i]? = some o) (h : JL .plain P N ds B H ops (QA P B k H0 bs0 ops Q fuel (listed.setIfInBounds i true)) [o] f bs gs) {a : Act} {w : World} (ha : Fr N ds a f) (hs : St B H bs gs w) :
    wpOp P ops.toArray Q i (fun a' w' => ((listed.setIfInBounds i true).getD k false = false → St B H0 bs0 [] w') ∧ wpAnyK P ops.toArray Q k (St B H0 bs0 []) fuel (listed.setIfInBounds i true) a' w') a w := by
  have := h a w ha hs
  unfold wpOp
  have hi' : ops.toArray[i]? = some o := by simpa using hi
  simp only [hi']
  unfold wpList at this
  split
  · rename_i hw
    rw [if_pos hw] at this
    rcases this with h1 | ⟨h1, h2⟩
    · exact .inl (Oper.wp_QA (Q' := QA P B k H0 bs0 ops Q fuel (listed.setIfInBounds i true)) (fun c a w hq => hq) (fun ⟨a, w, hq⟩ => ⟨a, w, hq⟩) h1)
    · exact .inr ⟨h1, h2.elim fun a hx => hx.elim fun w hq => ⟨a, w, hq⟩⟩
  · rename_i hw
    rw [if_neg hw] at this
    exact this

theorem JA.many (rs : List Nat) (hr : Region.ready .any ops.toArray listed = rs) (hne : rs ≠ [])
    (h : ∀ i ∈ rs, ∃ o listed', ops[i]? = some o ∧ listed.setIfInBounds i true = listed' ∧ JL .plain P N ds B H ops (QA P B k H0 bs0 ops Q fuel listed') [o] f bs gs) :
    JA P N ds B k H0 bs0 ops Q (fuel + 1) listed H f bs gs := fun a w ha hs =>
  wpAnyK_all hr hne fun j hj => by
    obtain ⟨o, l', hi, rfl, hj⟩ := h j hj
    exact wpOp_of_JL hi hj ha hs
theorem all_one {p : Nat → Prop} {i : Nat} (h : p i) : ∀ j ∈ [i], p j := fun j hj => by rw [List.mem_singleton.1 hj]; exact h
theorem all_cons {p : Nat → Prop} {i : Nat} {l : List Nat} (h : p i) (h2 : ∀ j ∈ l, p j) : ∀ j ∈ i :: l, p j := fun j hj => by
  rcases List.mem_cons.1 hj with rfl | hj
  · exact h
  · exact h2 j hj
theorem JA.one (i : Nat) {o : Oper} (hr : Region.ready .any ops.toArray listed = [i]) (hi : ops[i]? = some o) (hl : listed.setIfInBounds i true = listed') (h : JL .plain P N ds B H ops (QA P B k H0 bs0 ops Q fuel listed') [o] f bs gs) :
    JA P N ds B k H0 bs0 ops Q (fuel + 1) listed H f bs gs :=
  JA.many [i] hr (by simp) (all_one ⟨o, listed', hi, hl, h⟩)
theorem JA.after (he : Ext B H0) (hH : HSub H0 H) (hb : bs0.Sublist bs) (h : JA P N ds B k H0 bs0 ops Q fuel listed H f bs gs) :
    JL .plain P N ds B H ops (QA P B k H0 bs0 ops Q fuel listed) [] f bs gs := .nil fun a w ha hs => ⟨fun _ => hs.lower he hH hb (List.nil_sublist _), h a w ha hs⟩
theorem JA.sink (hk : listed.getD k false = true) (h : JA P N ds B k H0 bs0 ops Q fuel listed H f bs gs) :
    JL .plain P N ds B H ops (QA P B k H0 bs0 ops Q fuel listed) [] f bs gs := .nil fun a w ha hs => ⟨fun h0 => (by rw [hk] at h0; cases h0), h a w ha hs⟩
theorem JA.done (hQ : NoOut Q) (hr : Region.ready .any ops.toArray listed = []) (h : JQ N ds B H .normal Q f bs gs) : JA P N ds B k H0 bs0 ops Q fuel listed H f bs gs := fun a w ha hs => by
  cases fuel with
  | zero => exact ⟨hr, h hQ a w ha hs⟩
  | succ n => exact ⟨fun _ => h hQ a w ha hs, fun i hi => by rw [hr] at hi; cases hi⟩
theorem JA.cut (fuel' : Nat) (listed' : Array Bool) (A : Hp → (Nat → Value) → List (Nat × Obj) → List GS → Prop) (h2 : ∀ H' f' bs' gs', A H' f' bs' gs' → JA P N ds B k H0 bs0 ops Q fuel' listed' H' f' bs' gs')
    (h1 : (∀ H' f' bs' gs', A H' f' bs' gs' → JA P N ds B k H0 bs0 ops Q fuel' listed' H' f' bs' gs') → JA P N ds B k H0 bs0 ops Q fuel listed H f bs gs) : JA P N ds B k H0 bs0 ops Q fuel listed H f bs gs := h1 h2
theorem JA.norm {i : Nat} {v : Value} (h : f i = v) (h2 : JA P N ds B k H0 bs0 ops Q fuel listed H (upd f i v) bs gs) : JA P N ds B k H0 bs0 ops Q fuel listed H f bs gs := upd_self h ▸ h2
theorem JA.perm {bs' : List (Nat × Obj)} (hp : bs.Perm bs') (h : JA P N ds B k H0 bs0 ops Q fuel listed H f bs' gs) : JA P N ds B k H0 bs0 ops Q fuel listed H f bs gs := fun a w ha hs => h a w ha (hs.perm hp)
end
end Go.Dec
end
section
namespace Go.Dec
open Go Go.RowKit

section
variable {q : Md} {P : Program} {N : Nat} {ds : List Deferred} {B : Bs} {H : Hp} {ops : List Oper} {Q : Exit → Act → World → Prop} {rest : List Oper} {f : Nat → Value} {bs : List (Nat × Obj)} {gs : List GS}
variable {d : Nat} {t : TypeId} {p : String} {af : Array Edge} {g : Option (Nat × Bool)}

theorem JL.eqAgg {tx ty : TypeId} {x y : Operand} {l m : List Value} {r : Bool} (hg : P.eqGuardType P.depth tx = false) (hx : ev f x = .agg l.toArray) (hy : ev f y = .agg m.toArray) (hr : ∀ w, (Op.equal tx (.agg l.toArray) (.agg m.toArray)).run P w = .ok r w) (hw : Want ops f g) (hd : Nat.blt d N = true)
    (h : JL q P N ds B H ops Q rest (upd f d (.bool r)) bs gs) : JL q P N ds B H ops Q (⟨some d, .binOp .eql tx x y ty, t, p, af, g⟩ :: rest) f bs gs :=
  .val hw hd (fun w _ => by
    unfold execOp; simp only [hx, hy, eqGuard, binOp]; simp [run_program, hg, hr]) h
theorem JL.neAgg {tx ty : TypeId} {x y : Operand} {l m : List Value} {r : Bool} (hg : P.eqGuardType P.depth tx = false) (hx : ev f x = .agg l.toArray) (hy : ev f y = .agg m.toArray) (hr : ∀ w, (Op.equal tx (.agg l.toArray) (.agg m.toArray)).run P w = .ok r w) (hw : Want ops f g) (hd : Nat.blt d N = true)
    (h : JL q P N ds B H ops Q rest (upd f d (.bool (!r))) bs gs) : JL q P N ds B H ops Q (⟨some d, .binOp .neq tx x y ty, t, p, af, g⟩ :: rest) f bs gs :=
  .val hw hd (fun w _ => by
    unfold execOp; simp only [hx, hy, eqGuard, binOp]; simp [run_program, hg, hr]) h

/-- own blocks: two neighbours change places -/
def swapAt {α : Type} : Nat → List α → List α
  | 0, a :: b :: l => b :: a :: l
  | n + 1, a :: l => a :: swapAt n l
  | _, l => l
theorem swapAt_perm {α : Type} : ∀ (n : Nat) (l : List α), l.Perm (swapAt n l)
  | 0, [] => by simp [swapAt]
  | 0, [a] => by simp [swapAt]
  | 0, a :: b :: l => List.Perm.swap b a l
  | n + 1, [] => by simp [swapAt]
  | n + 1, a :: l => (swapAt_perm n l).cons a
theorem JQ.swap {e : Exit} (n : Nat) (h : JQ N ds B H e Q f (swapAt n bs) gs) : JQ N ds B H e Q f bs gs := fun hQ a w ha hs => h hQ a w ha (hs.perm (swapAt_perm n bs))
end

/-- a pointer that may be nil, to data -/
def PT {α : Type} (H : Hp) (R : Rl α) (v : Value) : Option α → Prop
  | none => v = .pointer none
  | some x => ∃ b o cs, v = .pointer (some ⟨b, o, none⟩) ∧ Cells H b o cs ∧ R H cs x
theorem PT.mono {α : Type} {H H' : Hp} {R : Rl α} (hR : Mono R) (h : HSub H H') {v : Value} : ∀ {o : Option α}, PT H R v o → PT H' R v o
  | none, hp => hp
  | some _, ⟨b, o, cs, h1, h2, h3⟩ => ⟨b, o, cs, h1, h2.mono h, hR _ _ h _ _ h3⟩
end Go.Dec
end
section
namespace Go.Dec
open Go Go.RowKit

section
variable {q : Md} {P : Program} {N : Nat} {ds : List Deferred} {B : Bs} {H : Hp} {ops : List Oper} {Q : Exit → Act → World → Prop} {rest : List Oper} {f : Nat → Value} {bs : List (Nat × Obj)} {gs : List GS}
variable {d : Nat} {t : TypeId} {p : String} {af : Array Edge} {g : Option (Nat × Bool)}

/-- what an own slice holds is one cell -/
theorem JL.oneG {l : List Oper} (j : Nat) {gq : GS} (hj : gs[j]? = some gq) (h : gq.v.oneCell' = true ∧ vcells gq.v = [gq.v] → JL .plain P N ds B H ops Q l f bs gs) : JL .plain P N ds B H ops Q l f bs gs := fun a w ha hs => by
  refine h ?_ a w ha hs
  obtain ⟨_, hr⟩ := hs.row gq (List.mem_of_getElem? hj)
  rcases hr with ⟨hv, _⟩ | ⟨b, cap, cur, hv, _⟩ <;> rw [hv] <;> exact ⟨rfl, rfl⟩
theorem JL.formG {l : List Oper} (j : Nat) {gq : GS} (hj : gs[j]? = some gq) (h : ∀ a n c, gq.v = .slice a n c → JL .plain P N ds B H ops Q l f bs gs) : JL .plain P N ds B H ops Q l f bs gs := fun a w ha hs => by
  obtain ⟨_, hr⟩ := hs.row gq (List.mem_of_getElem? hj)
  rcases hr with ⟨hv, _⟩ | ⟨b, cap, cur, hv, _⟩
  · exact h _ _ _ hv a w ha hs
  · exact h _ _ _ hv a w ha hs
theorem SL.vc {α : Type} {H : Hp} {sz : Nat} {R : Rl α} {v : Value} {l : List α} (hs : SL H sz R v l) : vcells v = [v] := by
  obtain ⟨a, c, rfl, _⟩ := hs; rfl

def slc {α : Type} (l : List α) (lo hi : Int) : Option (List α) := if 0 ≤ lo ∧ lo ≤ hi ∧ hi ≤ l.length then some ((l.take hi.toNat).drop lo.toNat) else none

theorem SL.slc {α : Type} {sz : Nat} {R : Rl α} {a : Option Addr} {n c : Nat} {l m : List α} {lo hi : Int} (hs : SL H sz R (.slice a n c) l) (hm : slc l lo hi = some m) :
    n = l.length ∧ n ≤ c ∧ 0 ≤ lo ∧ lo ≤ hi ∧ hi ≤ n ∧ SL H sz R (.slice (if c = lo.toNat then a else a.map (·.add (lo.toNat * sz))) (hi.toNat - lo.toNat) (c - lo.toNat)) m := by
  obtain ⟨a', c', hv, ⟨h1, h2⟩, h3⟩ := hs
  cases hv
  unfold Dec.slc at hm
  split at hm
  · rename_i hb
    obtain ⟨k0, k1, k2⟩ := hb
    cases hm
    refine ⟨rfl, h2, k0, k1, k2, ?_⟩
    have hlen : ((l.take hi.toNat).drop lo.toNat).length = hi.toNat - lo.toNat := by simp; omega
    refine ⟨_, _, by rw [hlen], ⟨by rw [hlen]; omega, by rw [hlen]; omega⟩, ?_⟩
    by_cases hc : c = lo.toNat
    · left
      apply List.eq_nil_of_length_eq_zero
      rw [hlen]; omega
    · rcases h3 with rfl | ⟨b, o, rfl, h5⟩
      · left; simp
      · right
        refine ⟨b, o + lo.toNat * sz, by rw [if_neg hc]; simp [Addr.add_mid], fun i x hi' => ?_⟩
        rw [List.getElem?_drop, List.getElem?_take] at hi'
        split at hi'
        · obtain ⟨cs, e1, e2, e3⟩ := h5 _ x hi'
          exact ⟨cs, by rw [Nat.add_mul] at e1; rw [Nat.add_assoc]; exact e1, e2, e3⟩
        · cases hi'
  · cases hm

theorem run_bound {x : Value} {k : IntKind} {i : Int} {y : Nat} {code : BoundsCode} (hx : x = .int k i) (h0 : 0 ≤ i) (h1 : i ≤ y) (w : World) : (Instr.sliceBound x y code).run P w = .ok i.toNat w := by
  subst hx
  simp [Instr.sliceBound, asIntOf, h0, h1]

theorem JL.sliceLo {α : Type} {tx e : TypeId} {x lo : Operand} {k : IntKind} {i : Int} {sz : Nat} {R : Rl α} {l m : List α} (ht : slT P tx = some (e, sz)) (hs : SL H sz R (ev f x) l) (hlo : ev f lo = .int k i) (hm : slc l i l.length = some m) (hw : Want ops f g) (hd : Nat.blt d N = true)
    (h : ∀ v, SL H sz R v m → JL q P N ds B H ops Q rest (upd f d v) bs gs) : JL q P N ds B H ops Q (⟨some d, .slice tx x (some lo) none none, t, p, af, g⟩ :: rest) f bs gs := by
  obtain ⟨a, c, hv, hl, h3⟩ := id hs
  rw [hv] at hs
  obtain ⟨h1, h2, k0, k1, k2, h4⟩ := hs.slc hm
  refine .val hw hd (fun w _ => ?_) (h _ h4)
  unfold slT at ht
  split at ht
  · rename_i e' hu
    split at ht
    · rename_i ti hti
      simp only [Option.some.injEq, Prod.mk.injEq] at ht
      obtain ⟨rfl, rfl⟩ := ht
      have k1' : i ≤ ((l.length : Nat) : Int) := k1
      simp [execOp, hv, Instr.sliceAt, Instr.slice, Instr.sliceBounds, run_bound hlo k0 k1', run_underlying hu, sizeOf, typeInfo, hti]
    · cases ht
  · cases ht
theorem JL.sliceHi {α : Type} {tx e : TypeId} {x hi : Operand} {k : IntKind} {i : Int} {sz : Nat} {R : Rl α} {l m : List α} (ht : slT P tx = some (e, sz)) (hs : SL H sz R (ev f x) l) (hhi : ev f hi = .int k i) (hm : slc l 0 i = some m) (hw : Want ops f g) (hd : Nat.blt d N = true)
    (h : ∀ v, SL H sz R v m → JL q P N ds B H ops Q rest (upd f d v) bs gs) : JL q P N ds B H ops Q (⟨some d, .slice tx x none (some hi) none, t, p, af, g⟩ :: rest) f bs gs := by
  obtain ⟨a, c, hv, hl, h3⟩ := id hs
  rw [hv] at hs
  obtain ⟨h1, h2, k0, k1, k2, h4⟩ := hs.slc hm
  refine .val hw hd (fun w _ => ?_) (h _ h4)
  unfold slT at ht
  split at ht
  · rename_i e' hu
    split at ht
    · rename_i ti hti
      simp only [Option.some.injEq, Prod.mk.injEq] at ht
      obtain ⟨rfl, rfl⟩ := ht
      have k2' : i ≤ ((c : Nat) : Int) := by omega
      have ha : Option.map (fun x => Addr.add x 0) a = a := by cases a <;> simp [Addr.add]
      simp [ha, execOp, hv, Instr.sliceAt, Instr.slice, Instr.sliceBounds, run_bound hhi k1 k2', run_underlying hu, sizeOf, typeInfo, hti]
    · cases ht
  · cases ht
theorem JL.sliceLoHi {α : Type} {tx e : TypeId} {x lo hi : Operand} {k k' : IntKind} {i j : Int} {sz : Nat} {R : Rl α} {l m : List α} (ht : slT P tx = some (e, sz)) (hs : SL H sz R (ev f x) l) (hlo : ev f lo = .int k i) (hhi : ev f hi = .int k' j) (hm : slc l i j = some m) (hw : Want ops f g) (hd : Nat.blt d N = true)
    (h : ∀ v, SL H sz R v m → JL q P N ds B H ops Q rest (upd f d v) bs gs) : JL q P N ds B H ops Q (⟨some d, .slice tx x (some lo) (some hi) none, t, p, af, g⟩ :: rest) f bs gs := by
  obtain ⟨a, c, hv, hl, h3⟩ := id hs
  rw [hv] at hs
  obtain ⟨h1, h2, k0, k1, k2, h4⟩ := hs.slc hm
  refine .val hw hd (fun w _ => ?_) (h _ h4)
  unfold slT at ht
  split at ht
  · rename_i e' hu
    split at ht
    · rename_i ti hti
      simp only [Option.some.injEq, Prod.mk.injEq] at ht
      obtain ⟨rfl, rfl⟩ := ht
      have k2' : j ≤ ((c : Nat) : Int) := by omega
      have k1' : i ≤ ((j.toNat : Nat) : Int) := by omega
      simp [execOp, hv, Instr.sliceAt, Instr.slice, Instr.sliceBounds, run_bound hhi (Int.le_trans k0 k1) k2', run_bound hlo k0 k1', run_underlying hu, sizeOf, typeInfo, hti]
    · cases ht
  · cases ht

theorem run_equalIn_nil (w : World) (k : Nat) {tx e : TypeId} {a : Option Addr} {n c : Nat} (ht : P.underlying tx = some (.slice e)) : (Op.equalIn (k + 1) tx (.slice a n c) (.slice none 0 0)).run P w = .ok a.isNone w := by
  cases a <;> simp [Op.equalIn, run_underlying ht]
/-- is a slice nil? -/
theorem JL.eqNil {tx ty e : TypeId} {x y : Operand} {a : Option Addr} {n c : Nat} (ht : P.underlying tx = some (.slice e)) (hx : ev f x = .slice a n c) (hy : ev f y = .slice none 0 0) (hw : Want ops f g) (hd : Nat.blt d N = true)
    (h : JL q P N ds B H ops Q rest (upd f d (.bool a.isNone)) bs gs) : JL q P N ds B H ops Q (⟨some d, .binOp .eql tx x y ty, t, p, af, g⟩ :: rest) f bs gs :=
  .val hw hd (fun w _ => by
    unfold execOp
    simp only [hx, hy, binOp]
    have := run_equalIn_nil (P := P) w 9999 (a := a) (n := n) (c := c) ht
    simp [Op.equal, Op.maxDepth, eqGuard, this]) h
end
end Go.Dec
end
section
namespace Go.Dec
open Go Go.RowKit

/-- what is said of one's own memory at a state of a loop -/
abbrev Own1 (σ : Type) := σ → Hp → List (Nat × Obj) → List GS → Prop

/-- behind a call of yield -/
def After {σ ρ : Type} (B : Bs) (H : Hp) (A : Own1 σ) (Ax : Own1 ρ) (tl : List (Nat × Obj)) (y : σ ⊕ ρ) : Ending → World → Prop
  | .returned v, w' => ∃ H' fr gs, HSub H H' ∧ St B H' (tl ++ fr) gs w' ∧ (match y with | .inl s => v = .bool true ∧ A s H' fr gs | .inr r => v = .bool false ∧ Ax r H' fr gs)
  | _, _ => False

/-- what yield does -/
def YS {α σ ρ : Type} (P : Program) (B : Bs) (l : Nat) (V : Hp → List (Nat × Obj) → Value → α → Prop) (A : Own1 σ) (Ax : Own1 ρ) (step : σ → α → Option (σ ⊕ ρ)) : Prop :=
  ∀ s x y v own tl H fr gs w, A s H fr gs → step s x = some y → V H own v x → St B H (own ++ tl ++ fr) gs w → YieldAt (FR none) 0 P l #[v] w (After B H A Ax (own ++ tl) y)

def OneOf {σ ρ : Type} (A : Own1 σ) (Ax : Own1 ρ) : σ ⊕ ρ → Hp → List (Nat × Obj) → List GS → Prop
  | .inl s => A s
  | .inr r => Ax r
/-- what an iterator does: F runs the caller's step over what is yielded -/
def IT {α : Type} (P : Program) (k : Nat) (caps : List Value) (H0 : Hp) (V : Hp → List (Nat × Obj) → Value → α → Prop) (F : ∀ (σ ρ : Type), (σ → α → Option (σ ⊕ ρ)) → σ → Option (σ ⊕ ρ)) : Prop :=
  ∀ (σ ρ : Type) (B : Bs) (A : Own1 σ) (Ax : Own1 ρ) (step : σ → α → Option (σ ⊕ ρ)) (l : Nat) (s0 : σ) (y : σ ⊕ ρ), F σ ρ step s0 = some y → YS P B l V A Ax step →
    ∀ H fr gs w, HSub H0 H → A s0 H fr gs → St B H fr gs w →
      CallsIn (FR none) 0 P k (#[.func (.yield l) #[] #[]] ++ caps.toArray) w fun e w' => ∃ v H' fr' gs', e = .returned v ∧ HSub H H' ∧ St B H' fr' gs' w' ∧ OneOf A Ax y H' fr' gs'

section
variable {P : Program} {ro : Option Nat} {N : Nat} {ds : List Deferred} {B : Bs} {H : Hp} {Q : Exit → Act → World → Prop} {f : Nat → Value} {bs : List (Nat × Obj)} {gs : List GS}

theorem St.put {w : World} (h : St B H bs gs w) {i b : Nat} {o : Obj} (o' : Obj) (hi : bs[i]? = some (b, o)) : St B H (bs.set i (b, o')) gs (w.putObj b o') := by
  have hlt := h.own_lt (List.mem_of_getElem? hi)
  exact h.setOwn hi rfl rfl rfl (by simp) (fun k hk => World.putObj_heap_other hk) (World.putObj_heap_same hlt)

/-- what is asked where a round's body is left -/
def RQ {σ ρ : Type} (B : Bs) (H : Hp) (A : Own1 σ) (Ax : ρ → Code → Hp → List (Nat × Obj) → List GS → Prop) (T : List (Nat × Obj)) (y : σ ⊕ ρ) : Exit → Act → World → Prop
  | .normal, _, w => ∃ s, y = .inl s ∧ ∃ H' fr gs, HSub H H' ∧ A s H' fr gs ∧ St B H' (fr ++ T) gs w
  | .ret, _, w => ∃ r, y = .inr r ∧ ∃ H' fr gs, HSub H H' ∧ Ax r .ret H' fr gs ∧ St B H' (fr ++ T) gs w
  | .exit id, _, w => ∃ r, y = .inr r ∧ ∃ H' fr gs, HSub H H' ∧ Ax r (.exit id) H' fr gs ∧ St B H' (fr ++ T) gs w
  | .goto t, _, w => ∃ r, y = .inr r ∧ ∃ H' fr gs, HSub H H' ∧ Ax r (.goto t) H' fr gs ∧ St B H' (fr ++ T) gs w
  | .panic _, _, _ => False
  | .outgrown, _, _ => False
theorem noOut_RQ {σ ρ : Type} {A : Own1 σ} {Ax : ρ → Code → Hp → List (Nat × Obj) → List GS → Prop} {T : List (Nat × Obj)} {y : σ ⊕ ρ} : NoOut (RQ B H A Ax T y) := ⟨fun _ _ h => h, fun _ _ _ h => h⟩

theorem St.putL {w : World} {X Y : List (Nat × Obj)} {l : Nat} {o : Obj} (o' : Obj) (h : St B H (X ++ (l, o) :: Y) gs w) : St B H (X ++ (l, o') :: Y) gs (w.putObj l o') := by
  have := h.put (i := X.length) (b := l) (o := o) o' (by simp)
  simpa using this

/-- behind the assignments of a round -/
def AP (P : Program) (l N : Nat) (B : Bs) (Q : List (Nat × Obj) → Exit → Act → World → Prop) (body : Code) (T : List (Nat × Obj)) : Act → World → Prop := fun a w =>
  ∃ H1 f1 bs1 gs1, Fr N [] a f1 ∧ St B H1 (bs1 ++ T) gs1 w ∧ ∀ T', JC P (some l) N [] B H1 body (Q T') f1 (bs1 ++ T') gs1
def NoX : Exit → Act → World → Prop := fun _ _ _ => False
theorem noOut_AP {K : Act → World → Prop} : NoOut (Exit.then K NoX) := ⟨fun _ _ h => h, fun _ _ _ h => h⟩
theorem JQ.assigned {l : Nat} {Q : List (Nat × Obj) → Exit → Act → World → Prop} {body : Code} {T : List (Nat × Obj)} (bs1 : List (Nat × Obj)) (h : ∀ T', JC P (some l) N [] B H body (Q T') f (bs1 ++ T') gs) :
    JQ N [] B H .normal (Exit.then (AP P l N B Q body T) NoX) f (bs1 ++ T) gs := fun _ _ _ ha hs => ⟨H, f, bs1, gs, ha, hs, h⟩

/-- for p := range g -/
theorem JC.rangeFunc {α σ ρ : Type} {g : Operand} {pr : Tmp} {assign body : Code} {k : Nat} {caps : List Value} {V : Hp → List (Nat × Obj) → Value → α → Prop} {F : ∀ (σ ρ : Type), (σ → α → Option (σ ⊕ ρ)) → σ → Option (σ ⊕ ρ)}
    {step : σ → α → Option (σ ⊕ ρ)} {s0 : σ} {y : σ ⊕ ρ} (hg : ev f g = .func (.func k) #[] caps.toArray) (he : Ent P k) (hit : IT P k caps H V F) (hp : Nat.blt pr N = true)
    (hF : F σ ρ step s0 = some y) (A : Own1 σ) (Ax : ρ → Code → Hp → List (Nat × Obj) → List GS → Prop) (h0 : A s0 H bs gs)
    (hbody : ∀ l s x y v own T H' fr gs', A s H' fr gs' → step s x = some y → V H' own v x → HSub H H' →
      JC P (some l) N [] B H' assign (Exit.then (AP P l N B (fun T' => RQ B H' A Ax (own ++ T') y) body T) NoX) (upd f pr v) (fr ++ (own ++ T)) gs')
    (hdone : ∀ D s H' fr gs', y = .inl s → A s H' fr gs' → HSub H H' → JQ N (⟨.collected D, #[]⟩ :: ds) B H' .normal Q f (fr ++ [(D, .deferred (some []))]) gs')
    (hstop : ∀ D r c H' fr gs', y = .inr r → Ax r c H' fr gs' → HSub H H' → JC P none N (⟨.collected D, #[]⟩ :: ds) B H' c Q f (fr ++ [(D, .deferred (some []))]) gs') :
    JC P none N ds B H (.rangeFunc g #[pr] assign body) Q f bs gs := fun hQ a w ha hs => by
  refine wpIn_rangeFunc ?_
  intro fn hfn
  have eg : ∀ args w, (callFunc k args).run P w = .ok (.enter k args) w := he
  obtain ⟨rec, hrec⟩ : ∃ rec : LoopState → Option Code → Loop, rec = fun st pe => { state := st, pending := pe, fn, tmps := a.tmps, params := #[pr], assign, body, defers := w.heap.size } := ⟨_, rfl⟩
  obtain ⟨W1, hW1⟩ : ∃ W1, (w.alloc (.deferred (some []))).alloc (.loop (rec .ready none)) = W1 := ⟨_, rfl⟩
  obtain ⟨l, hl⟩ : ∃ l, l = w.heap.size + 1 := ⟨_, rfl⟩
  obtain ⟨D, hD⟩ : ∃ D, D = w.heap.size := ⟨_, rfl⟩
  have hs1 : St B H (bs ++ [(l, .loop (rec .ready none)), (D, .deferred (some []))]) gs W1 := by
    have h1 := (hs.alloc (.deferred (some []))).alloc (.loop (rec .ready none))
    rw [hW1] at h1
    refine h1.perm ?_
    have : (w.alloc (.deferred (some []))).heap.size = l := by rw [hl]; simp
    rw [this, ← hD]
    exact (List.perm_append_comm (l₁ := [(l, Obj.loop (rec .ready none)), (D, .deferred (some []))]) (l₂ := bs))
  have fin : ∀ (st : LoopState) (pe : Option Code) {H' : Hp} {gs' : List GS} {fc : List (Nat × Obj)} {W : World}, st ≠ .busy → St B H' (fc ++ [(l, .loop (rec st pe)), (D, .deferred (some []))]) gs' W →
      ∃ W', (Instr.endLoop l).run P W = .ok pe W' ∧ St B H' (fc ++ [(D, .deferred (some []))]) gs' W' := fun st pe H' gs' fc W hne hW => by
    have hL := (hW.own (l, .loop (rec st pe)) (by simp)).1
    refine ⟨_, ?_, (hW.putL (.loop { rec st pe with state := .exhausted })).sub (bs' := fc ++ [(D, .deferred (some []))]) ?_ (List.Sublist.refl _)⟩
    · have := run_endLoop (P := P) hL (by rw [hrec]; exact hne)
      rw [hrec] at this ⊢
      exact this
    · exact (List.Sublist.refl fc).append (by simp)
  refine ⟨w.heap.size + 1, [{ target := .collected w.heap.size, args := #[] }], W1, { target := .fn (.func k) caps.toArray, args := #[.func (.yield (w.heap.size + 1)) #[] #[]] }, W1, k,
    #[.func (.yield (w.heap.size + 1)) #[] #[]] ++ caps.toArray, W1, ?_, ?_, ?_, ?_, fun h => by simp [FR] at h, ?_⟩
  · rw [← hW1, hrec]; exact run_enterLoop_outer _ _ _ _ _
  · simp only [resolve, ha.eval, hg]
    simp [go_sem, ev]
  · intro f' hf'; exact trivial
  · simp [invoke, go_sem, eg]
  · rw [← hl, ← hD]
    refine (hit σ ρ B (fun s H' fr gs' => ∃ fc, fr = fc ++ [(l, .loop (rec .ready none)), (D, .deferred (some []))] ∧ A s H' fc gs' ∧ HSub H H')
      (fun r H' fr gs' => ∃ fc c, fr = fc ++ [(l, .loop (rec .done (some c))), (D, .deferred (some []))] ∧ Ax r c H' fc gs' ∧ HSub H H') step l s0 y hF ?_ H _ gs W1 (HSub.refl _) ⟨bs, rfl, h0, HSub.refl _⟩ hs1).mono ?_
    · -- one round
      rintro s x y v own tl H' fr gs' W ⟨fc, rfl, hA, hsub⟩ hst hV hW
      have hP : St B H' (fc ++ (own ++ (tl ++ [(l, .loop (rec .ready none)), (D, .deferred (some []))]))) gs' W := hW.perm (by
        have := (List.perm_append_comm (l₁ := own ++ tl) (l₂ := fc)).append_right [(l, Obj.loop (rec .ready none)), (D, .deferred (some []))]
        simpa using this)
      have hL := (hP.own (l, .loop (rec .ready none)) (by simp)).1
      have hy := run_yield (P := P) (args := #[v]) hL (by rw [hrec]; rfl)
      rw [hrec] at hy
      refine ⟨fn, _, assign, body, hy, roundIn_of_wpIn hfn ?_⟩
      have ha' : Fr N [] { tmps := (#[pr].zip #[v]).foldl (fun tmps (t, a) => tmps.setIfInBounds t a) a.tmps, defers := [] } (upd f pr v) := by
        have := Fr.put (ds := ds) ha hp v
        refine ⟨?_, rfl, ?_⟩
        · have := this.size; simpa [Act.put] using this
        · intro i; have := this.get i; simpa [Act.put] using this
      refine wpIn_mono (hbody l s x y v own _ H' fc gs' hA hst hV hsub noOut_AP _ W ha' hP) ?_
      intro e a1 w1 hq
      cases e with
      | normal =>
        obtain ⟨H1, f1, bs1, gs1, ha1, hs1, hJ⟩ := hq
        rw [← List.append_assoc] at hs1
        have hL1 := (hs1.own (l, .loop (rec .ready none)) (by simp)).1
        refine ⟨_, run_beginRound hL1 (by rw [hrec]), ?_⟩
        have hs2 := hs1.putL (.loop { rec .ready none with state := .busy })
        rw [List.append_assoc] at hs2
        refine wpIn_mono (hJ _ noOut_RQ a1 _ ha1 hs2) ?_
        have fin2 : ∀ (jump : Option Code) {H'' : Hp} {gs'' : List GS} {fr'' : List (Nat × Obj)} {W3 : World}, St B H'' (fr'' ++ (own ++ (tl ++ [(l, .loop { rec .ready none with state := .busy }), (D, .deferred (some []))]))) gs'' W3 →
            ∃ W4, (Instr.endRound l jump).run P W3 = .ok (.bool jump.isNone) W4 ∧ St B H'' (own ++ tl ++ (fr'' ++ [(l, .loop (rec (if jump.isNone then .ready else .done) jump)), (D, .deferred (some []))])) gs'' W4 := fun jump H'' gs'' fr'' W3 h3 => by
          rw [← List.append_assoc, ← List.append_assoc] at h3
          have hL3 := (h3.own (l, .loop { rec .ready none with state := .busy }) (by simp)).1
          have hr := run_endRound (P := P) jump hL3
          refine ⟨_, hr, ?_⟩
          have h4 := h3.putL (.loop { ({ rec .ready none with state := .busy } : Loop) with state := if jump.isNone then .ready else .done, pending := jump })
          have e4 : ({ ({ rec .ready none with state := .busy } : Loop) with state := if jump.isNone then .ready else .done, pending := jump } : Loop) = rec (if jump.isNone then .ready else .done) jump := by rw [hrec]
          rw [e4] at h4 ⊢
          refine h4.perm ?_
          have := (List.perm_append_comm (l₁ := fr'') (l₂ := own ++ tl)).append_right [(l, Obj.loop (rec (if jump.isNone then .ready else .done) jump)), (D, .deferred (some []))]
          simpa using this
        intro e a3 W3 hp3
        cases e with
        | normal =>
          obtain ⟨s', rfl, H'', fr'', gs'', k1, k2, k3⟩ := hp3
          obtain ⟨W4, r1, r2⟩ := fin2 none k3
          exact ⟨_, _, r1, H'', _, gs'', k1, r2, rfl, fr'', rfl, k2, hsub.trans k1⟩
        | ret =>
          obtain ⟨r, rfl, H'', fr'', gs'', k1, k2, k3⟩ := hp3
          obtain ⟨W4, r1, r2⟩ := fin2 (some .ret) k3
          exact ⟨_, _, r1, H'', _, gs'', k1, r2, rfl, fr'', _, rfl, k2, hsub.trans k1⟩
        | exit id =>
          obtain ⟨r, rfl, H'', fr'', gs'', k1, k2, k3⟩ := hp3
          obtain ⟨W4, r1, r2⟩ := fin2 (some (.exit id)) k3
          exact ⟨_, _, r1, H'', _, gs'', k1, r2, rfl, fr'', _, rfl, k2, hsub.trans k1⟩
        | goto t =>
          obtain ⟨r, rfl, H'', fr'', gs'', k1, k2, k3⟩ := hp3
          obtain ⟨W4, r1, r2⟩ := fin2 (some (.goto t)) k3
          exact ⟨_, _, r1, H'', _, gs'', k1, r2, rfl, fr'', _, rfl, k2, hsub.trans k1⟩
        | panic ch => exact hp3.elim
        | outgrown => exact hp3.elim
      | exit id => exact hq.elim
      | goto t => exact hq.elim
      | ret => exact hq.elim
      | panic ch => exact hq.elim
      | outgrown => exact hq.elim
    · -- behind the iterator
      rintro e W2 ⟨v, H', fr', gs', rfl, hsub, hW, hy⟩
      have ha2 : Fr N (⟨.collected D, #[]⟩ :: ds) { a with defers := [⟨.collected D, #[]⟩] ++ a.defers } f := ⟨ha.size, by simp [ha.defers], ha.get⟩
      cases y with
      | inl s =>
        obtain ⟨fc, rfl, hA, _⟩ := hy
        obtain ⟨W', r1, r2⟩ := fin .ready none (by simp) hW
        exact ⟨none, W', r1, hdone D s H' fc gs' rfl hA hsub hQ _ W' ha2 r2⟩
      | inr r =>
        obtain ⟨fc, c, rfl, hA, _⟩ := hy
        obtain ⟨W', r1, r2⟩ := fin .done (some c) (by simp) hW
        exact ⟨some c, W', r1, hstop D r c H' fc gs' rfl hA hsub hQ _ W' ha2 r2⟩
end
end Go.Dec
end
section
namespace Go.Dec
open Go Go.RowKit

section
variable {P : Program} {ro : Option Nat} {N : Nat} {ds : List Deferred} {B : Bs} {H : Hp} {Q : Exit → Act → World → Prop} {f : Nat → Value} {bs : List (Nat × Obj)} {gs : List GS}

/-! ### a function's end, marks among its deferred calls -/
inductive DM : List (Nat × Obj) → List Deferred → Prop
  | nil {bs : List (Nat × Obj)} : DM bs []
  | cons {bs : List (Nat × Obj)} {ds : List Deferred} {D : Nat} (i : Nat) (hi : bs[i]? = some (D, .deferred (some []))) (h : DM (bs.set i (D, .deferred none)) ds) : DM bs (⟨.collected D, #[]⟩ :: ds)

theorem RV.set {rs : List ResultVar} {vs : List Value} {i D : Nat} {x : Option (List Deferred)} {o : Obj} (h : RV P f bs rs vs) (hi : bs[i]? = some (D, .deferred x)) : RV P f (bs.set i (D, o)) rs vs := by
  induction h with
  | nil => exact .nil
  | tmp _ ih => exact .tmp ih
  | @cell a t b e z l v rs vs j hz hx hj hv _ ih =>
    have hne : i ≠ j := by intro e; subst e; rw [hi] at hj; cases hj
    exact .cell (e := e) j hz hx (by rw [List.getElem?_set_ne hne]; exact hj) hv ih

theorem leavesM {fn : Func} {rs : List ResultVar} {vs : List Value} {R : Ending → World → Prop} (hr : fn.results = rs.toArray) {ds' : List Deferred} {a : Act} (ha : Fr N ds' a f) : ∀ (ds : List Deferred) (bs : List (Nat × Obj)) (w : World), DM bs ds → RV P f bs rs vs → St B H bs gs w →
    (∀ bs' w', St B H bs' gs w' → R (.returned (resw vs)) w') → LeavesInM (FR none) 0 P fn a.tmps R ds .returning w
  | [], bs, w, _, h, hs, k => ⟨_, h.results hr ha hs, k bs w hs⟩
  | _ :: ds, bs, w, .cons (D := D) i hi hd, h, hs, k => by
    refine ⟨by simp, .inl ⟨D, _, rfl, run_takeDeferred (hs.own _ (List.mem_of_getElem? hi)).1, ?_⟩⟩
    exact leavesM hr ha ds _ _ hd (h.set hi) (hs.put _ hi) k

/-- without panics -/
def NP (Q : Exit → Act → World → Prop) : Exit → Act → World → Prop := fun e a w => Q e a w ∧ (match e with | .panic _ => False | .outgrown => False | _ => True)
theorem noOut_NP : NoOut (NP Q) := ⟨fun _ _ h => h.2, fun _ _ _ h => h.2⟩
abbrev PM (P : Program) (fn : Func) (R : Ending → World → Prop) : Exit → Act → World → Prop := NP (bodyPostM (FR none) 0 P fn R)

theorem JQ.outSM {fn : Func} {rs : List ResultVar} {vs : List Value} {v : Value} (hr : fn.results = rs.toArray) (hd : DM bs ds) (h : RV P f bs rs vs) (hv : resw vs = v) : JQ N ds B H .ret (PM P fn (RetS B v)) f bs gs := fun _ a w ha hs => by
  refine ⟨?_, trivial⟩
  show LeavesInM _ _ _ _ _ _ a.defers _ _
  rw [ha.defers]
  exact leavesM hr ha ds bs w hd h hs fun bs' w' h' => ⟨by rw [hv], h'.out⟩
theorem JQ.outHM {fn : Func} {rs : List ResultVar} {vs : List Value} {Res : Hp → Value → Prop} (hr : fn.results = rs.toArray) (hd : DM bs ds) (h : RV P f bs rs vs) (hres : Res H (resw vs)) : JQ N ds B H .ret (PM P fn (RetH B Res)) f bs gs := fun _ a w ha hs => by
  refine ⟨?_, trivial⟩
  show LeavesInM _ _ _ _ _ _ a.defers _ _
  rw [ha.defers]
  exact leavesM hr ha ds bs w hd h hs fun bs' w' h' => ⟨H, _, rfl, h'.ext.1, h'.ext.2, h'.hle, h'.below, hres⟩
theorem JQ.fellSM {fn : Func} {rs : List ResultVar} {vs : List Value} {v : Value} (hr : fn.results = rs.toArray) (hd : DM bs ds) (h : RV P f bs rs vs) (hv : resw vs = v) : JQ N ds B H .normal (PM P fn (RetS B v)) f bs gs := fun _ a w ha hs => by
  refine ⟨?_, trivial⟩
  show LeavesInM _ _ _ _ _ _ a.defers _ _
  rw [ha.defers]
  exact leavesM hr ha ds bs w hd h hs fun bs' w' h' => ⟨by rw [hv], h'.out⟩
theorem JQ.fellHM {fn : Func} {rs : List ResultVar} {vs : List Value} {Res : Hp → Value → Prop} (hr : fn.results = rs.toArray) (hd : DM bs ds) (h : RV P f bs rs vs) (hres : Res H (resw vs)) : JQ N ds B H .normal (PM P fn (RetH B Res)) f bs gs := fun _ a w ha hs => by
  refine ⟨?_, trivial⟩
  show LeavesInM _ _ _ _ _ _ a.defers _ _
  rw [ha.defers]
  exact leavesM hr ha ds bs w hd h hs fun bs' w' h' => ⟨H, _, rfl, h'.ext.1, h'.ext.2, h'.hle, h'.below, hres⟩

theorem SC.ofM {k N : Nat} {fn : Func} {c : Code} {vs : List Value} {v : Value} {H : Hp} (hf : P.funcs[k]? = some fn) (hN : fn.ntmps = N) (hb : fn.body = some c) (hn : Nat.ble vs.length N = true)
    (h : ∀ w, JC P none N [] ⟨w, H⟩ H c (PM P fn (RetS ⟨w, H⟩ v)) (frame0 vs) [] []) : SC P k vs v H := fun w hH => by
  subst hN
  have hn := Nat.le_of_ble_eq_true hn
  exact (callsIn_wide (n := 0)).1 (callsIn_of_wp_marks hf hb trivial (wpIn_mono (h w noOut_NP _ w (fr_start hn) (St.start hH)) fun e a w hq => hq.1))
theorem HC.ofM {k N : Nat} {fn : Func} {c : Code} {vs : List Value} {Res : Hp → Value → Prop} {H : Hp} (hf : P.funcs[k]? = some fn) (hN : fn.ntmps = N) (hb : fn.body = some c) (hn : Nat.ble vs.length N = true)
    (h : ∀ w, JC P none N [] ⟨w, H⟩ H c (PM P fn (RetH ⟨w, H⟩ Res)) (frame0 vs) [] []) : HC P k vs H Res := fun w hH => by
  subst hN
  have hn := Nat.le_of_ble_eq_true hn
  exact (callsIn_wide (n := 0)).1 (callsIn_of_wp_marks hf hb trivial (wpIn_mono (h w noOut_NP _ w (fr_start hn) (St.start hH)) fun e a w hq => hq.1))

/-! ### a round's end -/
theorem JQ.round {σ ρ : Type} {H0 : Hp} {A : Own1 σ} {Ax : ρ → Code → Hp → List (Nat × Obj) → List GS → Prop} {T : List (Nat × Obj)} {y : σ ⊕ ρ} {s : σ} (hy : y = .inl s) (fr : List (Nat × Obj)) (hs : HSub H0 H) (hA : A s H fr gs) :
    JQ N ds B H .normal (RQ B H0 A Ax T y) f (fr ++ T) gs := fun _ _ _ _ hw => ⟨s, hy, H, fr, gs, hs, hA, hw⟩
theorem JQ.roundRet {σ ρ : Type} {H0 : Hp} {A : Own1 σ} {Ax : ρ → Code → Hp → List (Nat × Obj) → List GS → Prop} {T : List (Nat × Obj)} {y : σ ⊕ ρ} {r : ρ} (hy : y = .inr r) (fr : List (Nat × Obj)) (hs : HSub H0 H) (hA : Ax r .ret H fr gs) :
    JQ N ds B H .ret (RQ B H0 A Ax T y) f (fr ++ T) gs := fun _ _ _ _ hw => ⟨r, hy, H, fr, gs, hs, hA, hw⟩
theorem JQ.roundExit {σ ρ : Type} {H0 : Hp} {A : Own1 σ} {Ax : ρ → Code → Hp → List (Nat × Obj) → List GS → Prop} {T : List (Nat × Obj)} {y : σ ⊕ ρ} {r : ρ} {id : Nat} (hy : y = .inr r) (fr : List (Nat × Obj)) (hs : HSub H0 H) (hA : Ax r (.exit id) H fr gs) :
    JQ N ds B H (.exit id) (RQ B H0 A Ax T y) f (fr ++ T) gs := fun _ _ _ _ hw => ⟨r, hy, H, fr, gs, hs, hA, hw⟩

/-! ### iterators: calls of yield -/
theorem wpOpsIn_prefix {l2 : List Nat} {ops : List Oper} (hnd : noDefer ops = true) (hQ : NoOut Q) : ∀ (l : List Nat) (a : Act) (w : World),
    wpOps P ops.toArray (fun e a w => match e with | .normal => wpOpsIn (FR ro) 0 P ops.toArray Q l2 a w | e => Q e a w) l a w → wpOpsIn (FR ro) 0 P ops.toArray Q (l ++ l2) a w
  | [], _, _, h => h
  | i :: rest, a, w, h => by
    unfold wpOps at h
    rw [List.cons_append]
    unfold wpOpsIn
    cases ho : ops.toArray[i]? with
    | none => simp only [ho] at h ⊢; exact wpOpsIn_prefix hnd hQ rest a w h
    | some o =>
      simp only [ho] at h ⊢
      have hod : ∀ c, o.op ≠ .defer c := noDefer_spec hnd (i := i) (by simpa using ho)
      split
      · rename_i hw
        rw [if_pos hw] at h
        rcases h with h | ⟨_, h⟩
        · refine ⟨fun _ _ => trivial, ?_⟩
          rw [Oper.semAt_eq _ _ _ hod]
          unfold Oper.wp at h
          generalize (execOp a.eval o).run P w = r at h
          match r with
          | .ok (.value v) w' => exact wpOpsIn_prefix hnd hQ rest _ _ h
          | .ok .skip w' => exact wpOpsIn_prefix hnd hQ rest _ _ h
          | .ok (.defer d) w' => exact wpOpsIn_prefix hnd hQ rest _ _ h
          | .ok (.enter f args) w' =>
            refine ⟨fun h => by simp [FR] at h, ?_⟩
            have hc : Calls P f args w' _ := h
            have := (callsIn_wide (n := 0 - 1)).2 hc
            refine CallsIn.mono (R := _) (show CallsIn (FR ro) (0 - 1) P f args w' _ from this) ?_
            intro e w'' hr
            cases e with
            | returned v => exact wpOpsIn_prefix hnd hQ rest _ _ hr
            | panicked c => exact hr
            | outgrown =>
              obtain ⟨a, w, hq⟩ := hr
              exact absurd hq (hQ.1 a w)
          | .ok (.row row args) w' =>
            refine ⟨fun h => by simp [FR] at h, ?_⟩
            have hc : Rows P row args w' _ := h
            intro c cs hroom
            obtain ⟨v, w'', hR, hs⟩ := hc c cs
            exact ⟨v, w'', wpOpsIn_prefix hnd hQ rest _ _ hR, (StepsIn.of_steps hs).mono fun m _ => fenced_wide P m⟩
          | .halt (.panic v) w' => exact h
        · obtain ⟨a, w, hq⟩ := h
          exact absurd hq (hQ.1 a w)
      · rename_i hw
        rw [if_neg hw] at h
        exact ⟨fun _ _ => trivial, wpOpsIn_prefix hnd hQ rest _ _ h⟩

/-- up to a call of yield -/
def YQ (P : Program) (Q : Exit → Act → World → Prop) (ops : List Oper) (m k : Nat) : Exit → Act → World → Prop := fun e a w => match e with
  | .normal => wpOpsIn (FR none) 0 P ops.toArray Q (List.range' m k) a w
  | e => Q e a w
theorem wpOps_of_wpList {ops : Array Oper} {Q : Exit → Act → World → Prop} : ∀ (l : List Oper) (k : Nat), (∀ j, j < l.length → l[j]? = ops[k + j]?) → ∀ a w, wpList P ops Q l a w → wpOps P ops Q (List.range' k l.length) a w
  | [], _, _, _, _, h => h
  | o :: l, k, hl, a, w, h => by
    have h0 : ops[k]? = some o := by have := hl 0 (by simp); simpa using this.symm
    have ih := wpOps_of_wpList (Q := Q) l (k + 1) (fun j hj => by have := hl (j + 1) (by simp; omega); rw [Nat.add_assoc, Nat.add_comm 1 j]; simpa using this)
    rw [List.length_cons, List.range'_succ]
    unfold wpList at h
    unfold wpOps
    simp only [h0]
    split
    · rename_i hw
      rw [if_pos hw] at h
      exact h.imp (fun h => Oper.wp_mono ih h) id
    · rename_i hw
      rw [if_neg hw] at h
      exact ih _ _ h
theorem JC.regionY {id : Nat} (pre : List Oper) {l : List Oper} (m : Nat) (hm : l.take m = pre) (hml : Nat.ble m l.length = true) (hnd : noDefer l = true) (h : NoOut Q → JL .plain P N ds B H l (YQ P Q l m (l.length - m)) pre f bs gs) : JC P none N ds B H (.region id l.toArray false) Q f bs gs := fun hQ a w ha hs => by
  have hml := Nat.le_of_ble_eq_true hml
  refine wpIn_region ?_
  have hsplit : List.range l.toArray.size = List.range' 0 m ++ List.range' m (l.length - m) := by
    have := List.range'_append_1 (s := 0) (m := m) (n := l.length - m)
    rw [Nat.zero_add] at this
    rw [this, List.range_eq_range', List.size_toArray]
    congr 1; omega
  rw [hsplit]
  refine wpOpsIn_prefix hnd hQ _ a w ?_
  have hpl : pre.length = m := by rw [← hm]; simp; omega
  have := wpOps_of_wpList (P := P) (ops := l.toArray) (Q := YQ P Q l m (l.length - m)) pre 0 (fun j hj => by
    rw [← hm, List.getElem?_take]
    simp
    intro h; omega) a w (h hQ a w ha hs)
  rw [hpl] at this
  exact this

/-- the call of yield itself -/
theorem JL.atYield {σ ρ : Type} {l : List Oper} {m n lY d : Nat} {x z : Operand} {tt : Array TypeId} {t : TypeId} {p : String} {af : Array Edge} {post : List Oper} {A : Own1 σ} {Ax : Own1 ρ} {tl : List (Nat × Obj)} {y : σ ⊕ ρ}
    (hQ : NoOut Q) (hnd : noDefer l = true) (hl : l.drop m = ⟨some d, .call { callee := .value x, args := #[z], argTypes := tt }, t, p, af, none⟩ :: post) (hn : l.length - m = n)
    (hx : ev f x = .func (.yield lY) #[] #[]) (hd : Nat.blt d N = true) (hy : ∀ w, St B H bs gs w → YieldAt (FR none) 0 P lY #[ev f z] w (After B H A Ax tl y))
    (hgo : ∀ s H' fr gs', y = .inl s → HSub H H' → A s H' fr gs' → JL .plain P N ds B H' l Q post (upd f d (.bool true)) (tl ++ fr) gs')
    (hstop : ∀ r H' fr gs', y = .inr r → HSub H H' → Ax r H' fr gs' → JL .plain P N ds B H' l Q post (upd f d (.bool false)) (tl ++ fr) gs') :
    JL .plain P N ds B H l (YQ P Q l m n) [] f bs gs := .nil fun a w ha hs => by
  have hlen : l.length - m = post.length + 1 := by rw [← List.length_drop, hl]; rfl
  show wpOpsIn (FR none) 0 P l.toArray Q (List.range' m n) a w
  rw [← hn, hlen, List.range'_succ]
  have hget : ∀ j, l[m + j]? = (l.drop m)[j]? := fun j => by rw [List.getElem?_drop]
  have h0 : l.toArray[m]? = some ⟨some d, .call { callee := .value x, args := #[z], argTypes := tt }, t, p, af, none⟩ := by
    have := hget 0; rw [hl] at this; simpa using this
  unfold wpOpsIn
  simp only [h0]
  have hw : Region.wanted ⟨some d, .call { callee := .value x, args := #[z], argTypes := tt }, t, p, af, none⟩ (yielded l.toArray a.tmps) = true := by simp [Region.wanted]
  rw [if_pos hw]
  refine ⟨fun _ _ => trivial, ?_⟩
  obtain ⟨fn, tmps, assign, body, hrun, hround⟩ := hy w hs
  have hexec : (execOp a.eval ⟨some d, .call { callee := .value x, args := #[z], argTypes := tt }, t, p, af, none⟩).run P w = .ok (.round lY fn tmps assign body) w := by
    rw [ha.eval]
    simp [execOp, hx, hrun, resolve, invoke, go_sem]
  rw [Oper.semAt_eq _ _ _ (by intro c; simp), hexec, Oper.uponIn_round]
  refine ⟨fun h => by simp [FR] at h, hround.mono ?_⟩
  intro e w'' hr
  have hrest : ∀ {v : Value} {H' : Hp} {bs' : List (Nat × Obj)} {gs' : List GS}, St B H' bs' gs' w'' → JL .plain P N ds B H' l Q post (upd f d v) bs' gs' → wpOpsIn (FR none) 0 P l.toArray Q (List.range' (m + 1) post.length) (a.put (some d) v) w'' := fun h1 h2 =>
    wpOpsIn_of_wpOps hnd hQ _ _ _ (wpOps_of_wpList post (m + 1) (fun j hj => by
      have := hget (j + 1)
      rw [hl] at this
      rw [Nat.add_assoc, Nat.add_comm 1 j]
      simpa using this.symm) _ _ (h2 _ _ (ha.put hd _) h1))
  cases e with
  | returned v =>
    obtain ⟨H', fr, gs', k1, k2, k3⟩ := hr
    cases y with
    | inl s => obtain ⟨rfl, k4⟩ := k3; exact hrest k2 (hgo s H' fr gs' rfl k1 k4)
    | inr r => obtain ⟨rfl, k4⟩ := k3; exact hrest k2 (hstop r H' fr gs' rfl k1 k4)
  | panicked c => exact hr.elim
  | outgrown => exact hr.elim
end
end Go.Dec
end
section
namespace Go.Dec
open Go Go.RowKit

/-- a call whose result is an own growing slice -/
def OC (P : Program) (k : Nat) (vs : List Value) (H : Hp) (e : TypeId) (sz : Nat) (Res : Nat → List Value → Prop) : Prop :=
  ∀ w, HLe H w → Calls P k vs.toArray w fun en w' => ∃ v n xs, en = .returned v ∧ Kept H w w' ∧ w'.ownsRow w.heap.size e sz v n xs ∧ Res n xs

section
variable {q : Md} {P : Program} {N : Nat} {ds : List Deferred} {B : Bs} {H : Hp} {ops : List Oper} {Q : Exit → Act → World → Prop} {rest : List Oper} {f : Nat → Value} {bs : List (Nat × Obj)} {gs : List GS}
variable {d : Nat} {t : TypeId} {p : String} {af : Array Edge} {g : Option (Nat × Bool)}

theorem OC.of {k N : Nat} {fn : Func} {c : Code} {vs : List Value} {H : Hp} {e : TypeId} {sz : Nat} {Res : Nat → List Value → Prop} (hf : P.funcs[k]? = some fn) (hN : fn.ntmps = N) (hb : fn.body = some c) (hn : Nat.ble vs.length N = true)
    (h : ∀ w, JC P none N [] ⟨w, H⟩ H c (bodyPost P fn fun en w' => ∃ v n xs, en = .returned v ∧ Kept H w w' ∧ w'.ownsRow w.heap.size e sz v n xs ∧ Res n xs) (frame0 vs) [] []) : OC P k vs H e sz Res := fun w hH => by
  subst hN
  have hn := Nat.le_of_ble_eq_true hn
  exact (callsIn_wide (n := 0)).1 (callsIn_of_wp hf hb trivial (h w (noOut_body (fun w' hq => by obtain ⟨_, _, _, h, _⟩ := hq; cases h) (fun c w' hq => by obtain ⟨_, _, _, h, _⟩ := hq; cases h)) _ w (fr_start hn) (St.start hH)))
theorem JQ.outO {fn : Func} {t : Nat} {e : TypeId} {sz : Nat} {Res : Nat → List Value → Prop} (j : Nat) {gq : GS} (hr : fn.results = #[.tmp t]) (hj : gs[j]? = some gq) (hv : f t = gq.v) (he : gq.e = e ∧ gq.sz = sz) (hres : Res gq.n gq.xs) :
    JQ N [] B H .ret (bodyPost P fn fun en w' => ∃ v n xs, en = .returned v ∧ Kept B.H B.w w' ∧ w'.ownsRow B.w.heap.size e sz v n xs ∧ Res n xs) f bs gs := fun _ a w ha hs => by
  obtain ⟨rfl, rfl⟩ := he
  exact ⟨ha.defers, _, RV.results (P := P) (rs := [.tmp t]) hr (.tmp .nil) ha hs, gq.v, gq.n, gq.xs, by rw [show resw [f t] = f t from rfl, hv], hs.out, hs.row gq (List.mem_of_getElem? hj), hres⟩

theorem St.gain {w w' : World} (hs : St B H bs gs w) {v : Value} {e : TypeId} {sz n : Nat} {xs : List Value} (hb : Kept H w w') (hr : w'.ownsRow w.heap.size e sz v n xs) : St B H bs (⟨v, e, sz, n, xs⟩ :: gs) w' := by
  have k := hs.keptX hb
  have hlt := hr.lt
  have hr' : w'.ownsRow B.w.heap.size e sz v n xs := by
    obtain ⟨h1, h2⟩ := hr
    refine ⟨h1, h2.imp id ?_⟩
    rintro ⟨g, cap, cur, h3, h4, h5⟩
    exact ⟨g, cap, cur, h3, Nat.le_trans hs.below.size h4, h5⟩
  refine ⟨k.below, k.hle, k.ext, k.own, k.nodup, fun q hq => ?_, fun q hq b hb => ?_, List.pairwise_cons.2 ⟨fun q hq b hb e => ?_, hs.rdisj⟩⟩
  · rcases List.mem_cons.1 hq with rfl | hq
    · exact hr'
    · exact k.row q hq
  · rcases List.mem_cons.1 hq with rfl | hq
    · have hge := (hlt b hb).1
      refine ⟨?_, fun p hp e => ?_⟩
      · cases hH : H b with
        | none => rfl
        | some o => exact absurd (hs.hle.lt hH) (by omega)
      · have := hs.own_lt hp; omega
    · exact k.rfresh q hq b hb
  · have h1 := (hlt b hb).1
    have h2 := ((hs.row q hq).lt b e).2
    omega

theorem JL.callO {kf : Nat} {l : List Operand} {tt : Array TypeId} {vs : List Value} {e : TypeId} {sz : Nat} {Res : Nat → List Value → Prop} (hc : OC P kf vs H e sz Res) (hvs : l.map (ev f) = vs) (he : Ent P kf) (hw : Want ops f g) (hd : Nat.blt d N = true)
    (h : ∀ v n xs, Res n xs → JL .plain P N ds B H ops Q rest (upd f d v) bs (⟨v, e, sz, n, xs⟩ :: gs)) : JL .plain P N ds B H ops Q (⟨some d, .call ⟨.value (.func kf), l.toArray, tt⟩, t, p, af, g⟩ :: rest) f bs gs :=
  .step hw fun a w ha hs => by
    unfold Oper.wp
    rw [ha.eval, run_callF hvs he, Oper.upon_enter]
    refine (hc w hs.hle).mono fun e w' => ?_
    rintro ⟨v, n, xs, rfl, hb, hr, hres⟩
    exact h v n xs hres _ _ (ha.put hd v) (hs.gain hb hr)

/-- a block is lent to the data for one call -/
theorem St.lend {w : World} (hs : St B H bs gs w) {i b : Nat} {o : Obj} (hi : bs[i]? = some (b, o)) : HSub H (ins H b o) ∧ HLe (ins H b o) w := by
  have h := hs.own _ (List.mem_of_getElem? hi)
  refine ⟨HSub.ins h.2.2 o, fun c ob hc => ?_, fun K I hK => ?_⟩
  · rw [ins_at] at hc
    split at hc
    · rename_i e; subst e; cases hc; exact h.1
    · exact hs.hle.le c ob hc
  · obtain ⟨k1, k2⟩ := hs.hle.ok K I hK
    exact ⟨by rw [ins_at, if_neg (fun e => hs.notHole h.2.1 I (by rw [← e]; exact hK))]; exact k1, k2⟩
theorem SC.lent {kf : Nat} {vs : List Value} {v : Value} {b : Nat} {o : Obj} (h : HSub H (ins H b o) → SC P kf vs v (ins H b o)) {w : World} (hs : St B H bs gs w) {i : Nat} (hi : bs[i]? = some (b, o)) : Calls P kf vs.toArray w fun e w' => e = .returned v ∧ Kept H w w' :=
  let ⟨h1, h2⟩ := hs.lend hi
  (h h1 w h2).mono fun _ _ he => ⟨he.1, he.2.down h1⟩
theorem JL.callLX {op : Op} {kf : Nat} {vs : List Value} {v : Value} (i : Nat) {b : Nat} {o : Obj} (hi : bs[i]? = some (b, o)) (hc : HSub H (ins H b o) → SC P kf vs v (ins H b o)) (hr : ∀ w, (execOp (ev f) ⟨some d, op, t, p, af, g⟩).run P w = .ok (.enter kf vs.toArray) w) (hq : q.calls = true) (hw : Want ops f g) (hd : Nat.blt d N = true)
    (h : JL q P N ds B H ops Q rest (upd f d v) bs gs) : JL q P N ds B H ops Q (⟨some d, op, t, p, af, g⟩ :: rest) f bs gs := by
  match q with
  | .plain =>
    exact .step hw fun a w ha hs => by
      unfold Oper.wp
      rw [ha.eval, hr, Oper.upon_enter]
      refine (SC.lent hc hs hi).mono fun e w' => ?_
      rintro ⟨rfl, hb⟩
      exact h _ _ (ha.put hd v) (hs.keptX hb)
  | .quiet K =>
    intro a ha
    unfold wpQuiet
    rw [if_pos (Want.wanted ha (o := ⟨some d, op, t, p, af, g⟩) hw)]
    refine ⟨v, fun w hs => ?_, h _ (ha.put hd v)⟩
    unfold Oper.quietAt
    rw [ha.eval, hr]
    refine ⟨rfl, (SC.lent hc hs hi).mono fun e w' => ?_⟩
    rintro ⟨rfl, hb⟩
    exact ⟨rfl, hs.keptX hb⟩
  | .first K => cases hq
theorem JL.callLS {kf : Nat} {l : List Operand} {tt : Array TypeId} {vs : List Value} {v : Value} (i : Nat) {b : Nat} {o : Obj} (hi : bs[i]? = some (b, o)) (hc : HSub H (ins H b o) → SC P kf vs v (ins H b o)) (hvs : l.map (ev f) = vs) (he : Ent P kf) (hw : Want ops f g) (hd : Nat.blt d N = true)
    (h : JL q P N ds B H ops Q rest (upd f d v) bs gs) (hq : q.calls = true := by rfl) : JL q P N ds B H ops Q (⟨some d, .call ⟨.value (.func kf), l.toArray, tt⟩, t, p, af, g⟩ :: rest) f bs gs :=
  .callLX i hi hc (run_callF hvs he) hq hw hd h
theorem JL.callLO {kf : Nat} {l : List Operand} {tt : Array TypeId} {vs : List Value} {e : TypeId} {sz : Nat} {Res : Nat → List Value → Prop} (i : Nat) {b : Nat} {o : Obj} (hi : bs[i]? = some (b, o)) (hc : HSub H (ins H b o) → OC P kf vs (ins H b o) e sz Res) (hvs : l.map (ev f) = vs) (he : Ent P kf) (hw : Want ops f g) (hd : Nat.blt d N = true)
    (h : ∀ v n xs, Res n xs → JL .plain P N ds B H ops Q rest (upd f d v) bs (⟨v, e, sz, n, xs⟩ :: gs)) : JL .plain P N ds B H ops Q (⟨some d, .call ⟨.value (.func kf), l.toArray, tt⟩, t, p, af, g⟩ :: rest) f bs gs :=
  .step hw fun a w ha hs => by
    unfold Oper.wp
    rw [ha.eval, run_callF hvs he, Oper.upon_enter]
    obtain ⟨h1, h2⟩ := hs.lend hi
    refine (hc h1 w h2).mono fun e w' => ?_
    rintro ⟨v, n, xs, rfl, hb, hr, hres⟩
    exact h v n xs hres _ _ (ha.put hd v) (hs.gain (hb.down h1) hr)

/-- the frame is written anew -/
theorem JC.fresh {ro : Option Nat} {c : Code} (A : (Nat → Value) → Prop) (h0 : A f) (k : ∀ f', A f' → JC P ro N ds B H c Q f' bs gs) : JC P ro N ds B H c Q f bs gs := k f h0

theorem PT.form {α : Type} {R : Rl α} {v : Value} {o : Option α} (h : PT H R v o) : ∃ a, v = .pointer a := by
  cases o with
  | none => exact ⟨none, h⟩
  | some x => obtain ⟨b, o, cs, h, _⟩ := h; exact ⟨_, h⟩
theorem PT.one {α : Type} {R : Rl α} {v : Value} {o : Option α} (h : PT H R v o) : v.oneCell' = true := by
  obtain ⟨a, rfl⟩ := h.form; rfl
theorem PT.vc {α : Type} {R : Rl α} {v : Value} {o : Option α} (h : PT H R v o) : vcells v = [v] := by
  obtain ⟨a, rfl⟩ := h.form; rfl

/-- what an iterator yields: plain values; rows of plain values, lent -/
def VPlain {α : Type} (enc : α → Value) : Hp → List (Nat × Obj) → Value → α → Prop := fun _ own v x => own = [] ∧ v = enc x
def VRow (e : TypeId) : Hp → List (Nat × Obj) → Value → List Int → Prop := fun _ own v x =>
  ∃ b c, own = [(b, .cells (x.map (Value.int .i64)).toArray e)] ∧ v = .slice (some ⟨b, 0, none⟩) x.length c ∧ x.length ≤ 9223372036854775807 ∧ x.length ≤ c
theorem CH.ints {H : Hp} (x : List Int) : CH H 1 RInt (x.map (Value.int .i64)) x := by
  refine ⟨by simp, fun i y hi => ⟨[.int .i64 y], rfl, rfl, fun j v hv => ?_⟩⟩
  cases j with
  | zero => simp at hv; subst hv; simp [hi]
  | succ j => simp at hv
theorem SL.lentRow {e : TypeId} {b c : Nat} {x : List Int} (h1 : x.length ≤ 9223372036854775807) (h2 : x.length ≤ c) : SL (ins H b (.cells (x.map (Value.int .i64)).toArray e)) 1 RInt (.slice (some ⟨b, 0, none⟩) x.length c) x :=
  (CH.ints x).sl Cells.ins ⟨h1, h2⟩
theorem CH.flat {H H' : Hp} {xs : List Value} {l : List Int} (h : CH H 1 RInt xs l) : CH H' 1 RInt xs l := h

/-- an iterator's contract out of its body -/
theorem IT.of {α : Type} {k N : Nat} {fn : Func} {c : Code} {caps : List Value} {H0 : Hp} {V : Hp → List (Nat × Obj) → Value → α → Prop} {F : ∀ (σ ρ : Type), (σ → α → Option (σ ⊕ ρ)) → σ → Option (σ ⊕ ρ)}
    (hf : P.funcs[k]? = some fn) (hN : fn.ntmps = N) (hb : fn.body = some c) (hn : Nat.ble (caps.length + 1) N = true) (hres : fn.results = #[])
    (h : ∀ (σ ρ : Type) (B : Bs) (A : Own1 σ) (Ax : Own1 ρ) (step : σ → α → Option (σ ⊕ ρ)) (l : Nat) (s0 : σ) (y : σ ⊕ ρ), F σ ρ step s0 = some y → YS P B l V A Ax step →
      ∀ H fr gs (Q : Exit → Act → World → Prop), HSub H0 H → A s0 H fr gs →
        (∀ H' f' X fr' gs', HSub H H' → OneOf A Ax y H' fr' gs' → JQ N [] B H' .ret Q f' (X ++ fr') gs' ∧ JQ N [] B H' .normal Q f' (X ++ fr') gs') →
        JC P none N [] B H c Q (frame0 (.func (.yield l) #[] #[] :: caps)) fr gs) : IT P k caps H0 V F := by
  intro σ ρ B A Ax step l s0 y hF hY H fr gs w hsub hA hs
  subst hN
  have hn := Nat.le_of_ble_eq_true hn
  have hargs : (#[Value.func (.yield l) #[] #[]] ++ caps.toArray) = (Value.func (.yield l) #[] #[] :: caps).toArray := by simp
  rw [hargs]
  refine callsIn_of_wp hf hb trivial (h σ ρ B A Ax step l s0 y hF hY H fr gs _ hsub hA ?_ (noOut_body (fun w' hq => by obtain ⟨_, _, _, _, h, _⟩ := hq; cases h) (fun c w' hq => by obtain ⟨_, _, _, _, h, _⟩ := hq; cases h)) _ w (fr_start (by simpa using hn)) hs)
  intro H' f' X fr' gs' k1 k2
  have out : ∀ a w, Fr fn.ntmps [] a f' → St B H' (X ++ fr') gs' w → a.defers = [] ∧ ∃ v, (results fn a.tmps).run P w = .ok v w ∧ ∃ v' H' fr' gs', Ending.returned v = .returned v' ∧ HSub H H' ∧ St B H' fr' gs' w ∧ OneOf A Ax y H' fr' gs' := fun a w ha hs' =>
    ⟨ha.defers, _, RV.results (P := P) (rs := []) (by rw [hres]) .nil ha hs', _, H', fr', gs', rfl, k1, hs'.sub (List.sublist_append_right ..) (List.Sublist.refl _), k2⟩
  exact ⟨fun _ a w ha hs' => out a w ha hs', fun _ a w ha hs' => out a w ha hs'⟩
end
end Go.Dec
end
section
namespace Go.Dec
open Go Go.RowKit

section
variable {q : Md} {P : Program} {N : Nat} {ds : List Deferred} {B : Bs} {H : Hp} {ops : List Oper} {Q : Exit → Act → World → Prop} {rest : List Oper} {f : Nat → Value} {bs : List (Nat × Obj)} {gs : List GS}
variable {d : Nat} {t : TypeId} {p : String} {af : Array Edge} {g : Option (Nat × Bool)}

/-- a call of a function value, whatever it turns -/
theorem JL.callG {x : Operand} {kf : Nat} {caps : List Value} {l : List Operand} {tt : Array TypeId} {vs : List Value} {K : Value → Hp → List (Nat × Obj) → List GS → Prop} (hx : ev f x = .func (.func kf) #[] caps.toArray)
    (hc : ∀ w, St B H bs gs w → Calls P kf vs.toArray w fun e w' => ∃ v H' bs' gs', e = .returned v ∧ St B H' bs' gs' w' ∧ K v H' bs' gs') (hvs : l.map (ev f) ++ caps = vs) (he : Ent P kf) (hw : Want ops f g) (hd : Nat.blt d N = true)
    (h : ∀ v H' bs' gs', K v H' bs' gs' → JL .plain P N ds B H' ops Q rest (upd f d v) bs' gs') : JL .plain P N ds B H ops Q (⟨some d, .call ⟨.value x, l.toArray, tt⟩, t, p, af, g⟩ :: rest) f bs gs :=
  .step hw fun a w ha hs => by
    unfold Oper.wp
    rw [ha.eval, run_callV hx hvs he, Oper.upon_enter]
    refine (hc w hs).mono fun e w' => ?_
    rintro ⟨v, H', bs', gs', rfl, hs', hk⟩
    exact h v H' bs' gs' hk _ _ (ha.put hd v) hs'

/-- the address of an element, whatever it holds -/
theorem JL.indexAt {tx e : TypeId} {x ix : Operand} {k : IntKind} {i : Int} {sz b o n c : Nat} (ht : slT P tx = some (e, sz)) (hx : ev f x = .slice (some ⟨b, o, none⟩) n c) (hi : ev f ix = .int k i) (h0 : 0 ≤ i) (h1 : i < n) (hw : Want ops f g) (hd : Nat.blt d N = true)
    (h : JL q P N ds B H ops Q rest (upd f d (.pointer (some ⟨b, o + i.toNat * sz, none⟩))) bs gs) : JL q P N ds B H ops Q (⟨some d, .indexAddr tx x ix, t, p, af, g⟩ :: rest) f bs gs := by
  refine .val hw hd (fun w _ => ?_) h
  unfold slT at ht
  split at ht
  · rename_i e' hu
    split at ht
    · rename_i ti hti
      simp only [Option.some.injEq, Prod.mk.injEq] at ht
      obtain ⟨rfl, rfl⟩ := ht
      simp [execOp, hx, hi, Instr.indexAt, asIntOf, run_underlying hu, h0, h1, sizeOf, typeInfo, hti, Addr.add_mid]
    · cases ht
  · cases ht

/-- a load of one cell of an own block, at whatever place -/
theorem JL.loadAt {tx : TypeId} {x : Operand} (i : Nat) {b k : Nat} {l : List Value} {e : TypeId} {v : Value} (hz : aggsz P tx = some (false, 1)) (hx : ev f x = .pointer (some ⟨b, k, none⟩)) (hi : bs[i]? = some (b, .cells l.toArray e)) (hv : l[k]? = some v) (hw : Want ops f g) (hd : Nat.blt d N = true)
    (h : JL q P N ds B H ops Q rest (upd f d v) bs gs) : JL q P N ds B H ops Q (⟨some d, .load tx x, t, p, af, g⟩ :: rest) f bs gs := by
  refine .val hw hd (fun w hs => ?_) h
  have hl := run_load_of (P := P) (w := w) (o := 0) (b := b) (k := k) (l := l) (v := v) hz (hs.has hi) (by simp [loadw, hv])
  rw [Nat.zero_add] at hl
  unfold execOp
  simp [hx, hl]

theorem putC_set {l : List Value} {k : Nat} {v : Value} (h : k < l.length) : putC l k [v] = l.set k v := by
  rw [putC, List.set_eq_take_append_cons_drop, if_pos h]; simp

/-- a store into one cell of an own block, at whatever place -/
theorem JL.storeAt {tx e : TypeId} {x y : Operand} (i : Nat) {b k : Nat} {l l' : List Value} {v : Value} (hz : aggsz P tx = some (false, 1)) (hx : ev f x = .pointer (some ⟨b, k, none⟩)) (hy : ev f y = v) (h1 : vcells v = [v] ∧ v.oneCell' = true) (hi : bs[i]? = some (b, .cells l.toArray e)) (hk : k < l.length) (hl : l.set k v = l') (hw : Want ops f g)
    (h : JL .plain P N ds B H ops Q rest f (bs.set i (b, .cells l'.toArray e)) gs) : JL .plain P N ds B H ops Q (⟨none, .store tx x y, t, p, af, g⟩ :: rest) f bs gs := by
  refine JL.storeOwn i (cs := [v]) hz hx (by rw [hy]; exact h1.1) rfl (fun u hu => by rw [List.mem_singleton.1 hu]; exact h1.2) hi (Nat.ble_eq_true_of_le (by omega)) hw ?_
  rw [putC_set hk, hl]
  exact h

/-- a made row of integers -/
theorem JL.makeInts {t' e : TypeId} {x y : Operand} {k k' : IntKind} {n : Int} {i : TypeInfo} (ht : P.underlying t' = some (.slice e)) (hi : P.info? e = some i) (hz : i.zero = some (.int .i64 0)) (hs : i.size = 1) (hb : i.bytes = 8) (hx : ev f x = .int k n) (hy : ev f y = .int k' n) (h0 : 0 ≤ n) (h1 : n ≤ 1048576) (hw : Want ops f g) (hd : Nat.blt d N = true)
    (h : ∀ b, JL .plain P N ds B H ops Q rest (upd f d (.slice (some ⟨b, 0, none⟩) n.toNat n.toNat)) ((b, .cells ((List.replicate n.toNat (0 : Int)).map (Value.int .i64)).toArray e) :: bs) gs) : JL .plain P N ds B H ops Q (⟨some d, .makeSlice t' x y, t, p, af, g⟩ :: rest) f bs gs :=
  .step hw fun a w ha hst => by
    have hm := run_makeSlice (P := P) (w := w) t' e i (.int .i64 0) ht hi hz k k' n n h0 (Int.le_refl _) (by rw [hs]; omega) (by rw [hb]; omega) (by omega)
    have hcells : madeCells (Value.int .i64 0).cells (n.toNat * i.size) = ((List.replicate n.toNat (0 : Int)).map (Value.int .i64)).toArray := by
      rw [hs]
      apply Array.ext
      · simp [madeCells]
      · intro j h1 h2
        simp [madeCells, Value.cells, Nat.mod_one]
    rw [hcells] at hm
    unfold Oper.wp
    rw [ha.eval]
    have hr : (execOp (ev f) ⟨some d, .makeSlice t' x y, t, p, af, g⟩).run P w = .ok (.value (.slice (some ⟨w.heap.size, 0, none⟩) n.toNat n.toNat)) (w.alloc (.cells ((List.replicate n.toNat (0 : Int)).map (Value.int .i64)).toArray e)) := by
      simp only [execOp, hx, hy]
      simp [hm]
    rw [hr]
    exact h _ _ _ (ha.put hd _) (hst.alloc _)
end
end Go.Dec
end
section
namespace Go.Dec
open Go Go.RowKit

/-- all that lies in a world, as data -/
def hw (w : World) : Hp := ⟨fun b => w.heap[b]?, none⟩
theorem hw_le (w : World) : HLe (hw w) w := ⟨fun _ _ h => h, fun _ _ h => by cases h⟩

def Opens {T α : Type} (enc : TypeId × Value → T) (P : Program) (t : TypeId) (sz : Nat) (R : Rl α) (Wf : α → Prop) : Prop :=
  ∀ (w : World) (base : Nat) (sp : Nat → Bool) (held : Bool) (fuel : Nat) (cs : List Value) (y : DataW T × List MemPlace), DataW.trod enc P w base sp held fuel t cs = some y → cs.length = sz ∧ ∃ x, R (hw w) cs x ∧ Wf x

def I64 (n : Int) : Prop := -9223372036854775808 ≤ n ∧ n ≤ 9223372036854775807

section
variable {T α : Type} {enc : TypeId × Value → T} {P : Program} {t : TypeId}
theorem Opens.int (ht : P.underlying t = some (.int .i64)) : Opens enc P t 1 RInt I64 := by
  intro w base sp held fuel cs y h
  obtain ⟨n, rfl, rfl, hwf⟩ := DataW.trod_int ht h
  refine ⟨rfl, n, rfl, ?_⟩
  simpa [Lit.wf, IntKind.min, IntKind.max, IntKind.signed, IntKind.bits, I64] using hwf
theorem Opens.bool (ht : P.underlying t = some .bool) : Opens enc P t 1 RBool (fun _ => True) := by
  intro w base sp held fuel cs y h
  obtain ⟨n, rfl, rfl⟩ := DataW.trod_bool ht h
  exact ⟨rfl, n, rfl, trivial⟩

theorem list_of {Pr : Nat → α → Prop} : ∀ n, (∀ i, i < n → ∃ x, Pr i x) → ∃ l : List α, l.length = n ∧ ∀ i x, l[i]? = some x → Pr i x
  | 0, _ => ⟨[], rfl, by simp⟩
  | n + 1, h => by
    obtain ⟨l, h1, h2⟩ := list_of n (fun i hi => h i (by omega))
    obtain ⟨x, hx⟩ := h n (by omega)
    refine ⟨l ++ [x], by simp [h1], fun i y hi => ?_⟩
    rw [List.getElem?_append] at hi
    split at hi
    · exact h2 i y hi
    · rename_i hge
      have : i - l.length = 0 := by
        have := (List.getElem?_eq_some_iff.1 hi).1
        simp at this; omega
      rw [this] at hi
      simp at hi
      have e : i = n := by omega
      subst e; subst hi; exact hx

theorem cells_of {w : World} {base sz : Nat} {a : Addr} {cs : List Value} (h : w.cells? base a sz = some cs) (hpos : 0 < sz) : cs.length = sz ∧ a.spot = none ∧ Cells (hw w) a.block a.off cs := by
  obtain ⟨_, hlen, hget⟩ := World.cells?_some h
  have h0 := hget 0 hpos
  have hs : a.spot = none := by
    cases hsp : a.spot with
    | none => rfl
    | some x =>
      have h1 : w.cell? (a.add 0) = none := by
        unfold Addr.add World.cell?
        simp [hsp]
        split <;> rfl
      rw [h1] at h0
      have := (List.getElem?_eq_none_iff.1 h0.symm)
      omega
  refine ⟨hlen, hs, ?_⟩
  have hblk : ∃ c e fz, w.heap[a.block]? = some (.cells c e fz) := by
    unfold Addr.add World.cell? at h0
    simp only [if_true] at h0
    split at h0
    · rename_i c e fz hb; exact ⟨c, e, fz, hb⟩
    · have := (List.getElem?_eq_none_iff.1 h0.symm); omega
  obtain ⟨c, e, fz, hb⟩ := hblk
  refine ⟨c, e, fz, hb, fun j v hv => ?_⟩
  have hj : j < sz := by have := (List.getElem?_eq_some_iff.1 hv).1; omega
  have h2 := hget j hj
  rw [hv] at h2
  unfold Addr.add World.cell? at h2
  by_cases hj0 : j = 0
  · subst hj0
    simp [hb, hs] at h2
    simpa using h2
  · simp [hj0, hb] at h2
    exact h2

theorem Opens.slice {e : TypeId} {sz : Nat} {R : Rl α} {Wf : α → Prop} (ht : P.underlying t = some (.slice e)) (hc : P.cellsOf e = sz) (hpos : Nat.blt 0 sz = true) (he : Opens enc P e sz R Wf) : Opens enc P t 1 (RSl sz R) (fun l => (∀ x ∈ l, Wf x) ∧ l.length ≤ 9223372036854775807) := by
  have hpos : 0 < sz := Nat.le_of_ble_eq_true hpos
  intro w base sp held fuel cs y h
  rcases DataW.trod_slice ht h with ⟨rfl, rfl⟩ | ⟨a, len, cap, elems, rest, n, _, rfl, rfl, hb, hl, hm, hlen, hel, _, _⟩
  · exact ⟨rfl, [], ⟨_, rfl, SL.nil⟩, by simp⟩
  · refine ⟨rfl, ?_⟩
    rw [hc] at hel
    have each : ∀ i, i < len → ∃ x, (∃ cs', Cells (hw w) a.block (a.off + i * sz) cs' ∧ cs'.length = sz ∧ R (hw w) cs' x ∧ a.spot = none) ∧ Wf x := fun i hi => by
      have h1 := hel i hi
      rw [List.getElem?_eq_getElem (by omega)] at h1
      obtain ⟨cs', h2, h3⟩ := Option.bind_eq_some_iff.1 h1
      obtain ⟨h4, x, h5, h6⟩ := he w base sp held n cs' _ h3
      obtain ⟨_, h7, h8⟩ := cells_of h2 hpos
      have hsp : a.spot = none := by
        by_cases h0 : i * sz = 0
        · rw [h0] at h7; simpa [Addr.add] using h7
        · -- the first element says it
          have h1' := hel 0 (by omega)
          rw [List.getElem?_eq_getElem (by omega)] at h1'
          obtain ⟨cs'', h2', _⟩ := Option.bind_eq_some_iff.1 h1'
          have := (cells_of h2' hpos).2.1
          simpa [Addr.add] using this
      refine ⟨x, ⟨cs', ?_, h4, h5, hsp⟩, h6⟩
      have e1 : (a.add (i * sz)).block = a.block := by unfold Addr.add; split <;> rfl
      have e2 : (a.add (i * sz)).off = a.off + i * sz := by unfold Addr.add; split <;> simp_all
      rw [e1, e2] at h8
      exact h8
    obtain ⟨l, h1, h2⟩ := list_of len each
    have hcap : l.length ≤ 9223372036854775807 ∧ l.length ≤ cap := by
      simp only [maxLen] at hm; omega
    refine ⟨l, ⟨_, rfl, ?_⟩, fun x hx => ?_, hcap.1⟩
    · refine ⟨some a, cap, by rw [h1], hcap, ?_⟩
      by_cases h0 : l = []
      · exact .inl h0
      · right
        have hne : 0 < len := by rw [← h1]; exact List.length_pos_iff.2 h0
        obtain ⟨_, ⟨_, _, _, _, hsp⟩, _⟩ := each 0 hne
        refine ⟨a.block, a.off, ?_, fun i x hi => ?_⟩
        · cases a; simp only at hsp; subst hsp; rfl
        · obtain ⟨⟨cs', k1, k2, k3, _⟩, _⟩ := h2 i x hi
          exact ⟨cs', k1, k2, k3⟩
    · obtain ⟨i, hi⟩ := List.mem_iff_getElem?.1 hx
      exact (h2 i x hi).2
end
end Go.Dec
end
section
namespace Go.Dec
open Go Go.RowKit

/-- a call whose result holds slices that the caller owns -/
def XC (P : Program) (k : Nat) (vs : List Value) (H : Hp) (Res : Hp → Value → List GS → Prop) : Prop :=
  ∀ w, HLe H w → Calls P k vs.toArray w fun en w' => ∃ H' v gs', en = .returned v ∧ St ⟨w, H⟩ H' [] gs' w' ∧ Res H' v gs'
def setx {α : Type} (l : List α) (i : Int) (x : α) : List α := l.set i.toNat x
theorem setx_len {α : Type} (l : List α) (i : Int) (x : α) : (setx l i x).length = l.length := by simp [setx]

section
variable {q : Md} {P : Program} {N : Nat} {ds : List Deferred} {B : Bs} {H : Hp} {ops : List Oper} {Q : Exit → Act → World → Prop} {rest : List Oper} {f : Nat → Value} {bs : List (Nat × Obj)} {gs : List GS}
variable {d : Nat} {t : TypeId} {p : String} {af : Array Edge} {g : Option (Nat × Bool)}

abbrev RetX (B : Bs) (Res : Hp → Value → List GS → Prop) : Ending → World → Prop := fun en w' => ∃ H' v gs', en = .returned v ∧ St B H' [] gs' w' ∧ Res H' v gs'
theorem XC.of {k N : Nat} {fn : Func} {c : Code} {vs : List Value} {H : Hp} {Res : Hp → Value → List GS → Prop} (hf : P.funcs[k]? = some fn) (hN : fn.ntmps = N) (hb : fn.body = some c) (hn : Nat.ble vs.length N = true)
    (h : ∀ w, JC P none N [] ⟨w, H⟩ H c (bodyPost P fn (RetX ⟨w, H⟩ Res)) (frame0 vs) [] []) : XC P k vs H Res := fun w hH => by
  subst hN
  have hn := Nat.le_of_ble_eq_true hn
  exact (callsIn_wide (n := 0)).1 (callsIn_of_wp hf hb trivial (h w (noOut_body (fun w' hq => by obtain ⟨_, _, _, h, _⟩ := hq; cases h) (fun c w' hq => by obtain ⟨_, _, _, h, _⟩ := hq; cases h)) _ w (fr_start hn) (St.start hH)))
theorem JQ.outX {fn : Func} {rs : List ResultVar} {vs : List Value} {Res : Hp → Value → List GS → Prop} (hr : fn.results = rs.toArray) (h : RV P f bs rs vs) (hres : Res H (resw vs) gs) : JQ N [] B H .ret (bodyPost P fn (RetX B Res)) f bs gs := fun _ a w ha hs =>
  ⟨ha.defers, _, h.results hr ha hs, H, _, gs, rfl, hs.sub (List.nil_sublist _) (List.Sublist.refl _), hres⟩
theorem JQ.fellX {fn : Func} {rs : List ResultVar} {vs : List Value} {Res : Hp → Value → List GS → Prop} (hr : fn.results = rs.toArray) (h : RV P f bs rs vs) (hres : Res H (resw vs) gs) : JQ N [] B H .normal (bodyPost P fn (RetX B Res)) f bs gs := fun _ a w ha hs =>
  ⟨ha.defers, _, h.results hr ha hs, H, _, gs, rfl, hs.sub (List.nil_sublist _) (List.Sublist.refl _), hres⟩

theorem St.gains {w w' : World} (hs : St B H bs gs w) {H' : Hp} {gs' : List GS} (hc : St ⟨w, H⟩ H' [] gs' w') : St B H' bs (gs' ++ gs) w' := by
  have k := hs.grow hc.below hc.hle hc.ext.1 hc.ext.2
  refine ⟨k.below, k.hle, k.ext, k.own, k.nodup, fun r hr => ?_, fun r hr b hb => ?_, List.pairwise_append.2 ⟨hc.rdisj, k.rdisj, fun r hr u hu b hb e => ?_⟩⟩
  · rcases List.mem_append.1 hr with hr | hr
    · obtain ⟨h1, h2⟩ := hc.row r hr
      refine ⟨h1, h2.imp id ?_⟩
      rintro ⟨g, cap, cur, h3, h4, h5⟩
      exact ⟨g, cap, cur, h3, Nat.le_trans hs.below.size h4, h5⟩
    · exact k.row r hr
  · rcases List.mem_append.1 hr with hr | hr
    · have hge := ((hc.row r hr).lt b hb).1
      refine ⟨(hc.rfresh r hr b hb).1, fun x hx e => ?_⟩
      have := hs.own_lt hx
      simp only at hge
      omega
    · exact k.rfresh r hr b hb
  · have h1 := ((hc.row r hr).lt b hb).1
    have h2 := ((hs.row u hu).lt b e).2
    simp only at h1
    omega
theorem JL.callXC {kf : Nat} {l : List Operand} {tt : Array TypeId} {vs : List Value} {Res : Hp → Value → List GS → Prop} (hc : XC P kf vs H Res) (hvs : l.map (ev f) = vs) (he : Ent P kf) (hw : Want ops f g) (hd : Nat.blt d N = true)
    (h : ∀ H' v gs', HSub H H' → Res H' v gs' → JL .plain P N ds B H' ops Q rest (upd f d v) bs (gs' ++ gs)) : JL .plain P N ds B H ops Q (⟨some d, .call ⟨.value (.func kf), l.toArray, tt⟩, t, p, af, g⟩ :: rest) f bs gs :=
  .step hw fun a w ha hs => by
    unfold Oper.wp
    rw [ha.eval, run_callF hvs he, Oper.upon_enter]
    refine (hc w hs.hle).mono fun e w' => ?_
    rintro ⟨H', v, gs', rfl, hst, hres⟩
    exact h H' v gs' hst.ext.1 hres _ _ (ha.put hd v) (hs.gains hst)

/-! ### elements -/
theorem St.rowAt {w : World} (hs : St B H bs gs w) {j : Nat} {gq : GS} (hj : gs[j]? = some gq) {b : Nat} (hb : gq.v.ownBlock = some b) : gq.xs.length = gq.n * gq.sz ∧ ∃ cap cur, gq.v = .slice (some ⟨b, 0, none⟩) gq.n cap ∧ B.w.heap.size ≤ b ∧ w.heap[b]? = some (.cells cur gq.e (0, 0)) ∧ gq.n ≤ cap ∧ cap ≤ maxLen ∧ cur.size = cap * gq.sz ∧ cur.toList.take (gq.n * gq.sz) = gq.xs := by
  obtain ⟨h1, h2⟩ := hs.row gq (List.mem_of_getElem? hj)
  refine ⟨h1, ?_⟩
  rcases h2 with ⟨hv, _⟩ | ⟨g, cap, cur, hv, h3, h4, h5, h6, h7, h8⟩
  · rw [hv] at hb; cases hb
  · rw [hv] at hb
    simp only [Value.ownBlock, Option.some.injEq] at hb
    subst hb
    exact ⟨cap, cur, hv, h3, h4, h5, h6, h7, h8⟩
theorem JL.indexG {α : Type} (j : Nat) {gq : GS} {l : List α} {y : α} {tx e : TypeId} {x ix : Operand} {k : IntKind} {i : Int} {sz : Nat} (ht : slT P tx = some (e, sz)) (hj : gs[j]? = some gq) (hx : ev f x = gq.v) (hn : gq.n = l.length) (hi : ev f ix = .int k i) (hy : geti l i = some y) (hw : Want ops f g) (hd : Nat.blt d N = true)
    (h : ∀ b, gq.v.ownBlock = some b → JL .plain P N ds B H ops Q rest (upd f d (.pointer (some ⟨b, 0 + i.toNat * sz, none⟩))) bs gs) : JL .plain P N ds B H ops Q (⟨some d, .indexAddr tx x ix, t, p, af, g⟩ :: rest) f bs gs := fun a w ha hs => by
  have hlt : 0 ≤ i ∧ i < gq.n := by
    unfold geti at hy
    split at hy
    · rename_i h0
      have := (List.getElem?_eq_some_iff.1 hy).1
      omega
    · cases hy
  obtain ⟨_, h2⟩ := hs.row gq (List.mem_of_getElem? hj)
  rcases h2 with ⟨_, h0⟩ | ⟨b, cap, cur, hv, _⟩
  · omega
  · exact JL.indexAt ht (hx.trans hv) hi hlt.1 hlt.2 hw hd (h b (by rw [hv]; rfl)) a w ha hs
theorem getElem?_take_of {l : List Value} {m j : Nat} {v : Value} (h : (l.take m)[j]? = some v) : l[j]? = some v := by
  rw [List.getElem?_take] at h
  split at h
  · exact h
  · cases h
theorem JL.loadG {α : Type} {R : Rl α} (j : Nat) {gq : GS} {b kk off sz : Nat} {i : Int} {l : List α} {y : α} {tx : TypeId} {x : Operand} {z : Bool × Nat} {v : Value} (hz : aggsz P tx = some z) (hx : ev f x = .pointer (some ⟨b, kk, none⟩)) (hk : kk = 0 + i.toNat * sz + off) (hj : gs[j]? = some gq) (hb : gq.v.ownBlock = some b)
    (hch : CH H sz R gq.xs l) (hy : geti l i = some y) (hv : ∀ cs, R H cs y → loadw z cs off = some v) (hw : Want ops f g) (hd : Nat.blt d N = true) (h : JL q P N ds B H ops Q rest (upd f d v) bs gs) : JL q P N ds B H ops Q (⟨some d, .load tx x, t, p, af, g⟩ :: rest) f bs gs := by
  refine .val hw hd (fun w hs => ?_) h
  unfold geti at hy
  split at hy
  · obtain ⟨cs, c1, c2, c3⟩ := hch.2 _ _ hy
    obtain ⟨_, cap, cur, _, _, h4, _, _, _, h8⟩ := hs.rowAt hj hb
    have hhas : Has w b (i.toNat * sz) cs := fun m u hu => by
      rw [cell_of_cells h4]
      have := c3 m u hu
      rw [← h8] at this
      have := getElem?_take_of this
      simpa using this
    have := run_load_of (P := P) (w := w) hz hhas (hv cs c2)
    subst hk
    rw [Nat.zero_add] at hx
    simp [execOp, hx, this]
  · cases hy
theorem CH.put {α : Type} {R : Rl α} {sz off : Nat} {i : Int} {xs cs2 : List Value} {l : List α} {y y' : α} (hch : CH H sz R xs l) (hy : geti l i = some y) (hoff : off + cs2.length ≤ sz) (hR : ∀ cs, R H cs y → R H (putC cs off cs2) y') : CH H sz R (putC xs (i.toNat * sz + off) cs2) (setx l i y') ∧ i.toNat * sz + off + cs2.length ≤ xs.length := by
  unfold geti at hy
  split at hy
  · obtain ⟨h1, h2⟩ := hch
    obtain ⟨cs, c1, c2, c3⟩ := h2 _ _ hy
    have hil := (List.getElem?_eq_some_iff.1 hy).1
    have hfit : i.toNat * sz + off + cs2.length ≤ xs.length := by
      have := Nat.mul_le_mul_right sz (show i.toNat + 1 ≤ l.length by omega)
      rw [Nat.succ_mul] at this
      rw [h1]; omega
    have hlen : (putC xs (i.toNat * sz + off) cs2).length = xs.length := by
      simp only [putC, List.length_append, List.length_take, List.length_drop]; omega
    have get : ∀ m, (putC xs (i.toNat * sz + off) cs2)[m]? = if m < i.toNat * sz + off then xs[m]? else if m < i.toNat * sz + off + cs2.length then cs2[m - (i.toNat * sz + off)]? else xs[m]? := fun m => by
      unfold putC
      have e1 : (xs.take (i.toNat * sz + off)).length = i.toNat * sz + off := by rw [List.length_take]; omega
      by_cases ha : m < i.toNat * sz + off
      · rw [if_pos ha, List.append_assoc, List.getElem?_append_left (by omega), List.getElem?_take, if_pos ha]
      · rw [if_neg ha]
        by_cases hb : m < i.toNat * sz + off + cs2.length
        · rw [if_pos hb, List.getElem?_append_left (by rw [List.length_append, e1]; omega), List.getElem?_append_right (by omega), e1]
        · rw [if_neg hb, List.getElem?_append_right (by rw [List.length_append, e1]; omega), List.length_append, e1, List.getElem?_drop]
          congr 1; omega
    have get2 : ∀ m, (putC cs off cs2)[m]? = if m < off then cs[m]? else if m < off + cs2.length then cs2[m - off]? else cs[m]? := fun m => by
      unfold putC
      have e1 : (cs.take off).length = off := by rw [List.length_take]; omega
      by_cases ha : m < off
      · rw [if_pos ha, List.append_assoc, List.getElem?_append_left (by omega), List.getElem?_take, if_pos ha]
      · rw [if_neg ha]
        by_cases hb : m < off + cs2.length
        · rw [if_pos hb, List.getElem?_append_left (by rw [List.length_append, e1]; omega), List.getElem?_append_right (by omega), e1]
        · rw [if_neg hb, List.getElem?_append_right (by rw [List.length_append, e1]; omega), List.length_append, e1, List.getElem?_drop]
          congr 1; omega
    refine ⟨⟨by rw [hlen, setx_len]; exact h1, fun m u hu => ?_⟩, hfit⟩
    unfold setx at hu
    rw [List.getElem?_set] at hu
    by_cases hm : i.toNat = m
    · subst hm
      rw [if_pos rfl, if_pos hil] at hu
      cases hu
      refine ⟨putC cs off cs2, ?_, hR cs c2, fun n v hv => ?_⟩
      · simp only [putC, List.length_append, List.length_take, List.length_drop]; omega
      · have hn : n < sz := by
          have := (List.getElem?_eq_some_iff.1 hv).1
          simp only [putC, List.length_append, List.length_take, List.length_drop] at this; omega
        rw [get2] at hv
        rw [get]
        by_cases ha : n < off
        · rw [if_pos ha] at hv
          rw [if_pos (by omega)]
          exact c3 n v hv
        · rw [if_neg ha] at hv
          rw [if_neg (by omega)]
          by_cases hb : n < off + cs2.length
          · rw [if_pos hb] at hv
            rw [if_pos (by omega), show i.toNat * sz + n - (i.toNat * sz + off) = n - off by omega]
            exact hv
          · rw [if_neg hb] at hv
            rw [if_neg (by omega)]
            exact c3 n v hv
    · rw [if_neg hm] at hu
      obtain ⟨ds, d1, d2, d3⟩ := h2 _ _ hu
      refine ⟨ds, d1, d2, fun n v hv => ?_⟩
      have hn : n < sz := by rw [← d1]; exact (List.getElem?_eq_some_iff.1 hv).1
      have hne : m * sz + n < i.toNat * sz ∨ i.toNat * sz + sz ≤ m * sz + n := by
        rcases Nat.lt_or_gt_of_ne hm with hlt | hgt
        · right
          have := Nat.mul_le_mul_right sz (show i.toNat + 1 ≤ m by omega)
          rw [Nat.succ_mul] at this
          omega
        · left
          have := Nat.mul_le_mul_right sz (show m + 1 ≤ i.toNat by omega)
          rw [Nat.succ_mul] at this
          omega
      rw [get]
      by_cases ha : m * sz + n < i.toNat * sz + off
      · rw [if_pos ha]; exact d3 n v hv
      · rw [if_neg ha, if_neg (by omega)]; exact d3 n v hv
  · cases hy
theorem St.storeRow {w : World} (hs : St B H bs gs w) {j : Nat} {gq : GS} (hj : gs[j]? = some gq) {b k : Nat} {cs : List Value} (hb : gq.v.ownBlock = some b) (hfit : k + cs.length ≤ gq.xs.length) {cur : Array Value} (hcur : w.heap[b]? = some (.cells cur gq.e (0, 0))) :
    St B H bs (gs.set j ⟨gq.v, gq.e, gq.sz, gq.n, putC gq.xs k cs⟩) (w.setRow b (cur.toList.take k ++ cs ++ cur.toList.drop (k + cs.length)).toArray) := by
  obtain ⟨h1, cap, cur', hv, h3, h4, h5, h6, h7, h8⟩ := hs.rowAt hj hb
  rw [hcur] at h4
  cases h4
  have hsz : gq.n * gq.sz ≤ cur.size := by rw [h7]; exact Nat.mul_le_mul_right _ h5
  have hnew := setRow_heap w b cur (cur.toList.take k ++ cs ++ cur.toList.drop (k + cs.length)).toArray _ _ hcur
  have key : w.grownBy (w.setRow b (cur.toList.take k ++ cs ++ cur.toList.drop (k + cs.length)).toArray) gq.v.ownBlock := ⟨rfl, rfl, rfl, Nat.le_of_eq (setRow_size _ _ _).symm, fun m hm hne => setRow_other w b m _ (fun e => hne (by rw [hb, e]))⟩
  refine hs.regrow hj key ⟨?_, .inr ⟨b, cap, _, hv, h3, hnew, h5, h6, ?_, ?_⟩⟩ (.inl rfl)
  · simp only [putC, List.length_append, List.length_take, List.length_drop]; omega
  · simp only [List.size_toArray, List.length_append, List.length_take, List.length_drop, Array.length_toList]; omega
  · have e0 : (cur.toList.take (gq.n * gq.sz)).length = gq.n * gq.sz := by rw [List.length_take, Array.length_toList]; omega
    have hk : k + cs.length ≤ gq.n * gq.sz := by omega
    rw [← h8]
    simp only [putC]
    rw [List.take_take, Nat.min_eq_left (by omega)]
    have e1 : (cur.toList.take k ++ cs).length = k + cs.length := by
      rw [List.length_append, List.length_take, Array.length_toList]; omega
    rw [List.take_append, List.take_of_length_le (by omega), e1, List.drop_take]
theorem JL.storeG {α : Type} {R : Rl α} (j : Nat) {gq : GS} {b kk off sz n : Nat} {r : Bool} {i : Int} {l : List α} {y y' : α} {tx : TypeId} {x u : Operand} {cs : List Value} (hz : aggsz P tx = some (r, n)) (hx : ev f x = .pointer (some ⟨b, kk, none⟩)) (hk : kk = 0 + i.toNat * sz + off) (hu : vcells (ev f u) = cs) (hn : cs.length = n) (h1 : AllOne cs)
    (hj : gs[j]? = some gq) (hb : gq.v.ownBlock = some b) (hch : CH H sz R gq.xs l) (hnl : gq.n = l.length) (hy : geti l i = some y) (hoff : Nat.ble (off + n) sz = true) (hR : ∀ cs', R H cs' y → R H (putC cs' off cs) y') (hw : Want ops f g)
    (h : ∀ xs', CH H sz R xs' (setx l i y') → JL .plain P N ds B H ops Q rest f bs (gs.set j ⟨gq.v, gq.e, gq.sz, (setx l i y').length, xs'⟩)) : JL .plain P N ds B H ops Q (⟨none, .store tx x u, t, p, af, g⟩ :: rest) f bs gs :=
  .step hw fun a w ha hs => by
    subst hn
    have hoff := Nat.le_of_ble_eq_true hoff
    obtain ⟨hc2, hfit⟩ := hch.put hy hoff hR
    obtain ⟨_, cap, cur, hv, _, h4, h5, _, h7, h8⟩ := hs.rowAt hj hb
    obtain ⟨_, hsz, _⟩ := run_isAgg_of (w := w) hz
    have hcs : gq.xs.length ≤ cur.size := by
      have := congrArg List.length h8
      rw [List.length_take, Array.length_toList] at this
      omega
    have hst := run_storeCells_at P b (i.toNat * sz + off) gq.e cs 0 cur w h4 (by omega) h1
    simp only [Nat.add_zero] at hst
    unfold Oper.wp
    have hr : (execOp (ev f) ⟨none, .store tx x u, t, p, af, g⟩).run P w = .ok .skip (w.setRow b (cur.toList.take (i.toNat * sz + off) ++ cs ++ cur.toList.drop (i.toNat * sz + off + cs.length)).toArray) := by
      subst hk
      rw [Nat.zero_add] at hx
      simp [execOp, hx, Instr.storeAt, Instr.sureAddr, storeVar, vcells_eq, hu, hsz, hst]
    rw [ha.eval, hr]
    have := hs.storeRow hj hb hfit h4
    rw [setx_len, ← hnl] at *
    exact h _ hc2 a _ ha this
end
end Go.Dec
end
section
namespace Go.Dec
open Go Go.RowKit

def bshl (k : IntKind) (x y : Int) : Int := k.wrap (x * 2 ^ (min y.toNat k.bits))
def bshr (k : IntKind) (x y : Int) : Int := x.fdiv (2 ^ (min y.toNat k.bits))
def band (k : IntKind) (x y : Int) : Int := k.wrap (((BitVec.ofInt k.bits x &&& BitVec.ofInt k.bits y).toNat : Nat) : Int)
def bor (k : IntKind) (x y : Int) : Int := k.wrap (((BitVec.ofInt k.bits x ||| BitVec.ofInt k.bits y).toNat : Nat) : Int)
def nneg (y : Int) : Option Unit := if y < 0 then none else some ()
theorem nneg_some {y : Int} {u : Unit} (h : nneg y = some u) : ¬ y < 0 := by
  unfold nneg at h; split at h
  · cases h
  · assumption

section
variable {q : Md} {P : Program} {N : Nat} {ds : List Deferred} {B : Bs} {H : Hp} {ops : List Oper} {Q : Exit → Act → World → Prop} {rest : List Oper} {f : Nat → Value} {bs : List (Nat × Obj)} {gs : List GS}
variable {d : Nat} {t : TypeId} {p : String} {af : Array Edge} {g : Option (Nat × Bool)}

theorem JL.shl {tx ty : TypeId} {x y : Operand} {k k' : IntKind} {m n : Int} (hx : ev f x = .int k m) (hy : ev f y = .int k' n) (h0 : ¬ n < 0) (hw : Want ops f g) (hd : Nat.blt d N = true)
    (h : JL q P N ds B H ops Q rest (upd f d (.int k (bshl k m n))) bs gs) : JL q P N ds B H ops Q (⟨some d, .binOp .shl tx x y ty, t, p, af, g⟩ :: rest) f bs gs :=
  .val hw hd (fun w _ => by simp [execOp, hx, hy, eqGuard, binOp, Op.shift, h0, bshl]) h
theorem JL.shr {tx ty : TypeId} {x y : Operand} {k k' : IntKind} {m n : Int} (hx : ev f x = .int k m) (hy : ev f y = .int k' n) (h0 : ¬ n < 0) (hw : Want ops f g) (hd : Nat.blt d N = true)
    (h : JL q P N ds B H ops Q rest (upd f d (.int k (bshr k m n))) bs gs) : JL q P N ds B H ops Q (⟨some d, .binOp .shr tx x y ty, t, p, af, g⟩ :: rest) f bs gs :=
  .val hw hd (fun w _ => by simp [execOp, hx, hy, eqGuard, binOp, Op.shift, h0, bshr]) h
theorem JL.and {tx ty : TypeId} {x y : Operand} {k : IntKind} {m n : Int} (hx : ev f x = .int k m) (hy : ev f y = .int k n) (hw : Want ops f g) (hd : Nat.blt d N = true)
    (h : JL q P N ds B H ops Q rest (upd f d (.int k (band k m n))) bs gs) : JL q P N ds B H ops Q (⟨some d, .binOp .and tx x y ty, t, p, af, g⟩ :: rest) f bs gs :=
  .val hw hd (fun w _ => by simp [execOp, hx, hy, eqGuard, binOp, Op.intBits, band]) h
theorem JL.or {tx ty : TypeId} {x y : Operand} {k : IntKind} {m n : Int} (hx : ev f x = .int k m) (hy : ev f y = .int k n) (hw : Want ops f g) (hd : Nat.blt d N = true)
    (h : JL q P N ds B H ops Q rest (upd f d (.int k (bor k m n))) bs gs) : JL q P N ds B H ops Q (⟨some d, .binOp .or tx x y ty, t, p, af, g⟩ :: rest) f bs gs :=
  .val hw hd (fun w _ => by simp [execOp, hx, hy, eqGuard, binOp, Op.intBits, bor]) h

/-- an array's elements: type, number -/
def arrT (P : Program) (t : TypeId) : Option (TypeId × Nat) := match P.underlying t with | some (.array n e) => some (e, n) | _ => none
/-- an element of an array value, of one cell each -/
theorem JL.indexArr {tx e : TypeId} {x ix : Operand} {k : IntKind} {i : Int} {len : Nat} {l : List Value} {v : Value} (ht : arrT P tx = some (e, len)) (hz : aggsz P e = some (false, 1)) (hx : ev f x = .agg l.toArray) (hi : ev f ix = .int k i) (hv : geti l i = some v) (hl : l.length = len) (hw : Want ops f g) (hd : Nat.blt d N = true)
    (h : JL q P N ds B H ops Q rest (upd f d v) bs gs) : JL q P N ds B H ops Q (⟨some d, .index tx x ix, t, p, af, g⟩ :: rest) f bs gs :=
  .val hw hd (fun w _ => by
    obtain ⟨h1, h2, _⟩ := run_isAgg_of (w := w) hz
    unfold arrT at ht
    split at ht
    · rename_i n' e' hu
      simp only [Option.some.injEq, Prod.mk.injEq] at ht
      obtain ⟨rfl, rfl⟩ := ht
      unfold geti at hv
      split at hv
      · rename_i h0
        have hlt : i < n' := by have := (List.getElem?_eq_some_iff.1 hv).1; omega
        simp [execOp, hx, hi, Instr.index, asIntOf, run_underlying hu, h0, hlt, part, h1, h2, hv]
      · cases hv
    · cases ht) h
theorem geti_map {α β : Type} {f : α → β} {l : List α} {i : Int} {x : α} (h : geti l i = some x) : geti (l.map f) i = some (f x) := by
  unfold geti at h ⊢
  split at h
  · rename_i h0; rw [if_pos h0, List.getElem?_map, h]; rfl
  · cases h

def mkn (n : Int) : Option Unit := if 0 ≤ n ∧ n ≤ 1048576 then some () else none
theorem mkn_some {n : Int} {u : Unit} (h : mkn n = some u) : 0 ≤ n ∧ n ≤ 1048576 := by
  unfold mkn at h; split at h
  · assumption
  · cases h
/-- a made slice of one cell an element, as an own growing one -/
theorem JL.makeG {α : Type} {R : Rl α} {t' e : TypeId} {x y : Operand} {k k' : IntKind} {n : Int} {z : Value} {z0 : α} (hA : apT P t' = some (e, 1, 8) ∨ apT P t' = some (e, 1, 1)) (hz : zeroL P e = some [z]) (hzz : z.cells = #[z]) (hR : ∀ H, R H [z] z0) (hx : ev f x = .int k n) (hy : ev f y = .int k' n) {u : Unit} (hn : mkn n = some u) (hw : Want ops f g) (hd : Nat.blt d N = true)
    (h : ∀ v xs, CH H 1 R xs (List.replicate n.toNat z0) → JL .plain P N ds B H ops Q rest (upd f d v) bs (⟨v, e, 1, (List.replicate n.toNat z0).length, xs⟩ :: gs)) : JL .plain P N ds B H ops Q (⟨some d, .makeSlice t' x y, t, p, af, g⟩ :: rest) f bs gs :=
  .step hw fun a w ha hst => by
    obtain ⟨h0, h1⟩ := mkn_some hn
    have hA' : ∃ i zz, P.underlying t' = some (.slice e) ∧ P.info? e = some i ∧ i.zero = some zz ∧ i.size = 1 ∧ i.bytes ≤ 8 := by
      rcases hA with hA | hA
      · obtain ⟨i, zz, h1, h2, h3, h4, h5, _⟩ := apT_spec hA; exact ⟨i, zz, h1, h2, h3, h4, by omega⟩
      · obtain ⟨i, zz, h1, h2, h3, h4, h5, _⟩ := apT_spec hA; exact ⟨i, zz, h1, h2, h3, h4, by omega⟩
    obtain ⟨i, zz, hu, hi, hzero, hs, hbytes⟩ := hA'
    have hmul : i.bytes * n.toNat ≤ 8 * n.toNat := Nat.mul_le_mul_right _ hbytes
    have hmul2 : (i.bytes : Int) * n ≤ 8 * n := Int.mul_le_mul_of_nonneg_right (by omega) h0
    have hm := run_makeSlice (P := P) (w := w) t' e i zz hu hi hzero k k' n n h0 (Int.le_refl _) (by rw [hs]; omega) (by first | omega | (rw [Int.mul_comm]; omega) | (rw [Nat.mul_comm]; omega)) (by omega)
    have hcs : zz.cells = #[z] := by
      unfold zeroL at hz
      rw [hi] at hz
      simp only [hzero, Option.map_some, Option.some.injEq] at hz
      rw [vcells_eq, hz]
    have hcells : madeCells zz.cells (n.toNat * i.size) = (List.replicate n.toNat z).toArray := by
      rw [hs, hcs]
      apply Array.ext
      · simp [madeCells]
      · intro j h1 h2
        simp [madeCells, Nat.mod_one]
    rw [hcells] at hm
    unfold Oper.wp
    rw [ha.eval]
    have hr : (execOp (ev f) ⟨some d, .makeSlice t' x y, t, p, af, g⟩).run P w = .ok (.value (.slice (some ⟨w.heap.size, 0, none⟩) n.toNat n.toNat)) (w.alloc (.cells (List.replicate n.toNat z).toArray e)) := by
      simp only [execOp, hx, hy]
      simp [hm]
    rw [hr]
    refine h _ (List.replicate n.toNat z) ⟨by simp, fun j u hj => ⟨[z], rfl, ?_, fun m v hv => ?_⟩⟩ _ _ (ha.put hd _) ?_
    · rw [List.getElem?_replicate] at hj
      split at hj
      · cases hj; exact hR H
      · cases hj
    · rw [List.getElem?_replicate] at hj
      split at hj
      · rename_i hlt
        cases m with
        | zero => simp at hv; subst hv; simp [hlt]
        | succ m => simp at hv
      · cases hj
    · have k := hst.alloc (.cells (List.replicate n.toNat z).toArray e)
      refine ⟨k.below, k.hle, k.ext, fun r hr => k.own r (List.mem_cons_of_mem _ hr), (List.pairwise_cons.1 k.nodup).2, fun r hr => ?_, fun r hr b hb => ?_, List.pairwise_cons.2 ⟨fun r hr b hb e => ?_, hst.rdisj⟩⟩
      · rcases List.mem_cons.1 hr with rfl | hr
        · refine ⟨by simp, .inr ⟨w.heap.size, n.toNat, (List.replicate n.toNat z).toArray, by simp, hst.below.size, ?_, by simp, by simp only [maxLen]; omega, by simp, by simp⟩⟩
          exact heap_alloc_new w _
        · exact k.row r hr
      · rcases List.mem_cons.1 hr with rfl | hr
        · simp [Value.ownBlock] at hb
          subst hb
          exact ⟨(k.own _ (List.mem_cons_self ..)).2.2, fun r hr e => by have := hst.own_lt hr; omega⟩
        · exact ⟨(k.rfresh r hr b hb).1, fun u hu => (k.rfresh r hr b hb).2 u (List.mem_cons_of_mem _ hu)⟩
      · simp [Value.ownBlock] at hb
        subst hb
        have := ((hst.row r hr).lt _ e).2
        omega

/-- the form of an own slice's value -/
def FormG (gq : GS) : Prop := ∀ i : Nat, i < gq.n → ∃ b cap, gq.v = .slice (some ⟨b, 0, none⟩) gq.n cap
theorem St.formG {w : World} (hs : St B H bs gs w) {j : Nat} {gq : GS} (hj : gs[j]? = some gq) : FormG gq := fun i hi => by
  obtain ⟨_, h2⟩ := hs.row gq (List.mem_of_getElem? hj)
  rcases h2 with ⟨_, h0⟩ | ⟨b, cap, cur, hv, _⟩
  · omega
  · exact ⟨b, cap, hv⟩
theorem JC.factG {ro : Option Nat} {c : Code} (j : Nat) {gq : GS} (hj : gs[j]? = some gq) (h : FormG gq → JC P ro N ds B H c Q f bs gs) : JC P ro N ds B H c Q f bs gs := fun hQ a w ha hs => h (hs.formG hj) hQ a w ha hs
theorem JL.factG {l : List Oper} (j : Nat) {gq : GS} (hj : gs[j]? = some gq) (h : FormG gq → JL .plain P N ds B H ops Q l f bs gs) : JL .plain P N ds B H ops Q l f bs gs := fun a w ha hs => h (hs.formG hj) a w ha hs
theorem JL.indexGq {α : Type} {gq : GS} {l : List α} {y : α} {tx e : TypeId} {x ix : Operand} {k : IntKind} {i : Int} {sz : Nat} (hF : FormG gq) (ht : slT P tx = some (e, sz)) (hx : ev f x = gq.v) (hn : gq.n = l.length) (hi : ev f ix = .int k i) (hy : geti l i = some y) (hw : Want ops f g) (hd : Nat.blt d N = true)
    (h : ∀ b, gq.v.ownBlock = some b → JL q P N ds B H ops Q rest (upd f d (.pointer (some ⟨b, 0 + i.toNat * sz, none⟩))) bs gs) : JL q P N ds B H ops Q (⟨some d, .indexAddr tx x ix, t, p, af, g⟩ :: rest) f bs gs := by
  have hlt : 0 ≤ i ∧ i < gq.n := by
    unfold geti at hy
    split at hy
    · rename_i h0
      have := (List.getElem?_eq_some_iff.1 hy).1
      omega
    · cases hy
  obtain ⟨b, cap, hv⟩ := hF i.toNat (by omega)
  exact JL.indexAt ht (hx.trans hv) hi hlt.1 hlt.2 hw hd (h b (by rw [hv]; rfl))

/-- own slices lent to a call -/
theorem JL.callLGX {op : Op} {kf : Nat} {vs : List Value} {v : Value} (hc : ∀ w, St B H bs gs w → Calls P kf vs.toArray w fun e w' => e = .returned v ∧ Kept H w w') (hr : ∀ w, (execOp (ev f) ⟨some d, op, t, p, af, g⟩).run P w = .ok (.enter kf vs.toArray) w) (hq : q.calls = true) (hw : Want ops f g) (hd : Nat.blt d N = true)
    (h : JL q P N ds B H ops Q rest (upd f d v) bs gs) : JL q P N ds B H ops Q (⟨some d, op, t, p, af, g⟩ :: rest) f bs gs := by
  match q with
  | .plain =>
    exact .step hw fun a w ha hs => by
      unfold Oper.wp
      rw [ha.eval, hr, Oper.upon_enter]
      refine (hc w hs).mono fun e w' => ?_
      rintro ⟨rfl, hb⟩
      exact h _ _ (ha.put hd v) (hs.keptX hb)
  | .quiet K =>
    intro a ha
    unfold wpQuiet
    rw [if_pos (Want.wanted ha (o := ⟨some d, op, t, p, af, g⟩) hw)]
    refine ⟨v, fun w hs => ?_, h _ (ha.put hd v)⟩
    unfold Oper.quietAt
    rw [ha.eval, hr]
    refine ⟨rfl, (hc w hs).mono fun e w' => ?_⟩
    rintro ⟨rfl, hb⟩
    exact ⟨rfl, hs.keptX hb⟩
  | .first K => cases hq
theorem JL.callLG1 {α : Type} {R : Rl α} (j : Nat) {gq : GS} {la : List α} {kf : Nat} {l : List Operand} {tt : Array TypeId} {vs : List Value} {v : Value} (hj : gs[j]? = some gq) (hR : Mono R) (hch : CH H gq.sz R gq.xs la) (hn : gq.n = la.length) (hc : ∀ H1, HSub H H1 → SL H1 gq.sz R gq.v la → SC P kf vs v H1) (hvs : l.map (ev f) = vs) (he : Ent P kf) (hw : Want ops f g) (hd : Nat.blt d N = true)
    (h : JL q P N ds B H ops Q rest (upd f d v) bs gs) (hq : q.calls = true := by rfl) : JL q P N ds B H ops Q (⟨some d, .call ⟨.value (.func kf), l.toArray, tt⟩, t, p, af, g⟩ :: rest) f bs gs :=
  .callLGX (fun w hs => by
    obtain ⟨H1, h1, h2, h3⟩ := hs.freezeG hj hR hch hn
    exact (hc H1 h1 h2 w h3.hle).mono fun _ _ he => ⟨he.1, he.2.down h1⟩) (run_callF hvs he) hq hw hd h
theorem JL.callLG2 {α β : Type} {R : Rl α} {S : Rl β} (j m : Nat) {gq gr : GS} {la : List α} {lb : List β} {kf : Nat} {l : List Operand} {tt : Array TypeId} {vs : List Value} {v : Value} (hj : gs[j]? = some gq) (hR : Mono R) (hch : CH H gq.sz R gq.xs la) (hn : gq.n = la.length) (hm : (gs.eraseIdx j)[m]? = some gr) (hS : Mono S) (hcs : CH H gr.sz S gr.xs lb) (hn2 : gr.n = lb.length)
    (hc : ∀ H1, HSub H H1 → SL H1 gq.sz R gq.v la → SL H1 gr.sz S gr.v lb → SC P kf vs v H1) (hvs : l.map (ev f) = vs) (he : Ent P kf) (hw : Want ops f g) (hd : Nat.blt d N = true)
    (h : JL q P N ds B H ops Q rest (upd f d v) bs gs) (hq : q.calls = true := by rfl) : JL q P N ds B H ops Q (⟨some d, .call ⟨.value (.func kf), l.toArray, tt⟩, t, p, af, g⟩ :: rest) f bs gs :=
  .callLGX (fun w hs => by
    obtain ⟨H1, h1, h2, h3⟩ := hs.freezeG hj hR hch hn
    obtain ⟨H2, k1, k2, k3⟩ := h3.freezeG hm hS (hcs.mono hS h1) hn2
    exact (hc H2 (h1.trans k1) (h2.mono hR k1) k2 w k3.hle).mono fun _ _ he => ⟨he.1, he.2.down (h1.trans k1)⟩) (run_callF hvs he) hq hw hd h

/-- the call of yield under a guard -/
theorem JL.atYieldG {σ ρ : Type} {l : List Oper} {m n lY d : Nat} {x z : Operand} {tt : Array TypeId} {t : TypeId} {p : String} {af : Array Edge} {post : List Oper} {A : Own1 σ} {Ax : Own1 ρ} {tl : List (Nat × Obj)} {y : σ ⊕ ρ}
    (hQ : NoOut Q) (hnd : noDefer l = true) (hl : l.drop m = ⟨some d, .call { callee := .value x, args := #[z], argTypes := tt }, t, p, af, g⟩ :: post) (hn : l.length - m = n)
    (hwg : Want l f g) (hx : ev f x = .func (.yield lY) #[] #[]) (hd : Nat.blt d N = true) (hy : ∀ w, St B H bs gs w → YieldAt (FR none) 0 P lY #[ev f z] w (After B H A Ax tl y))
    (hgo : ∀ s H' fr gs', y = .inl s → HSub H H' → A s H' fr gs' → JL .plain P N ds B H' l Q post (upd f d (.bool true)) (tl ++ fr) gs')
    (hstop : ∀ r H' fr gs', y = .inr r → HSub H H' → Ax r H' fr gs' → JL .plain P N ds B H' l Q post (upd f d (.bool false)) (tl ++ fr) gs') :
    JL .plain P N ds B H l (YQ P Q l m n) [] f bs gs := .nil fun a w ha hs => by
  have hlen : l.length - m = post.length + 1 := by rw [← List.length_drop, hl]; rfl
  show wpOpsIn (FR none) 0 P l.toArray Q (List.range' m n) a w
  rw [← hn, hlen, List.range'_succ]
  have hget : ∀ j, l[m + j]? = (l.drop m)[j]? := fun j => by rw [List.getElem?_drop]
  have h0 : l.toArray[m]? = some ⟨some d, .call { callee := .value x, args := #[z], argTypes := tt }, t, p, af, g⟩ := by
    have := hget 0; rw [hl] at this; simpa using this
  unfold wpOpsIn
  simp only [h0]
  have hw : Region.wanted ⟨some d, .call { callee := .value x, args := #[z], argTypes := tt }, t, p, af, g⟩ (yielded l.toArray a.tmps) = true := Want.wanted ha (o := ⟨some d, .call { callee := .value x, args := #[z], argTypes := tt }, t, p, af, g⟩) hwg
  rw [if_pos hw]
  refine ⟨fun _ _ => trivial, ?_⟩
  obtain ⟨fn, tmps, assign, body, hrun, hround⟩ := hy w hs
  have hexec : (execOp a.eval ⟨some d, .call { callee := .value x, args := #[z], argTypes := tt }, t, p, af, g⟩).run P w = .ok (.round lY fn tmps assign body) w := by
    rw [ha.eval]
    simp [execOp, hx, hrun, resolve, invoke, go_sem]
  rw [Oper.semAt_eq _ _ _ (by intro c; simp), hexec, Oper.uponIn_round]
  refine ⟨fun h => by simp [FR] at h, hround.mono ?_⟩
  intro e w'' hr
  have hrest : ∀ {v : Value} {H' : Hp} {bs' : List (Nat × Obj)} {gs' : List GS}, St B H' bs' gs' w'' → JL .plain P N ds B H' l Q post (upd f d v) bs' gs' → wpOpsIn (FR none) 0 P l.toArray Q (List.range' (m + 1) post.length) (a.put (some d) v) w'' := fun h1 h2 =>
    wpOpsIn_of_wpOps hnd hQ _ _ _ (wpOps_of_wpList post (m + 1) (fun j hj => by
      have := hget (j + 1)
      rw [hl] at this
      rw [Nat.add_assoc, Nat.add_comm 1 j]
      simpa using this.symm) _ _ (h2 _ _ (ha.put hd _) h1))
  cases e with
  | returned v =>
    obtain ⟨H', fr, gs', k1, k2, k3⟩ := hr
    cases y with
    | inl s => obtain ⟨rfl, k4⟩ := k3; exact hrest k2 (hgo s H' fr gs' rfl k1 k4)
    | inr r => obtain ⟨rfl, k4⟩ := k3; exact hrest k2 (hstop r H' fr gs' rfl k1 k4)
  | panicked c => exact hr.elim
  | outgrown => exact hr.elim

/-- own slices in another order -/
theorem St.permG {w : World} (h : St B H bs gs w) {gs' : List GS} (hp : gs.Perm gs') : St B H bs gs' w :=
  ⟨h.below, h.hle, h.ext, h.own, h.nodup, fun g hg => h.row g (hp.mem_iff.2 hg), fun g hg => h.rfresh g (hp.mem_iff.2 hg), (hp.pairwise_iff (fun {x y} hxy b hb e => hxy b e hb)).1 h.rdisj⟩
theorem JA.permG {k : Nat} {H0 : Hp} {bs0 : List (Nat × Obj)} {fuel : Nat} {listed : Array Bool} {gs' : List GS} (hp : gs.Perm gs') (h : JA P N ds B k H0 bs0 ops Q fuel listed H f bs gs') : JA P N ds B k H0 bs0 ops Q fuel listed H f bs gs := fun a w ha hs => h a w ha (hs.permG hp)
end
end Go.Dec
end
section
namespace Go.Dec
open Go Go.RowKit
section
variable {q : Md} {P : Program} {N : Nat} {ds : List Deferred} {B : Bs} {H : Hp} {ops : List Oper} {Q : Exit → Act → World → Prop} {rest : List Oper} {f : Nat → Value} {bs : List (Nat × Obj)} {gs : List GS}
variable {d : Nat} {t : TypeId} {p : String} {af : Array Edge} {g : Option (Nat × Bool)}
theorem JL.min4 {tt : Array TypeId} {x y z u : Operand} {k : IntKind} {m n r s : Int} (hx : ev f x = .int k m) (hy : ev f y = .int k n) (hz : ev f z = .int k r) (hu : ev f u = .int k s) (hw : Want ops f g) (hd : Nat.blt d N = true)
    (h : JL q P N ds B H ops Q rest (upd f d (.int k (Min.min (Min.min (Min.min m n) r) s))) bs gs) : JL q P N ds B H ops Q (⟨some d, .call ⟨.builtin .min, #[x, y, z, u], tt⟩, t, p, af, g⟩ :: rest) f bs gs :=
  .val hw hd (fun w _ => by simp [execOp, resolve, invoke, builtin, Builtin.min_, hx, hy, hz, hu, go_sem, Builtin.min2]; omega) h
theorem JL.max4 {tt : Array TypeId} {x y z u : Operand} {k : IntKind} {m n r s : Int} (hx : ev f x = .int k m) (hy : ev f y = .int k n) (hz : ev f z = .int k r) (hu : ev f u = .int k s) (hw : Want ops f g) (hd : Nat.blt d N = true)
    (h : JL q P N ds B H ops Q rest (upd f d (.int k (Max.max (Max.max (Max.max m n) r) s))) bs gs) : JL q P N ds B H ops Q (⟨some d, .call ⟨.builtin .max, #[x, y, z, u], tt⟩, t, p, af, g⟩ :: rest) f bs gs :=
  .val hw hd (fun w _ => by simp [execOp, resolve, invoke, builtin, Builtin.max_, hx, hy, hz, hu, go_sem, Builtin.max2]; omega) h
end
end Go.Dec
end
