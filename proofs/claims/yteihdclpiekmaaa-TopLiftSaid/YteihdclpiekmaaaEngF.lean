/-
  Regions that draw their order and make memory: which operation comes next, the order left open.
-/
import Derived.Test.YteihdclpiekmaaaEngE
namespace Go.Dec
open Go Go.RowKit

section
variable {P : Program} {N : Nat} {ds : List Deferred} {B : Bs} {H : Hp} {ops : List Oper} {Q : Exit → Act → World → Prop} {f : Nat → Value} {bs : List (Nat × Obj)} {gs : List GS}

def Ext (B : Bs) (H : Hp) : Prop := HSub B.H H ∧ ∀ b, b < B.w.heap.size → H b = B.H b

/-- less data, fewer own blocks -/
theorem St.lower {w : World} (h : St B H bs gs w) {H0 : Hp} {bs0 : List (Nat × Obj)} {gs0 : List GS} (he : Ext B H0) (hH : HSub H0 H) (hb : bs0.Sublist bs) (hg : gs0.Sublist gs) : St B H0 bs0 gs0 w := by
  have none_of : ∀ b, H b = none → H0 b = none := fun b hb => by
    cases h0 : H0 b with
    | none => rfl
    | some o => rw [hH b o h0] at hb; cases hb
  have k := h.sub hb hg
  exact ⟨k.below, fun b o hb => k.hle b o (hH b o hb), he, fun p hp => ⟨(k.own p hp).1, (k.own p hp).2.1, none_of _ (k.own p hp).2.2⟩, k.nodup, k.row, fun g hg b hb => ⟨none_of _ (k.rfresh g hg b hb).1, (k.rfresh g hg b hb).2⟩, k.rdisj⟩

/-- own blocks in another order -/
theorem St.perm {w : World} (h : St B H bs gs w) {bs' : List (Nat × Obj)} (hp : bs.Perm bs') : St B H bs' gs w :=
  ⟨h.below, h.hle, h.ext, fun p hq => h.own p (hp.mem_iff.2 hq), (hp.pairwise_iff (fun hxy e => hxy e.symm)).1 h.nodup, h.row, fun g hg b hb => ⟨(h.rfresh g hg b hb).1, fun p hq => (h.rfresh g hg b hb).2 p (hp.mem_iff.2 hq)⟩, h.rdisj⟩

/-! ### one condition on the world, until a sink comes up -/
def sinkOn (ops : Array Oper) (k i : Nat) : Bool := match ops[k]? with
  | none => true
  | some o => o.after.any fun e => Region.binds .any e && e.on == i
def wpAnyK (P : Program) (ops : Array Oper) (Q : Exit → Act → World → Prop) (k : Nat) (S : World → Prop) : Nat → Array Bool → Act → World → Prop
  | 0, listed, a, w => Region.ready .any ops listed = [] ∧ Q .normal a w
  | fuel + 1, listed, a, w =>
    (Region.ready .any ops listed = [] → Q .normal a w) ∧
    ∀ i ∈ Region.ready .any ops listed, wpOp P ops Q i (fun a' w' => ((listed.setIfInBounds i true).getD k false = false → S w') ∧ wpAnyK P ops Q k S fuel (listed.setIfInBounds i true) a' w') a w
theorem wpAny_of_K {O : Array Oper} {k : Nat} {S : World → Prop} : ∀ (fuel : Nat) (listed : Array Bool) (a : Act) (w : World), wpAnyK P O Q k S fuel listed a w → wpAny P .any O Q fuel listed a w
  | 0, _, _, _, h => h
  | fuel + 1, _, _, _, h => ⟨h.1, fun i hi => wpOp_mono (fun a' w' h' => wpAny_of_K fuel _ a' w' h'.2) (h.2 i hi)⟩

theorem wpAnyK_first {O : Array Oper} {k : Nat} {S : World → Prop} {i : Nat} {oi : Oper} {v : Value} (hi : O[i]? = some oi) (hsel : ∀ (j : Nat) (o : Oper) cs b, O[j]? = some o → o.op ≠ .select cs b)
    (hk : sinkOn O k i = true) (hQ : ∀ c a w, Q (.panic c) (a.put oi.dst v) w → Q (.panic c) a w) :
    ∀ (fuel : Nat) (listed : Array Bool) (a : Act) (w : World),
      (∀ j oj, O[j]? = some oj → j ≠ i → listed.getD j true = false → (∀ e ∈ oj.after, Region.binds .any e = true → e.on ≠ i) → oi.apart O oj = true) →
      i ∈ Region.ready .any O listed → YieldsIf P O S oi v a → listed.getD k false = false → S w →
      wpAnyK P O Q k S fuel (listed.setIfInBounds i true) (a.put oi.dst v) w → wpAnyK P O Q k S (fuel + 1) listed a w := by
  -- the sink waits for number i
  have notk : ∀ (listed : Array Bool) (j : Nat), i ∈ Region.ready .any O listed → j ∈ Region.ready .any O listed → j ≠ k := by
    intro listed j hr hj e
    subst e
    obtain ⟨hjun, oj, hoj, hall⟩ := mem_ready.1 hj
    simp only [sinkOn, hoj] at hk
    obtain ⟨e, he, hb⟩ := Array.any_eq_true'.1 hk
    simp only [Bool.and_eq_true, beq_iff_eq] at hb
    have h1 := hall e he hb.1
    have h0 := (mem_ready.1 hr).1
    rw [hb.2] at h1
    rcases Nat.lt_or_ge i listed.size with h' | h'
    · simp [h'] at h0 h1; rw [h0] at h1; cases h1
    · simp [Array.getElem?_eq_none h'] at h1
  intro fuel
  induction fuel with
  | zero =>
    intro listed a w _ hr hy _ hS H
    refine ⟨fun h => (by rw [h] at hr; cases hr), fun j hj => ?_⟩
    by_cases hji : j = i
    · subst hji; exact hy.wpOp hi hS ⟨fun _ => hS, H⟩
    · have := ready_mono hj hji
      rw [H.1] at this
      cases this
  | succ fuel ih =>
    intro listed a w hfree hr hy hl hS H
    refine ⟨fun h => (by rw [h] at hr; cases hr), fun j hj => ?_⟩
    by_cases hji : j = i
    · subst hji; exact hy.wpOp hi hS ⟨fun _ => hS, H⟩
    · have h1 := H.2 j (ready_mono hj hji)
      have hjk := notk listed j hr hj
      obtain ⟨hjun, oj, hoj, hall⟩ := mem_ready.1 hj
      have hnot : ∀ e ∈ oj.after, Region.binds .any e = true → e.on ≠ i := fun e he hb heq => by
        have h1 := hall e he hb
        have h0 := (mem_ready.1 hr).1
        rw [heq] at h1
        rcases Nat.lt_or_ge i listed.size with h' | h'
        · simp [h'] at h0 h1; rw [h0] at h1; cases h1
        · simp [Array.getElem?_eq_none h'] at h1
      have h2 := wpOp_putIf hoj (hfree j oj hoj hji hjun hnot) (fun cs b => hsel i oi cs b hi) (fun cs b => hsel j oj cs b hoj) hQ hy h1
      have hfree' : ∀ k ok, O[k]? = some ok → k ≠ i → (listed.setIfInBounds j true).getD k true = false →
          (∀ e ∈ ok.after, Region.binds .any e = true → e.on ≠ i) → oi.apart O ok = true := fun k ok hk hki hun hno => by
        refine hfree k ok hk hki ?_ hno
        by_cases hjk : j = k
        · subst hjk; exact hjun
        · rw [getD_set_ne true hjk] at hun; exact hun
      have hlj : (listed.setIfInBounds j true).getD k false = false := by rw [getD_set_ne false hjk]; exact hl
      have hli : ((listed.setIfInBounds i true).setIfInBounds j true).getD k false = false := by
        rw [getD_set_ne false hjk, getD_set_ne false (notk listed i hr hr)]; exact hl
      refine wpOp_mono (fun a' w' h3 => ⟨fun _ => h3.2.1 hli, ih (listed.setIfInBounds j true) a' w' hfree' (ready_mono hr (Ne.symm hji)) h3.1 hlj (h3.2.1 hli) ?_⟩) h2
      rw [Array.setIfInBounds_comm _ _ hji]
      exact h3.2.2
theorem wpAnyK_all {O : Array Oper} {k : Nat} {S : World → Prop} {rs : List Nat} {fuel : Nat} {listed : Array Bool} {a : Act} {w : World} (hr : Region.ready .any O listed = rs) (hne : rs ≠ [])
    (h : ∀ i ∈ rs, wpOp P O Q i (fun a' w' => ((listed.setIfInBounds i true).getD k false = false → S w') ∧ wpAnyK P O Q k S fuel (listed.setIfInBounds i true) a' w') a w) : wpAnyK P O Q k S (fuel + 1) listed a w :=
  ⟨fun h0 => absurd (hr ▸ h0) hne, hr ▸ h⟩

/-- from here on, whatever order; St B H0 bs0 []: the class of worlds that stays, until number k has come up -/
def JA (P : Program) (N : Nat) (ds : List Deferred) (B : Bs) (k : Nat) (H0 : Hp) (bs0 : List (Nat × Obj)) (ops : List Oper) (Q : Exit → Act → World → Prop) (fuel : Nat) (listed : Array Bool) (H : Hp) (f : Nat → Value) (bs : List (Nat × Obj)) (gs : List GS) : Prop :=
  ∀ a w, Fr N ds a f → St B H bs gs w → wpAnyK P ops.toArray Q k (St B H0 bs0 []) fuel listed a w

variable {k : Nat} {H0 : Hp} {bs0 : List (Nat × Obj)} {fuel : Nat} {listed listed' : Array Bool}

theorem JC.mixed {ro : Option Nat} {id : Nat} {l : List Oper} (k n : Nat) (L0 : Array Bool) (bs0 : List (Nat × Obj)) (hnd : noDefer l = true) (hm : P.follows .mixedOrders = true) (hn : l.length = n) (hL : Array.replicate n false = L0)
    (h : NoOut Q → Ext B H → JA P N ds B k H bs0 l Q n L0 H f bs gs) : JC P ro N ds B H (.region id l.toArray true) Q f bs gs := fun hQ a w ha hs => by
  refine wpIn_region_draw fun t => ?_
  simp only [Region.schedule, hm, Bool.true_or, if_true]
  refine wpOpsIn_of_wpOps hnd hQ _ a _ (wpAny_sound _ t _ a _ (wpAny_of_K (k := k) (S := St B H bs0 []) _ _ _ _ ?_))
  subst hn; subst hL
  have := h hQ hs.ext a _ ha (hs.drew (w.drawn + 1))
  simpa using this

theorem JA.take (i : Nat) {o : Oper} (hQ : NoOut Q) (hi : ops[i]? = some o) (hs : Region.noSelect ops.toArray = true) (hf : Region.free .any ops.toArray listed i = true) (hr : (Region.ready .any ops.toArray listed).contains i = true)
    (hl : listed.setIfInBounds i true = listed') (hk : (sinkOn ops.toArray k i && !listed.getD k false) = true)
    (he : Ext B H0) (hH : HSub H0 H) (hb : bs0.Sublist bs)
    (h : JL (.first fun a' => ∀ w, St B H bs gs w → wpAnyK P ops.toArray Q k (St B H0 bs0 []) fuel listed' a' w) P N ds B H0 ops Q [o] f bs0 []) :
    JA P N ds B k H0 bs0 ops Q (fuel + 1) listed H f bs gs := fun a w ha hst => by
  subst hl
  obtain ⟨v, hy, hK⟩ := h a ha
  simp only [Bool.and_eq_true, Bool.not_eq_true'] at hk
  exact wpAnyK_first (by simpa using hi) (Region.noSelect_spec hs) hk.1 (fun c a' w' hq => absurd hq (hQ.2 c _ w')) _ _ _ _ (Region.free_spec (by simpa using hi) hf) (by simpa using hr) hy hk.2 (hst.lower he hH hb (List.nil_sublist _)) (hK w hst)
theorem JA.cont (h : JA P N ds B k H0 bs0 ops Q fuel listed H f bs gs) :
    JL (.first fun a' => ∀ w, St B H bs gs w → wpAnyK P ops.toArray Q k (St B H0 bs0 []) fuel listed a' w) P N ds B H0 ops Q [] f bs0 [] := fun a ha w hs => h a w ha hs

/-- where an operation has been carried out -/
def QA (P : Program) (B : Bs) (k : Nat) (H0 : Hp) (bs0 : List (Nat × Obj)) (ops : List Oper) (Q : Exit → Act → World → Prop) (fuel : Nat) (listed : Array Bool) : Exit → Act → World → Prop
  | .normal, a, w => (listed.getD k false = false → St B H0 bs0 [] w) ∧ wpAnyK P ops.toArray Q k (St B H0 bs0 []) fuel listed a w
  | e, a, w => Q e a w
theorem Oper.wp_QA {o : Oper} {a : Act} {w : World} {K : Act → World → Prop} {Q' : Exit → Act → World → Prop} (hQ : ∀ c a w, Q' (.panic c) a w → Q (.panic c) a w) (hL : LetsOut Q' → LetsOut Q) (h : o.wp P a w K Q') : o.wp P a w K Q := by
  unfold Oper.wp at *
  generalize (execOp a.eval o).run P w = r at *
  match r with
  | .ok (.value v) w' => exact h
  | .ok .skip w' => exact h
  | .ok (.defer d) w' => exact h
  | .ok (.enter k args) w' =>
    refine Calls.mono (show Calls P k args w' _ from h) fun e w'' he => ?_
    cases e with
    | returned v => exact he
    | panicked c => exact hQ c _ _ he
    | outgrown => exact hL he
  | .ok (.row row args) w' => exact h
  | .halt (.panic v) w' => exact hQ _ _ _ h
theorem wpOp_of_JL {i : Nat} {o : Oper} (hi : ops[i]? = some o) (h : JL .plain P N ds B H ops (QA P B k H0 bs0 ops Q fuel (listed.setIfInBounds i true)) [o] f bs gs) {a : Act} {w : World} (ha : Fr N ds a f) (hs : St B H bs gs w) :
    wpOp P ops.toArray Q i (fun a' w' => ((listed.setIfInBounds i true).getD k false = false → St B H0 bs0 [] w') ∧ wpAnyK P ops.toArray Q k (St B H0 bs0 []) fuel (listed.setIfInBounds i true) a' w') a w := by
  have := h a w ha hs
  unfold wpOp
  have hi' : ops.toArray[i]? = some o := by simpa using hi
  simp only [hi']
  unfold wpList at this
  split
  · rename_i hw
    rw [if_pos hw] at this
    rcases this with h1 | ⟨h1, h2⟩
    · exact .inl (Oper.wp_QA (Q' := QA P B k H0 bs0 ops Q fuel (listed.setIfInBounds i true)) (fun c a w hq => hq) (fun ⟨a, w, hq⟩ => ⟨a, w, hq⟩) h1)
    · exact .inr ⟨h1, h2.elim fun a hx => hx.elim fun w hq => ⟨a, w, hq⟩⟩
  · rename_i hw
    rw [if_neg hw] at this
    exact this

theorem JA.many (rs : List Nat) (hr : Region.ready .any ops.toArray listed = rs) (hne : rs ≠ [])
    (h : ∀ i ∈ rs, ∃ o listed', ops[i]? = some o ∧ listed.setIfInBounds i true = listed' ∧ JL .plain P N ds B H ops (QA P B k H0 bs0 ops Q fuel listed') [o] f bs gs) :
    JA P N ds B k H0 bs0 ops Q (fuel + 1) listed H f bs gs := fun a w ha hs =>
  wpAnyK_all hr hne fun j hj => by
    obtain ⟨o, l', hi, rfl, hj⟩ := h j hj
    exact wpOp_of_JL hi hj ha hs
theorem all_one {p : Nat → Prop} {i : Nat} (h : p i) : ∀ j ∈ [i], p j := fun j hj => by rw [List.mem_singleton.1 hj]; exact h
theorem all_cons {p : Nat → Prop} {i : Nat} {l : List Nat} (h : p i) (h2 : ∀ j ∈ l, p j) : ∀ j ∈ i :: l, p j := fun j hj => by
  rcases List.mem_cons.1 hj with rfl | hj
  · exact h
  · exact h2 j hj
theorem JA.one (i : Nat) {o : Oper} (hr : Region.ready .any ops.toArray listed = [i]) (hi : ops[i]? = some o) (hl : listed.setIfInBounds i true = listed') (h : JL .plain P N ds B H ops (QA P B k H0 bs0 ops Q fuel listed') [o] f bs gs) :
    JA P N ds B k H0 bs0 ops Q (fuel + 1) listed H f bs gs :=
  JA.many [i] hr (by simp) (all_one ⟨o, listed', hi, hl, h⟩)
theorem JA.after (he : Ext B H0) (hH : HSub H0 H) (hb : bs0.Sublist bs) (h : JA P N ds B k H0 bs0 ops Q fuel listed H f bs gs) :
    JL .plain P N ds B H ops (QA P B k H0 bs0 ops Q fuel listed) [] f bs gs := .nil fun a w ha hs => ⟨fun _ => hs.lower he hH hb (List.nil_sublist _), h a w ha hs⟩
theorem JA.sink (hk : listed.getD k false = true) (h : JA P N ds B k H0 bs0 ops Q fuel listed H f bs gs) :
    JL .plain P N ds B H ops (QA P B k H0 bs0 ops Q fuel listed) [] f bs gs := .nil fun a w ha hs => ⟨fun h0 => (by rw [hk] at h0; cases h0), h a w ha hs⟩
theorem JA.done (hQ : NoOut Q) (hr : Region.ready .any ops.toArray listed = []) (h : JQ N ds B H .normal Q f bs gs) : JA P N ds B k H0 bs0 ops Q fuel listed H f bs gs := fun a w ha hs => by
  cases fuel with
  | zero => exact ⟨hr, h hQ a w ha hs⟩
  | succ n => exact ⟨fun _ => h hQ a w ha hs, fun i hi => by rw [hr] at hi; cases hi⟩
theorem JA.cut (fuel' : Nat) (listed' : Array Bool) (A : Hp → (Nat → Value) → List (Nat × Obj) → List GS → Prop) (h2 : ∀ H' f' bs' gs', A H' f' bs' gs' → JA P N ds B k H0 bs0 ops Q fuel' listed' H' f' bs' gs')
    (h1 : (∀ H' f' bs' gs', A H' f' bs' gs' → JA P N ds B k H0 bs0 ops Q fuel' listed' H' f' bs' gs') → JA P N ds B k H0 bs0 ops Q fuel listed H f bs gs) : JA P N ds B k H0 bs0 ops Q fuel listed H f bs gs := h1 h2
theorem JA.norm {i : Nat} {v : Value} (h : f i = v) (h2 : JA P N ds B k H0 bs0 ops Q fuel listed H (upd f i v) bs gs) : JA P N ds B k H0 bs0 ops Q fuel listed H f bs gs := upd_self h ▸ h2
theorem JA.perm {bs' : List (Nat × Obj)} (hp : bs.Perm bs') (h : JA P N ds B k H0 bs0 ops Q fuel listed H f bs' gs) : JA P N ds B k H0 bs0 ops Q fuel listed H f bs gs := fun a w ha hs => h a w ha (hs.perm hp)
end
end Go.Dec
