/-
  The logic's rules for statements, calls and loops.
-/
import Derived.Test.YteihdclpiekmaaaEngC
namespace Go.Dec
open Go Go.RowKit

/-- the fence that shuts nothing out; in a round of loop l: ro = some l -/
def FR (ro : Option Nat) : Fence := { fn := fun _ => True, depth := none, alive := false, round := ro }
def NoOut (Q : Exit → Act → World → Prop) : Prop := (∀ a w, ¬ Q .outgrown a w) ∧ ∀ c a w, ¬ Q (.panic c) a w
theorem NoOut.lets {Q : Exit → Act → World → Prop} (h : NoOut Q) : ¬ LetsOut Q := fun ⟨a, w, hq⟩ => h.1 a w hq

def noDefer (l : List Oper) : Bool := l.all fun o => match o.op with | .defer _ => false | _ => true
theorem noDefer_spec {l : List Oper} (h : noDefer l = true) {i : Nat} {o : Oper} (ho : l[i]? = some o) : ∀ c, o.op ≠ .defer c := by
  intro c e
  have := List.all_eq_true.1 h o (List.mem_of_getElem? ho)
  simp [e] at this

theorem wpOpsIn_of_wpOps {ro : Option Nat} {P : Program} {ops : List Oper} {Q : Exit → Act → World → Prop} (hnd : noDefer ops = true) (hQ : NoOut Q) : ∀ (l : List Nat) (a : Act) (w : World),
    wpOps P ops.toArray Q l a w → wpOpsIn (FR ro) 0 P ops.toArray Q l a w
  | [], _, _, h => h
  | i :: rest, a, w, h => by
    unfold wpOps at h
    unfold wpOpsIn
    cases ho : ops.toArray[i]? with
    | none => simp only [ho] at h ⊢; exact wpOpsIn_of_wpOps hnd hQ rest a w h
    | some o =>
      simp only [ho] at h ⊢
      have hod : ∀ c, o.op ≠ .defer c := noDefer_spec hnd (i := i) (by simpa using ho)
      split
      · rename_i hw
        rw [if_pos hw] at h
        rcases h with h | ⟨_, h⟩
        · refine ⟨fun _ _ => trivial, ?_⟩
          rw [Oper.semAt_eq _ _ _ hod]
          unfold Oper.wp at h
          generalize (execOp a.eval o).run P w = r at h
          match r with
          | .ok (.value v) w' => exact wpOpsIn_of_wpOps hnd hQ rest _ _ h
          | .ok .skip w' => exact wpOpsIn_of_wpOps hnd hQ rest _ _ h
          | .ok (.defer d) w' => exact wpOpsIn_of_wpOps hnd hQ rest _ _ h
          | .ok (.enter f args) w' =>
            refine ⟨fun h => by simp [FR] at h, ?_⟩
            have hc : Calls P f args w' _ := h
            have := (callsIn_wide (n := 0 - 1)).2 hc
            refine CallsIn.mono (R := _) (show CallsIn (FR ro) (0 - 1) P f args w' _ from this) ?_
            intro e w'' hr
            cases e with
            | returned v => exact wpOpsIn_of_wpOps hnd hQ rest _ _ hr
            | panicked c => exact hr
            | outgrown => exact hr
          | .ok (.row row args) w' =>
            refine ⟨fun h => by simp [FR] at h, ?_⟩
            have hc : Rows P row args w' _ := h
            intro c cs hroom
            obtain ⟨v, w'', hR, hs⟩ := hc c cs
            exact ⟨v, w'', wpOpsIn_of_wpOps hnd hQ rest _ _ hR, (StepsIn.of_steps hs).mono fun m _ => fenced_wide P m⟩
          | .halt (.panic v) w' => exact h
        · exact absurd h hQ.lets
      · rename_i hw
        rw [if_neg hw] at h
        exact ⟨fun _ _ => trivial, wpOpsIn_of_wpOps hnd hQ rest _ _ h⟩

/-- a statement, from a symbolic state -/
def JC (P : Program) (ro : Option Nat) (N : Nat) (ds : List Deferred) (B : Bs) (H : Hp) (c : Code) (Q : Exit → Act → World → Prop) (f : Nat → Value) (bs : List (Nat × Obj)) (gs : List GS) : Prop :=
  NoOut Q → ∀ a w, Fr N ds a f → St B H bs gs w → c.wpIn (FR ro) 0 P Q a w
/-- what is asked at a way out -/
def JQ (N : Nat) (ds : List Deferred) (B : Bs) (H : Hp) (e : Exit) (Q : Exit → Act → World → Prop) (f : Nat → Value) (bs : List (Nat × Obj)) (gs : List GS) : Prop :=
  NoOut Q → ∀ a w, Fr N ds a f → St B H bs gs w → Q e a w

section
variable {P : Program} {ro : Option Nat} {N : Nat} {ds : List Deferred} {B : Bs} {H : Hp} {Q : Exit → Act → World → Prop} {f : Nat → Value} {bs : List (Nat × Obj)} {gs : List GS}

theorem noOut_then {K : Act → World → Prop} : NoOut (Exit.then K Q) ↔ NoOut Q := Iff.rfl
theorem noOut_block {id : Nat} : NoOut (Exit.inBlock id Q) ↔ NoOut Q := Iff.rfl

theorem JC.seq {x y : Code} (h : JC P ro N ds B H x (Exit.then (fun a w => y.wpIn (FR ro) 0 P Q a w) Q) f bs gs) : JC P ro N ds B H (.seq x y) Q f bs gs :=
  fun hQ a w ha hs => wpIn_seq (h (noOut_then.2 hQ) a w ha hs)
theorem JQ.go {y : Code} (h : JC P ro N ds B H y Q f bs gs) : JQ N ds B H .normal (Exit.then (fun a w => y.wpIn (FR ro) 0 P Q a w) Q) f bs gs := fun hQ a w ha hs => h (noOut_then.1 hQ) a w ha hs
theorem JQ.exit_then {K : Act → World → Prop} {id : Nat} (h : JQ N ds B H (.exit id) Q f bs gs) : JQ N ds B H (.exit id) (Exit.then K Q) f bs gs := fun hQ a w ha hs => h (noOut_then.1 hQ) a w ha hs
theorem JQ.ret_then {K : Act → World → Prop} (h : JQ N ds B H .ret Q f bs gs) : JQ N ds B H .ret (Exit.then K Q) f bs gs := fun hQ a w ha hs => h (noOut_then.1 hQ) a w ha hs
theorem JC.block {id : Nat} {c : Code} (h : JC P ro N ds B H c (Exit.inBlock id Q) f bs gs) : JC P ro N ds B H (.block id c) Q f bs gs := fun hQ a w ha hs => wpIn_block (h (noOut_block.2 hQ) a w ha hs)
theorem JQ.exit_block {id : Nat} (h : JQ N ds B H .normal Q f bs gs) : JQ N ds B H (.exit id) (Exit.inBlock id Q) f bs gs := fun hQ a w ha hs => by
  simp only [Exit.inBlock, if_true]; exact h (noOut_block.1 hQ) a w ha hs
theorem JQ.exit_other {id k : Nat} (hne : Nat.beq k id = false) (h : JQ N ds B H (.exit k) Q f bs gs) : JQ N ds B H (.exit k) (Exit.inBlock id Q) f bs gs := fun hQ a w ha hs => by
  have : ¬ k = id := fun e => by simp [e] at hne
  simp only [Exit.inBlock, if_neg this]; exact h (noOut_block.1 hQ) a w ha hs
theorem JQ.ret_block {id : Nat} (h : JQ N ds B H .ret Q f bs gs) : JQ N ds B H .ret (Exit.inBlock id Q) f bs gs := fun hQ a w ha hs => h (noOut_block.1 hQ) a w ha hs
theorem JQ.normal_block {id : Nat} (h : JQ N ds B H .normal Q f bs gs) : JQ N ds B H .normal (Exit.inBlock id Q) f bs gs := fun hQ a w ha hs => h (noOut_block.1 hQ) a w ha hs
theorem JC.skip (h : JQ N ds B H .normal Q f bs gs) : JC P ro N ds B H .skip Q f bs gs := fun hQ a w ha hs => wpIn_skip (h hQ a w ha hs)
theorem JC.exit {id : Nat} (h : JQ N ds B H (.exit id) Q f bs gs) : JC P ro N ds B H (.exit id) Q f bs gs := fun hQ a w ha hs => wpIn_exit (h hQ a w ha hs)
theorem JC.ret (h : JQ N ds B H .ret Q f bs gs) : JC P ro N ds B H .ret Q f bs gs := fun hQ a w ha hs => wpIn_ret (h hQ a w ha hs)
theorem JC.cond_t {c : Operand} {x y : Code} {b : Bool} (hc : ev f c = .bool b) (hb : b = true) (h : JC P ro N ds B H x Q f bs gs) : JC P ro N ds B H (.cond c x y) Q f bs gs := fun hQ a w ha hs =>
  wpIn_cond_true (by rw [ha.eval, hc, hb]) (h hQ a w ha hs)
theorem JC.cond_f {c : Operand} {x y : Code} {b : Bool} (hc : ev f c = .bool b) (hb : b = false) (h : JC P ro N ds B H y Q f bs gs) : JC P ro N ds B H (.cond c x y) Q f bs gs := fun hQ a w ha hs =>
  wpIn_cond_false (by rw [ha.eval, hc, hb]) (h hQ a w ha hs)

theorem JC.region {id : Nat} {l : List Oper} (hnd : noDefer l = true) (h : NoOut Q → JL .plain P N ds B H l Q l f bs gs) : JC P ro N ds B H (.region id l.toArray false) Q f bs gs := fun hQ a w ha hs => by
  refine wpIn_region (wpOpsIn_of_wpOps hnd hQ _ a w ?_)
  rw [List.range_eq_range', List.size_toArray]
  have := wpOps_eq_wpList (P := P) (ops := l.toArray) (Q := Q) l 0 (by simp)
  rw [this]
  exact h hQ a w ha hs

theorem JC.draw {id : Nat} {l : List Oper} (hnd : noDefer l = true) (hm : P.follows .mixedOrders = true) (hB : Region.lexB .any l.toArray = true) (h : NoOut Q → JL (.quiet fun a' => ∀ w, St B H bs gs w → Q .normal a' w) P N ds B H l Q l f bs gs) : JC P ro N ds B H (.region id l.toArray true) Q f bs gs := fun hQ a w ha hs => by
  refine wpIn_region_draw fun t => ?_
  simp only [Region.schedule, hm, Bool.true_or, if_true]
  refine wpOpsIn_of_wpOps hnd hQ _ a _ (wpAny_sound _ t _ a _ ?_)
  simp only [Region.lexB, Bool.and_eq_true] at hB
  have hs' : St B H bs gs { w with drawn := w.drawn + 1 } := hs.drew _
  refine wpAny_of_quiet (C := St B H bs gs) (Q := fun a' => ∀ w', St B H bs gs w' → Q .normal a' w') (fun _ w' hw' hh => hh w' hw') _ _ _ _ hs' ?_
  have := wpAnyQ_lex (C := St B H bs gs) (md := .any) hB.1 l 0 (Array.replicate l.length false) a (by simp) (by simpa using hB.2) (h hQ a ha)
  simpa using this

theorem JL.done {ops : List Oper} (hQ : NoOut Q) (h : JQ N ds B H .normal Q f bs gs) : JL .plain P N ds B H ops Q [] f bs gs := .nil (h hQ)
theorem JL.doneQ {ops : List Oper} (hQ : NoOut Q) (h : JQ N ds B H .normal Q f bs gs) : JL (.quiet fun a' => ∀ w, St B H bs gs w → Q .normal a' w) P N ds B H ops Q [] f bs gs := fun a ha => wpQuiet_nil fun w hs => h hQ a w ha hs

/-! ### turning the state -/
theorem upd_self {f : Nat → Value} {i : Nat} {v : Value} (h : f i = v) : upd f i v = f := by
  funext j
  unfold upd
  cases hb : Nat.beq j i with
  | false => rfl
  | true => rw [cond_true, Nat.eq_of_beq_eq_true hb, h]
theorem JC.norm {c : Code} {i : Nat} {v : Value} (h : f i = v) (k : JC P ro N ds B H c Q (upd f i v) bs gs) : JC P ro N ds B H c Q f bs gs := upd_self h ▸ k
theorem JL.norm {q : Md} {ops l : List Oper} {i : Nat} {v : Value} (h : f i = v) (k : JL q P N ds B H ops Q l (upd f i v) bs gs) : JL q P N ds B H ops Q l f bs gs := upd_self h ▸ k
theorem JQ.norm {e : Exit} {i : Nat} {v : Value} (h : f i = v) (k : JQ N ds B H e Q (upd f i v) bs gs) : JQ N ds B H e Q f bs gs := upd_self h ▸ k

def mask {α : Type} : List Bool → List α → List α
  | true :: m, x :: l => x :: mask m l
  | false :: m, _ :: l => mask m l
  | [], l => l
  | _, [] => []
theorem mask_sublist {α : Type} : ∀ (m : List Bool) (l : List α), (mask m l).Sublist l
  | [], l => by simp [mask]
  | true :: _, [] => by simp [mask]
  | false :: _, [] => by simp [mask]
  | true :: m, x :: l => (mask_sublist m l).cons_cons x
  | false :: m, x :: l => (mask_sublist m l).cons x
theorem JC.mask {c : Code} (m n : List Bool) (k : JC P ro N ds B H c Q f (mask m bs) (Dec.mask n gs)) : JC P ro N ds B H c Q f bs gs := fun hQ a w ha hs => k hQ a w ha (hs.sub (mask_sublist _ _) (mask_sublist _ _))
theorem JQ.mask {e : Exit} (m n : List Bool) (k : JQ N ds B H e Q f (mask m bs) (Dec.mask n gs)) : JQ N ds B H e Q f bs gs := fun hQ a w ha hs => k hQ a w ha (hs.sub (mask_sublist _ _) (mask_sublist _ _))
theorem JL.mask {ops l : List Oper} (m n : List Bool) (k : JL .plain P N ds B H ops Q l f (mask m bs) (Dec.mask n gs)) : JL .plain P N ds B H ops Q l f bs gs := fun a w ha hs => k a w ha (hs.sub (mask_sublist _ _) (mask_sublist _ _))

/-! ### calls -/
def frame0 (vs : List Value) : Nat → Value := fun i => vs.getD i undef
theorem fr_start {vs : List Value} {N : Nat} (h : vs.length ≤ N) : Fr N [] { tmps := vs.toArray ++ Array.replicate (N - vs.toArray.size) undef, defers := [] } (frame0 vs) := by
  refine ⟨by simp; omega, rfl, fun i => ?_⟩
  simp only [frame0, Array.getD_eq_getD_getElem?, List.getD_eq_getElem?_getD, Array.getElem?_append, List.size_toArray, List.getElem?_toArray]
  split
  · rfl
  · rename_i hge
    rw [List.getElem?_eq_none (by omega)]
    simp only [Array.getElem?_replicate, Option.getD_none]
    split <;> rfl

def resv (f : Nat → Value) : List Nat → Value
  | [t] => f t
  | l => .tuple (l.map f).toArray
theorem run_mapM_tmp {w : World} {g : ResultVar → Sem Value} (hg : ∀ t, (g (.tmp t)).run P w = .ok (f t) w) : ∀ (l : List Nat), (List.mapM g (l.map ResultVar.tmp)).run P w = .ok (l.map f) w
  | [] => by simp
  | t :: l => by
    have ih := run_mapM_tmp hg l
    rw [List.map_cons, List.mapM_cons]
    simp only [Sem.run_bind, hg, Result.andThen_ok, ih, Sem.run_pure, List.map_cons]
theorem results_of {fn : Func} {l : List Nat} (h : fn.results = (l.map ResultVar.tmp).toArray) {a : Act} (ha : Fr N ds a f) (w : World) : (results fn a.tmps).run P w = .ok (resv f l) w := by
  unfold results
  rw [h]
  simp only [List.mapM_toArray, Sem.run_bind, Sem.run_map]
  rw [run_mapM_tmp (f := f) (fun t => by simp [ha.get])]
  match l with
  | [] => simp [resv]
  | [t] => simp [resv]
  | t :: u :: l => simp [resv]

def RetS (B : Bs) (v : Value) : Ending → World → Prop := fun e w' => e = .returned v ∧ Below B.w.heap.size B.w w'
def RetH (B : Bs) (Res : Hp → Value → Prop) : Ending → World → Prop := fun e w' => ∃ H' v, e = .returned v ∧ HSub B.H H' ∧ (∀ b, b < B.w.heap.size → H' b = B.H b) ∧ HLe H' w' ∧ Below B.w.heap.size B.w w' ∧ Res H' v

theorem noOut_body {fn : Func} {R : Ending → World → Prop} (h : ∀ w, ¬ R .outgrown w) (h2 : ∀ c w, ¬ R (.panicked c) w) : NoOut (bodyPost P fn R) := ⟨fun a w hq => h w hq, fun c a w hq => h2 c w hq.2⟩

theorem JQ.retS {fn : Func} {v : Value} (l : List Nat) (hr : fn.results = (l.map ResultVar.tmp).toArray) (hv : resv f l = v) : JQ N [] B H .ret (bodyPost P fn (RetS B v)) f bs gs := fun _ a w ha hs =>
  ⟨ha.defers, _, results_of hr ha w, by rw [hv], hs.below⟩
theorem JQ.retH {fn : Func} {Res : Hp → Value → Prop} (l : List Nat) (hr : fn.results = (l.map ResultVar.tmp).toArray) (hres : Res H (resv f l)) : JQ N [] B H .ret (bodyPost P fn (RetH B Res)) f bs gs := fun _ a w ha hs =>
  ⟨ha.defers, _, results_of hr ha w, H, _, rfl, hs.ext.1, hs.ext.2, hs.hle, hs.below, hres⟩
theorem JQ.endS {fn : Func} {v : Value} (l : List Nat) (hr : fn.results = (l.map ResultVar.tmp).toArray) (hv : resv f l = v) : JQ N [] B H .normal (bodyPost P fn (RetS B v)) f bs gs := fun _ a w ha hs =>
  ⟨ha.defers, _, results_of hr ha w, by rw [hv], hs.below⟩

theorem SC.of {k N : Nat} {fn : Func} {c : Code} {vs : List Value} {v : Value} {H : Hp} (hf : P.funcs[k]? = some fn) (hN : fn.ntmps = N) (hb : fn.body = some c) (hn : Nat.ble vs.length N = true)
    (h : ∀ w, JC P none N [] ⟨w, H⟩ H c (bodyPost P fn (RetS ⟨w, H⟩ v)) (frame0 vs) [] []) : SC P k vs v H := fun w hH => by
  subst hN
  have hn := Nat.le_of_ble_eq_true hn
  exact (callsIn_wide (n := 0)).1 (callsIn_of_wp hf hb trivial (h w (noOut_body (fun w' hq => by obtain ⟨h, _⟩ := hq; cases h) (fun c w' hq => by obtain ⟨h, _⟩ := hq; cases h)) _ w (fr_start hn) (St.start hH)))
theorem HC.of {k N : Nat} {fn : Func} {c : Code} {vs : List Value} {Res : Hp → Value → Prop} {H : Hp} (hf : P.funcs[k]? = some fn) (hN : fn.ntmps = N) (hb : fn.body = some c) (hn : Nat.ble vs.length N = true)
    (h : ∀ w, JC P none N [] ⟨w, H⟩ H c (bodyPost P fn (RetH ⟨w, H⟩ Res)) (frame0 vs) [] []) : HC P k vs H Res := fun w hH => by
  subst hN
  have hn := Nat.le_of_ble_eq_true hn
  exact (callsIn_wide (n := 0)).1 (callsIn_of_wp hf hb trivial (h w (noOut_body (fun w' hq => by obtain ⟨_, _, h, _⟩ := hq; cases h) (fun c w' hq => by obtain ⟨_, _, h, _⟩ := hq; cases h)) _ w (fr_start hn) (St.start hH)))

/-! ### loops -/
/-- a loop: 'inl': another round; 'inr': out of it -/
def loopO {S R : Type} : Nat → (S → Option (S ⊕ R)) → S → Option R
  | 0, _, _ => none
  | n + 1, step, s => match step s with
    | none => none
    | some (.inl s') => loopO n step s'
    | some (.inr r) => some r

theorem wpIn_loop_ind {F : Fence} {m : Nat} {c : Code} {a : Act} {w : World} (I : Nat → Act → World → Prop) {n : Nat} (h0 : I n a w)
    (round : ∀ n a w, I n a w → c.wpIn F m P (Exit.then (fun a' w' => ∃ n', n' < n ∧ I n' a' w') Q) a w) : (Code.loop c).wpIn F m P Q a w := by
  intro b k cs hro hb hr
  have key : ∀ j a w, I j a w →
      ∃ e a' w', Q e a' w' ∧ ArrivesIn (Machine.fenced P F) P (lone (b.atR a (.code c :: .inLoop c :: k)) cs w) b k cs e a' w' := by
    intro j
    induction j using Nat.strongRecOn with
    | _ j ih =>
      intro a w hI
      obtain ⟨e, a₁, w₁, hq, harr⟩ := round j a w hI b (.inLoop c :: k) cs hro hb hr
      cases e with
      | normal =>
        obtain ⟨n', hlt, hI₁⟩ := hq
        obtain ⟨e₂, a₂, w₂, hq₂, harr₂⟩ := ih n' hlt a₁ w₁ hI₁
        exact ⟨e₂, a₂, w₂, hq₂, .of_steps (StepsIn.trans harr (.one (fenced_calm hb hr rfl) stepR_inLoop)) harr₂⟩
      | exit id => exact ⟨_, a₁, w₁, hq, .pass (x := .inLoop c) rfl (fun _ _ => .inl (by simp)) harr⟩
      | goto l => exact ⟨_, a₁, w₁, hq, .pass (x := .inLoop c) rfl (fun _ _ => .inl (by simp)) harr⟩
      | ret => exact ⟨_, a₁, w₁, hq, .pass (x := .inLoop c) rfl (fun _ _ => .inl (by simp)) harr⟩
      | panic ch => exact ⟨_, a₁, w₁, hq, .pass (x := .inLoop c) rfl (fun _ _ => .inl (by simp)) harr⟩
      | outgrown => exact ⟨_, a₁, w₁, hq, .pass (x := .inLoop c) rfl (fun _ _ => .inl (by simp)) harr⟩
  obtain ⟨e, a', w', hq, harr⟩ := key _ a w h0
  exact ⟨e, a', w', hq, .of_steps (.one (fenced_calm hb hr rfl) stepR_loop) harr⟩

/-- the state between two rounds: what is said of it (A), and that it is there -/
def LNext {S R : Type} (N : Nat) (ds : List Deferred) (B : Bs) (A : S → Hp → (Nat → Value) → List (Nat × Obj) → List GS → Prop) (x : S ⊕ R) : Act → World → Prop := fun a w =>
  ∃ s', x = .inl s' ∧ ∃ H f bs gs, A s' H f bs gs ∧ Fr N ds a f ∧ St B H bs gs w

theorem JC.loop {S R : Type} {c : Code} {step : S → Option (S ⊕ R)} {n : Nat} {s0 : S} {r : R} (hF : loopO n step s0 = some r) (A : S → Hp → (Nat → Value) → List (Nat × Obj) → List GS → Prop) (h0 : A s0 H f bs gs)
    (body : ∀ s x H f bs gs, A s H f bs gs → step s = some x → (∀ r', x = .inr r' → r' = r) → JC P ro N ds B H c (Exit.then (LNext N ds B A x) Q) f bs gs) : JC P ro N ds B H (.loop c) Q f bs gs := fun hQ a w ha hs => by
  refine wpIn_loop_ind (fun n a w => ∃ s H f bs gs, A s H f bs gs ∧ loopO n step s = some r ∧ Fr N ds a f ∧ St B H bs gs w) ⟨s0, H, f, bs, gs, h0, hF, ha, hs⟩ ?_
  rintro n a w ⟨s, H, f, bs, gs, hA, hF, ha, hs⟩
  cases n with
  | zero => simp [loopO] at hF
  | succ n =>
    unfold loopO at hF
    cases hst : step s with
    | none => simp [hst] at hF
    | some x =>
      refine wpIn_mono (body s x H f bs gs hA hst (fun r' e => by subst e; simpa [hst] using hF) (noOut_then.2 hQ) a w ha hs) ?_
      intro e a' w' hq
      cases e with
      | normal =>
        obtain ⟨s', rfl, H', f', bs', gs', h1, h2, h3⟩ := hq
        exact ⟨n, Nat.lt_succ_self _, s', H', f', bs', gs', h1, by simpa [hst] using hF, h2, h3⟩
      | _ => exact hq
theorem JQ.next {S R : Type} {A : S → Hp → (Nat → Value) → List (Nat × Obj) → List GS → Prop} {x : S ⊕ R} {s' : S} (hx : x = .inl s') (hA : A s' H f bs gs) : JQ N ds B H .normal (Exit.then (LNext N ds B A x) Q) f bs gs :=
  fun _ _ _ ha hs => ⟨s', hx, H, f, bs, gs, hA, ha, hs⟩

/-! ### own blocks and slices handed over to the data -/
theorem Cells.ins {b : Nat} {l : List Value} {e : TypeId} : Cells (ins H b (.cells l.toArray e)) b 0 l := ⟨l.toArray, e, (0, 0), by simp [Dec.ins], fun j v hv => by simpa using hv⟩
theorem JC.freeze {c : Code} (i : Nat) {b : Nat} {o : Obj} (hi : bs[i]? = some (b, o)) (k : HSub H (ins H b o) → JC P ro N ds B (ins H b o) c Q f (bs.eraseIdx i) gs) : JC P ro N ds B H c Q f bs gs := fun hQ a w ha hs =>
  let ⟨h1, h2⟩ := hs.freeze hi
  k (HSub.ins h1 o) hQ a w ha h2
theorem JL.freeze {ops l : List Oper} (i : Nat) {b : Nat} {o : Obj} (hi : bs[i]? = some (b, o)) (k : HSub H (ins H b o) → JL .plain P N ds B (ins H b o) ops Q l f (bs.eraseIdx i) gs) : JL .plain P N ds B H ops Q l f bs gs := fun a w ha hs =>
  let ⟨h1, h2⟩ := hs.freeze hi
  k (HSub.ins h1 o) a w ha h2
end

/-- the cells of some elements, one behind the other -/
def CH {α : Type} (H : Hp) (sz : Nat) (R : Rl α) (xs : List Value) (l : List α) : Prop :=
  xs.length = l.length * sz ∧ ∀ i x, l[i]? = some x → ∃ cs, cs.length = sz ∧ R H cs x ∧ ∀ j v, cs[j]? = some v → xs[i * sz + j]? = some v
theorem CH.nil {α : Type} {H : Hp} {sz : Nat} {R : Rl α} : CH H sz R [] ([] : List α) := ⟨by simp, by simp⟩
theorem CH.mono {α : Type} {H H' : Hp} {sz : Nat} {R : Rl α} (hR : Mono R) (hs : HSub H H') {xs : List Value} {l : List α} (h : CH H sz R xs l) : CH H' sz R xs l :=
  ⟨h.1, fun i x hi => let ⟨cs, h1, h2, h3⟩ := h.2 i x hi; ⟨cs, h1, hR _ _ hs _ _ h2, h3⟩⟩
theorem CH.append {α : Type} {H : Hp} {sz : Nat} {R : Rl α} {xs ys : List Value} {l m : List α} (h : CH H sz R xs l) (k : CH H sz R ys m) : CH H sz R (xs ++ ys) (l ++ m) := by
  refine ⟨by simp [h.1, k.1, Nat.add_mul], fun i x hi => ?_⟩
  rw [List.getElem?_append] at hi
  split at hi
  · rename_i hlt
    obtain ⟨cs, h1, h2, h3⟩ := h.2 i x hi
    refine ⟨cs, h1, h2, fun j v hv => ?_⟩
    have := h3 j v hv
    rw [List.getElem?_append_left (List.getElem?_eq_some_iff.1 this).1]
    exact this
  · rename_i hge
    obtain ⟨cs, h1, h2, h3⟩ := k.2 _ x hi
    refine ⟨cs, h1, h2, fun j v hv => ?_⟩
    have := h3 j v hv
    have hle : l.length ≤ i := by omega
    have hi' : i * sz = l.length * sz + (i - l.length) * sz := by rw [← Nat.add_mul]; congr 1; omega
    rw [List.getElem?_append_right (by rw [h.1, hi']; omega), h.1, hi']
    rw [show l.length * sz + (i - l.length) * sz + j - l.length * sz = (i - l.length) * sz + j by omega]
    exact this
theorem CH.one {α : Type} {H : Hp} {sz : Nat} {R : Rl α} {cs : List Value} {x : α} (hl : cs.length = sz) (h : R H cs x) : CH H sz R cs [x] := by
  refine ⟨by simp [hl], fun i y hi => ?_⟩
  cases i with
  | zero => simp at hi; subst hi; exact ⟨cs, hl, h, fun j v hv => by simpa using hv⟩
  | succ i => simp at hi
theorem CH.cons {α : Type} {H : Hp} {sz : Nat} {R : Rl α} {cs ys : List Value} {x : α} {l : List α} (hl : cs.length = sz) (h : R H cs x) (k : CH H sz R ys l) : CH H sz R (cs ++ ys) (x :: l) := (CH.one hl h).append k
theorem CH.sl {α : Type} {H : Hp} {sz : Nat} {R : Rl α} {xs : List Value} {l : List α} {b o c : Nat} (h : CH H sz R xs l) (hc : Cells H b o xs) (hn : l.length ≤ 9223372036854775807 ∧ l.length ≤ c) : SL H sz R (.slice (some ⟨b, o, none⟩) l.length c) l := by
  refine ⟨_, c, rfl, hn, .inr ⟨b, o, rfl, fun i x hi => ?_⟩⟩
  obtain ⟨cs, h1, h2, h3⟩ := h.2 i x hi
  obtain ⟨ob, e, fz, k1, k2⟩ := hc
  exact ⟨cs, ⟨ob, e, fz, k1, fun j v hv => by rw [Nat.add_assoc]; exact k2 _ _ (h3 j v hv)⟩, h1, h2⟩

theorem _root_.Go.Dec.SL.cells {α : Type} {H : Hp} {sz : Nat} {R : Rl α} {v : Value} {l : List α} (h : SL H sz R v l) (hne : l ≠ []) : ∃ b o c xs, v = .slice (some ⟨b, o, none⟩) l.length c ∧ CH H sz R xs l ∧ Cells H b o xs := by
  obtain ⟨a, c, rfl, _, h3⟩ := h
  rcases h3 with rfl | ⟨b, o, rfl, h5⟩
  · exact absurd rfl hne
  · -- every element's cells lie in one block: they are that block's
    obtain ⟨x0, hx0⟩ : ∃ x, l[0]? = some x := by cases l; exact absurd rfl hne; exact ⟨_, rfl⟩
    obtain ⟨cs0, ⟨ob, e, fz, hb, _⟩, _⟩ := h5 0 x0 hx0
    have hcell : ∀ i x, l[i]? = some x → ∃ cs, cs.length = sz ∧ R H cs x ∧ ∀ j v, cs[j]? = some v → ob[o + i * sz + j]? = some v := fun i x hi => by
      obtain ⟨cs, ⟨ob', e', fz', hb', hcs⟩, k1, k2⟩ := h5 i x hi
      rw [hb] at hb'
      cases hb'
      exact ⟨cs, k1, k2, hcs⟩
    have hlen : o + l.length * sz ≤ ob.size ∨ sz = 0 := by
      rcases Nat.eq_zero_or_pos sz with h0 | hpos
      · exact .inr h0
      · left
        have hl : 0 < l.length := by cases l; exact absurd rfl hne; simp
        obtain ⟨cs, k1, _, k3⟩ := hcell (l.length - 1) (l[l.length - 1]'(by omega)) (List.getElem?_eq_getElem _)
        have := k3 (sz - 1) (cs[sz - 1]'(by omega)) (List.getElem?_eq_getElem _)
        have h6 := (Array.getElem?_eq_some_iff.1 this).1
        have : l.length * sz = (l.length - 1) * sz + sz := by
          obtain ⟨m, hm⟩ : ∃ m, l.length = m + 1 := ⟨l.length - 1, by omega⟩
          rw [hm]; simp [Nat.succ_mul]
        omega
    refine ⟨b, o, c, (ob.toList.drop o).take (l.length * sz), rfl, ⟨?_, fun i x hi => ?_⟩, ob, e, fz, hb, fun j v hv => ?_⟩
    · rcases hlen with h | h
      · simp; omega
      · simp [h]
    · obtain ⟨cs, k1, k2, k3⟩ := hcell i x hi
      refine ⟨cs, k1, k2, fun j v hv => ?_⟩
      have hlt : i < l.length := (List.getElem?_eq_some_iff.1 hi).1
      have hj : j < sz := by have := (List.getElem?_eq_some_iff.1 hv).1; omega
      have hbound : i * sz + j < l.length * sz := by
        have : (i + 1) * sz ≤ l.length * sz := Nat.mul_le_mul_right _ hlt
        rw [Nat.add_mul] at this; omega
      rw [List.getElem?_take, if_pos hbound, List.getElem?_drop]
      have := k3 j v hv
      simpa [Nat.add_assoc] using this
    · rw [List.getElem?_take] at hv
      split at hv
      · rw [List.getElem?_drop] at hv; simpa using hv
      · cases hv
end Go.Dec
