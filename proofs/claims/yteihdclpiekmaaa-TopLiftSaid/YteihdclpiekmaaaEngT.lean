/-
  Bits and shifts; elements of array values; made slices as own growing ones; own slices lent to calls; own slices in another order.
-/
import Derived.Test.YteihdclpiekmaaaEngS
namespace Go.Dec
open Go Go.RowKit

def bshl (k : IntKind) (x y : Int) : Int := k.wrap (x * 2 ^ (min y.toNat k.bits))
def bshr (k : IntKind) (x y : Int) : Int := x.fdiv (2 ^ (min y.toNat k.bits))
def band (k : IntKind) (x y : Int) : Int := k.wrap (((BitVec.ofInt k.bits x &&& BitVec.ofInt k.bits y).toNat : Nat) : Int)
def bor (k : IntKind) (x y : Int) : Int := k.wrap (((BitVec.ofInt k.bits x ||| BitVec.ofInt k.bits y).toNat : Nat) : Int)
def nneg (y : Int) : Option Unit := if y < 0 then none else some ()
theorem nneg_some {y : Int} {u : Unit} (h : nneg y = some u) : ¬ y < 0 := by
  unfold nneg at h; split at h
  · cases h
  · assumption

section
variable {q : Md} {P : Program} {N : Nat} {ds : List Deferred} {B : Bs} {H : Hp} {ops : List Oper} {Q : Exit → Act → World → Prop} {rest : List Oper} {f : Nat → Value} {bs : List (Nat × Obj)} {gs : List GS}
variable {d : Nat} {t : TypeId} {p : String} {af : Array Edge} {g : Option (Nat × Bool)}

theorem JL.shl {tx ty : TypeId} {x y : Operand} {k k' : IntKind} {m n : Int} (hx : ev f x = .int k m) (hy : ev f y = .int k' n) (h0 : ¬ n < 0) (hw : Want ops f g) (hd : Nat.blt d N = true)
    (h : JL q P N ds B H ops Q rest (upd f d (.int k (bshl k m n))) bs gs) : JL q P N ds B H ops Q (⟨some d, .binOp .shl tx x y ty, t, p, af, g⟩ :: rest) f bs gs :=
  .val hw hd (fun w _ => by simp [execOp, hx, hy, eqGuard, binOp, Op.shift, h0, bshl]) h
theorem JL.shr {tx ty : TypeId} {x y : Operand} {k k' : IntKind} {m n : Int} (hx : ev f x = .int k m) (hy : ev f y = .int k' n) (h0 : ¬ n < 0) (hw : Want ops f g) (hd : Nat.blt d N = true)
    (h : JL q P N ds B H ops Q rest (upd f d (.int k (bshr k m n))) bs gs) : JL q P N ds B H ops Q (⟨some d, .binOp .shr tx x y ty, t, p, af, g⟩ :: rest) f bs gs :=
  .val hw hd (fun w _ => by simp [execOp, hx, hy, eqGuard, binOp, Op.shift, h0, bshr]) h
theorem JL.and {tx ty : TypeId} {x y : Operand} {k : IntKind} {m n : Int} (hx : ev f x = .int k m) (hy : ev f y = .int k n) (hw : Want ops f g) (hd : Nat.blt d N = true)
    (h : JL q P N ds B H ops Q rest (upd f d (.int k (band k m n))) bs gs) : JL q P N ds B H ops Q (⟨some d, .binOp .and tx x y ty, t, p, af, g⟩ :: rest) f bs gs :=
  .val hw hd (fun w _ => by simp [execOp, hx, hy, eqGuard, binOp, Op.intBits, band]) h
theorem JL.or {tx ty : TypeId} {x y : Operand} {k : IntKind} {m n : Int} (hx : ev f x = .int k m) (hy : ev f y = .int k n) (hw : Want ops f g) (hd : Nat.blt d N = true)
    (h : JL q P N ds B H ops Q rest (upd f d (.int k (bor k m n))) bs gs) : JL q P N ds B H ops Q (⟨some d, .binOp .or tx x y ty, t, p, af, g⟩ :: rest) f bs gs :=
  .val hw hd (fun w _ => by simp [execOp, hx, hy, eqGuard, binOp, Op.intBits, bor]) h

/-- an array's elements: type, number -/
def arrT (P : Program) (t : TypeId) : Option (TypeId × Nat) := match P.underlying t with | some (.array n e) => some (e, n) | _ => none
/-- an element of an array value, of one cell each -/
theorem JL.indexArr {tx e : TypeId} {x ix : Operand} {k : IntKind} {i : Int} {len : Nat} {l : List Value} {v : Value} (ht : arrT P tx = some (e, len)) (hz : aggsz P e = some (false, 1)) (hx : ev f x = .agg l.toArray) (hi : ev f ix = .int k i) (hv : geti l i = some v) (hl : l.length = len) (hw : Want ops f g) (hd : Nat.blt d N = true)
    (h : JL q P N ds B H ops Q rest (upd f d v) bs gs) : JL q P N ds B H ops Q (⟨some d, .index tx x ix, t, p, af, g⟩ :: rest) f bs gs :=
  .val hw hd (fun w _ => by
    obtain ⟨h1, h2, _⟩ := run_isAgg_of (w := w) hz
    unfold arrT at ht
    split at ht
    · rename_i n' e' hu
      simp only [Option.some.injEq, Prod.mk.injEq] at ht
      obtain ⟨rfl, rfl⟩ := ht
      unfold geti at hv
      split at hv
      · rename_i h0
        have hlt : i < n' := by have := (List.getElem?_eq_some_iff.1 hv).1; omega
        simp [execOp, hx, hi, Instr.index, asIntOf, run_underlying hu, h0, hlt, part, h1, h2, hv]
      · cases hv
    · cases ht) h
theorem geti_map {α β : Type} {f : α → β} {l : List α} {i : Int} {x : α} (h : geti l i = some x) : geti (l.map f) i = some (f x) := by
  unfold geti at h ⊢
  split at h
  · rename_i h0; rw [if_pos h0, List.getElem?_map, h]; rfl
  · cases h

def mkn (n : Int) : Option Unit := if 0 ≤ n ∧ n ≤ 1048576 then some () else none
theorem mkn_some {n : Int} {u : Unit} (h : mkn n = some u) : 0 ≤ n ∧ n ≤ 1048576 := by
  unfold mkn at h; split at h
  · assumption
  · cases h
/-- a made slice of one cell an element, as an own growing one -/
theorem JL.makeG {α : Type} {R : Rl α} {t' e : TypeId} {x y : Operand} {k k' : IntKind} {n : Int} {z : Value} {z0 : α} (hA : apT P t' = some (e, 1, 8) ∨ apT P t' = some (e, 1, 1)) (hz : zeroL P e = some [z]) (hzz : z.cells = #[z]) (hR : ∀ H, R H [z] z0) (hx : ev f x = .int k n) (hy : ev f y = .int k' n) {u : Unit} (hn : mkn n = some u) (hw : Want ops f g) (hd : Nat.blt d N = true)
    (h : ∀ v xs, CH H 1 R xs (List.replicate n.toNat z0) → JL .plain P N ds B H ops Q rest (upd f d v) bs (⟨v, e, 1, (List.replicate n.toNat z0).length, xs⟩ :: gs)) : JL .plain P N ds B H ops Q (⟨some d, .makeSlice t' x y, t, p, af, g⟩ :: rest) f bs gs :=
  .step hw fun a w ha hst => by
    obtain ⟨h0, h1⟩ := mkn_some hn
    have hA' : ∃ i zz, P.underlying t' = some (.slice e) ∧ P.info? e = some i ∧ i.zero = some zz ∧ i.size = 1 ∧ i.bytes ≤ 8 := by
      rcases hA with hA | hA
      · obtain ⟨i, zz, h1, h2, h3, h4, h5, _⟩ := apT_spec hA; exact ⟨i, zz, h1, h2, h3, h4, by omega⟩
      · obtain ⟨i, zz, h1, h2, h3, h4, h5, _⟩ := apT_spec hA; exact ⟨i, zz, h1, h2, h3, h4, by omega⟩
    obtain ⟨i, zz, hu, hi, hzero, hs, hbytes⟩ := hA'
    have hmul : i.bytes * n.toNat ≤ 8 * n.toNat := Nat.mul_le_mul_right _ hbytes
    have hmul2 : (i.bytes : Int) * n ≤ 8 * n := Int.mul_le_mul_of_nonneg_right (by omega) h0
    have hm := run_makeSlice (P := P) (w := w) t' e i zz hu hi hzero k k' n n h0 (Int.le_refl _) (by rw [hs]; omega) (by first | omega | (rw [Int.mul_comm]; omega) | (rw [Nat.mul_comm]; omega)) (by omega)
    have hcs : zz.cells = #[z] := by
      unfold zeroL at hz
      rw [hi] at hz
      simp only [hzero, Option.map_some, Option.some.injEq] at hz
      rw [vcells_eq, hz]
    have hcells : madeCells zz.cells (n.toNat * i.size) = (List.replicate n.toNat z).toArray := by
      rw [hs, hcs]
      apply Array.ext
      · simp [madeCells]
      · intro j h1 h2
        simp [madeCells, Nat.mod_one]
    rw [hcells] at hm
    unfold Oper.wp
    rw [ha.eval]
    have hr : (execOp (ev f) ⟨some d, .makeSlice t' x y, t, p, af, g⟩).run P w = .ok (.value (.slice (some ⟨w.heap.size, 0, none⟩) n.toNat n.toNat)) (w.alloc (.cells (List.replicate n.toNat z).toArray e)) := by
      simp only [execOp, hx, hy]
      simp [hm]
    rw [hr]
    refine h _ (List.replicate n.toNat z) ⟨by simp, fun j u hj => ⟨[z], rfl, ?_, fun m v hv => ?_⟩⟩ _ _ (ha.put hd _) ?_
    · rw [List.getElem?_replicate] at hj
      split at hj
      · cases hj; exact hR H
      · cases hj
    · rw [List.getElem?_replicate] at hj
      split at hj
      · rename_i hlt
        cases m with
        | zero => simp at hv; subst hv; simp [hlt]
        | succ m => simp at hv
      · cases hj
    · have k := hst.alloc (.cells (List.replicate n.toNat z).toArray e)
      refine ⟨k.below, k.hle, k.ext, fun r hr => k.own r (List.mem_cons_of_mem _ hr), (List.pairwise_cons.1 k.nodup).2, fun r hr => ?_, fun r hr b hb => ?_, List.pairwise_cons.2 ⟨fun r hr b hb e => ?_, hst.rdisj⟩⟩
      · rcases List.mem_cons.1 hr with rfl | hr
        · refine ⟨by simp, .inr ⟨w.heap.size, n.toNat, (List.replicate n.toNat z).toArray, by simp, hst.below.size, ?_, by simp, by simp only [maxLen]; omega, by simp, by simp⟩⟩
          exact heap_alloc_new w _
        · exact k.row r hr
      · rcases List.mem_cons.1 hr with rfl | hr
        · simp [Value.ownBlock] at hb
          subst hb
          exact ⟨(k.own _ (List.mem_cons_self ..)).2.2, fun r hr e => by have := hst.own_lt hr; omega⟩
        · exact ⟨(k.rfresh r hr b hb).1, fun u hu => (k.rfresh r hr b hb).2 u (List.mem_cons_of_mem _ hu)⟩
      · simp [Value.ownBlock] at hb
        subst hb
        have := ((hst.row r hr).lt _ e).2
        omega

/-- the form of an own slice's value -/
def FormG (gq : GS) : Prop := ∀ i : Nat, i < gq.n → ∃ b cap, gq.v = .slice (some ⟨b, 0, none⟩) gq.n cap
theorem St.formG {w : World} (hs : St B H bs gs w) {j : Nat} {gq : GS} (hj : gs[j]? = some gq) : FormG gq := fun i hi => by
  obtain ⟨_, h2⟩ := hs.row gq (List.mem_of_getElem? hj)
  rcases h2 with ⟨_, h0⟩ | ⟨b, cap, cur, hv, _⟩
  · omega
  · exact ⟨b, cap, hv⟩
theorem JC.factG {ro : Option Nat} {c : Code} (j : Nat) {gq : GS} (hj : gs[j]? = some gq) (h : FormG gq → JC P ro N ds B H c Q f bs gs) : JC P ro N ds B H c Q f bs gs := fun hQ a w ha hs => h (hs.formG hj) hQ a w ha hs
theorem JL.factG {l : List Oper} (j : Nat) {gq : GS} (hj : gs[j]? = some gq) (h : FormG gq → JL .plain P N ds B H ops Q l f bs gs) : JL .plain P N ds B H ops Q l f bs gs := fun a w ha hs => h (hs.formG hj) a w ha hs
theorem JL.indexGq {α : Type} {gq : GS} {l : List α} {y : α} {tx e : TypeId} {x ix : Operand} {k : IntKind} {i : Int} {sz : Nat} (hF : FormG gq) (ht : slT P tx = some (e, sz)) (hx : ev f x = gq.v) (hn : gq.n = l.length) (hi : ev f ix = .int k i) (hy : geti l i = some y) (hw : Want ops f g) (hd : Nat.blt d N = true)
    (h : ∀ b, gq.v.ownBlock = some b → JL q P N ds B H ops Q rest (upd f d (.pointer (some ⟨b, 0 + i.toNat * sz, none⟩))) bs gs) : JL q P N ds B H ops Q (⟨some d, .indexAddr tx x ix, t, p, af, g⟩ :: rest) f bs gs := by
  have hlt : 0 ≤ i ∧ i < gq.n := by
    unfold geti at hy
    split at hy
    · rename_i h0
      have := (List.getElem?_eq_some_iff.1 hy).1
      omega
    · cases hy
  obtain ⟨b, cap, hv⟩ := hF i.toNat (by omega)
  exact JL.indexAt ht (hx.trans hv) hi hlt.1 hlt.2 hw hd (h b (by rw [hv]; rfl))

/-- own slices lent to a call -/
theorem JL.callLGX {op : Op} {kf : Nat} {vs : List Value} {v : Value} (hc : ∀ w, St B H bs gs w → Calls P kf vs.toArray w fun e w' => e = .returned v ∧ Below w.heap.size w w') (hr : ∀ w, (execOp (ev f) ⟨some d, op, t, p, af, g⟩).run P w = .ok (.enter kf vs.toArray) w) (hq : q.calls = true) (hw : Want ops f g) (hd : Nat.blt d N = true)
    (h : JL q P N ds B H ops Q rest (upd f d v) bs gs) : JL q P N ds B H ops Q (⟨some d, op, t, p, af, g⟩ :: rest) f bs gs := by
  match q with
  | .plain =>
    exact .step hw fun a w ha hs => by
      unfold Oper.wp
      rw [ha.eval, hr, Oper.upon_enter]
      refine (hc w hs).mono fun e w' => ?_
      rintro ⟨rfl, hb⟩
      exact h _ _ (ha.put hd v) (hs.kept hb)
  | .quiet K =>
    intro a ha
    unfold wpQuiet
    rw [if_pos (Want.wanted ha (o := ⟨some d, op, t, p, af, g⟩) hw)]
    refine ⟨v, fun w hs => ?_, h _ (ha.put hd v)⟩
    unfold Oper.quietAt
    rw [ha.eval, hr]
    refine ⟨rfl, (hc w hs).mono fun e w' => ?_⟩
    rintro ⟨rfl, hb⟩
    exact ⟨rfl, hs.kept hb⟩
  | .first K => cases hq
theorem JL.callLG1 {α : Type} {R : Rl α} (j : Nat) {gq : GS} {la : List α} {kf : Nat} {l : List Operand} {tt : Array TypeId} {vs : List Value} {v : Value} (hj : gs[j]? = some gq) (hR : Mono R) (hch : CH H gq.sz R gq.xs la) (hn : gq.n = la.length) (hc : ∀ H1, HSub H H1 → SL H1 gq.sz R gq.v la → SC P kf vs v H1) (hvs : l.map (ev f) = vs) (he : Ent P kf) (hw : Want ops f g) (hd : Nat.blt d N = true)
    (h : JL q P N ds B H ops Q rest (upd f d v) bs gs) (hq : q.calls = true := by rfl) : JL q P N ds B H ops Q (⟨some d, .call ⟨.value (.func kf), l.toArray, tt⟩, t, p, af, g⟩ :: rest) f bs gs :=
  .callLGX (fun w hs => by
    obtain ⟨H1, h1, h2, h3⟩ := hs.freezeG hj hR hch hn
    exact hc H1 h1 h2 w h3.hle) (run_callF hvs he) hq hw hd h
theorem JL.callLG2 {α β : Type} {R : Rl α} {S : Rl β} (j m : Nat) {gq gr : GS} {la : List α} {lb : List β} {kf : Nat} {l : List Operand} {tt : Array TypeId} {vs : List Value} {v : Value} (hj : gs[j]? = some gq) (hR : Mono R) (hch : CH H gq.sz R gq.xs la) (hn : gq.n = la.length) (hm : (gs.eraseIdx j)[m]? = some gr) (hS : Mono S) (hcs : CH H gr.sz S gr.xs lb) (hn2 : gr.n = lb.length)
    (hc : ∀ H1, HSub H H1 → SL H1 gq.sz R gq.v la → SL H1 gr.sz S gr.v lb → SC P kf vs v H1) (hvs : l.map (ev f) = vs) (he : Ent P kf) (hw : Want ops f g) (hd : Nat.blt d N = true)
    (h : JL q P N ds B H ops Q rest (upd f d v) bs gs) (hq : q.calls = true := by rfl) : JL q P N ds B H ops Q (⟨some d, .call ⟨.value (.func kf), l.toArray, tt⟩, t, p, af, g⟩ :: rest) f bs gs :=
  .callLGX (fun w hs => by
    obtain ⟨H1, h1, h2, h3⟩ := hs.freezeG hj hR hch hn
    obtain ⟨H2, k1, k2, k3⟩ := h3.freezeG hm hS (hcs.mono hS h1) hn2
    exact hc H2 (h1.trans k1) (h2.mono hR k1) k2 w k3.hle) (run_callF hvs he) hq hw hd h

/-- the call of yield under a guard -/
theorem JL.atYieldG {σ ρ : Type} {l : List Oper} {m n lY d : Nat} {x z : Operand} {tt : Array TypeId} {t : TypeId} {p : String} {af : Array Edge} {post : List Oper} {A : Own1 σ} {Ax : Own1 ρ} {tl : List (Nat × Obj)} {y : σ ⊕ ρ}
    (hQ : NoOut Q) (hnd : noDefer l = true) (hl : l.drop m = ⟨some d, .call { callee := .value x, args := #[z], argTypes := tt }, t, p, af, g⟩ :: post) (hn : l.length - m = n)
    (hwg : Want l f g) (hx : ev f x = .func (.yield lY) #[] #[]) (hd : Nat.blt d N = true) (hy : ∀ w, St B H bs gs w → YieldAt (FR none) 0 P lY #[ev f z] w (After B H A Ax tl y))
    (hgo : ∀ s H' fr gs', y = .inl s → HSub H H' → A s H' fr gs' → JL .plain P N ds B H' l Q post (upd f d (.bool true)) (tl ++ fr) gs')
    (hstop : ∀ r H' fr gs', y = .inr r → HSub H H' → Ax r H' fr gs' → JL .plain P N ds B H' l Q post (upd f d (.bool false)) (tl ++ fr) gs') :
    JL .plain P N ds B H l (YQ P Q l m n) [] f bs gs := .nil fun a w ha hs => by
  have hlen : l.length - m = post.length + 1 := by rw [← List.length_drop, hl]; rfl
  show wpOpsIn (FR none) 0 P l.toArray Q (List.range' m n) a w
  rw [← hn, hlen, List.range'_succ]
  have hget : ∀ j, l[m + j]? = (l.drop m)[j]? := fun j => by rw [List.getElem?_drop]
  have h0 : l.toArray[m]? = some ⟨some d, .call { callee := .value x, args := #[z], argTypes := tt }, t, p, af, g⟩ := by
    have := hget 0; rw [hl] at this; simpa using this
  unfold wpOpsIn
  simp only [h0]
  have hw : Region.wanted ⟨some d, .call { callee := .value x, args := #[z], argTypes := tt }, t, p, af, g⟩ (yielded l.toArray a.tmps) = true := Want.wanted ha (o := ⟨some d, .call { callee := .value x, args := #[z], argTypes := tt }, t, p, af, g⟩) hwg
  rw [if_pos hw]
  refine ⟨fun _ _ => trivial, ?_⟩
  obtain ⟨fn, tmps, assign, body, hrun, hround⟩ := hy w hs
  have hexec : (execOp a.eval ⟨some d, .call { callee := .value x, args := #[z], argTypes := tt }, t, p, af, g⟩).run P w = .ok (.round lY fn tmps assign body) w := by
    rw [ha.eval]
    simp [execOp, hx, hrun, resolve, invoke, go_sem]
  rw [Oper.semAt_eq _ _ _ (by intro c; simp), hexec, Oper.uponIn_round]
  refine ⟨fun h => by simp [FR] at h, hround.mono ?_⟩
  intro e w'' hr
  have hrest : ∀ {v : Value} {H' : Hp} {bs' : List (Nat × Obj)} {gs' : List GS}, St B H' bs' gs' w'' → JL .plain P N ds B H' l Q post (upd f d v) bs' gs' → wpOpsIn (FR none) 0 P l.toArray Q (List.range' (m + 1) post.length) (a.put (some d) v) w'' := fun h1 h2 =>
    wpOpsIn_of_wpOps hnd hQ _ _ _ (wpOps_of_wpList post (m + 1) (fun j hj => by
      have := hget (j + 1)
      rw [hl] at this
      rw [Nat.add_assoc, Nat.add_comm 1 j]
      simpa using this.symm) _ _ (h2 _ _ (ha.put hd _) h1))
  cases e with
  | returned v =>
    obtain ⟨H', fr, gs', k1, k2, k3⟩ := hr
    cases y with
    | inl s => obtain ⟨rfl, k4⟩ := k3; exact hrest k2 (hgo s H' fr gs' rfl k1 k4)
    | inr r => obtain ⟨rfl, k4⟩ := k3; exact hrest k2 (hstop r H' fr gs' rfl k1 k4)
  | panicked c => exact hr.elim
  | outgrown => exact hr.elim

/-- own slices in another order -/
theorem St.permG {w : World} (h : St B H bs gs w) {gs' : List GS} (hp : gs.Perm gs') : St B H bs gs' w :=
  ⟨h.below, h.hle, h.ext, h.own, h.nodup, fun g hg => h.row g (hp.mem_iff.2 hg), fun g hg => h.rfresh g (hp.mem_iff.2 hg), (hp.pairwise_iff (fun {x y} hxy b hb e => hxy b e hb)).1 h.rdisj⟩
theorem JA.permG {k : Nat} {H0 : Hp} {bs0 : List (Nat × Obj)} {fuel : Nat} {listed : Array Bool} {gs' : List GS} (hp : gs.Perm gs') (h : JA P N ds B k H0 bs0 ops Q fuel listed H f bs gs') : JA P N ds B k H0 bs0 ops Q fuel listed H f bs gs := fun a w ha hs => h a w ha (hs.permG hp)
end
end Go.Dec
