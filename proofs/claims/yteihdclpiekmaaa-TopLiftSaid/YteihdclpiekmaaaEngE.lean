/-
  Joins; slices of one's own handed over; small laws for the printed proofs.
-/
import Derived.Test.YteihdclpiekmaaaEngD
namespace Go.Dec
open Go Go.RowKit

section
variable {P : Program} {ro : Option Nat} {N : Nat} {ds : List Deferred} {B : Bs} {H : Hp} {Q : Exit → Act → World → Prop} {f : Nat → Value} {bs : List (Nat × Obj)} {gs : List GS}

/-! ### joins -/
abbrev Asn (X : Type) := X → Hp → (Nat → Value) → List (Nat × Obj) → List GS → Prop
/-- where a statement ends normally, this is so -/
def XQ {X : Type} (N : Nat) (ds : List Deferred) (B : Bs) (A : Asn X) (Q : Exit → Act → World → Prop) : Exit → Act → World → Prop
  | .normal, a, w => ∃ x H f bs gs, A x H f bs gs ∧ Fr N ds a f ∧ St B H bs gs w
  | e, a, w => Q e a w
theorem noOut_join {X : Type} {A : Asn X} : NoOut (XQ N ds B A Q) ↔ NoOut Q := Iff.rfl
theorem JC.join {X : Type} {c : Code} (A : Asn X) (h : JC P ro N ds B H c (XQ N ds B A Q) f bs gs) (after : ∀ x H f bs gs, A x H f bs gs → JQ N ds B H .normal Q f bs gs) : JC P ro N ds B H c Q f bs gs := fun hQ a w ha hs => by
  refine wpIn_mono (h (noOut_join.2 hQ) a w ha hs) fun e a w hq => ?_
  cases e with
  | normal => obtain ⟨x, H, f, bs, gs, h1, h2, h3⟩ := hq; exact after x H f bs gs h1 hQ a w h2 h3
  | _ => exact hq
theorem JQ.join {X : Type} {A : Asn X} (x : X) (h : A x H f bs gs) : JQ N ds B H .normal (XQ N ds B A Q) f bs gs := fun _ _ _ ha hs => ⟨x, H, f, bs, gs, h, ha, hs⟩
theorem JQ.exit_join {X : Type} {A : Asn X} {id : Nat} (h : JQ N ds B H (.exit id) Q f bs gs) : JQ N ds B H (.exit id) (XQ N ds B A Q) f bs gs := fun hQ a w ha hs => h (noOut_join.1 hQ) a w ha hs
theorem JQ.ret_join {X : Type} {A : Asn X} (h : JQ N ds B H .ret Q f bs gs) : JQ N ds B H .ret (XQ N ds B A Q) f bs gs := fun hQ a w ha hs => h (noOut_join.1 hQ) a w ha hs

/-! ### own slices handed over -/
theorem St.dropG {w : World} (h : St B H bs gs w) (j : Nat) : St B H bs (gs.eraseIdx j) w := h.sub (List.Sublist.refl _) (List.eraseIdx_sublist ..)
theorem St.freezeG {α : Type} {R : Rl α} {w : World} (h : St B H bs gs w) {j : Nat} {q : GS} {l : List α} (hj : gs[j]? = some q) (hR : Mono R) (hch : CH H q.sz R q.xs l) (hn : q.n = l.length) :
    ∃ H', HSub H H' ∧ SL H' q.sz R q.v l ∧ St B H' bs (gs.eraseIdx j) w := by
  have hmem : q ∈ gs := List.mem_of_getElem? hj
  obtain ⟨hlen, hrow⟩ := h.row q hmem
  rcases hrow with ⟨hv, h0⟩ | ⟨b, cap, cur, hv, hb0, hb, hnc, hcap, hsz, htake⟩
  · have hl : l = [] := List.eq_nil_of_length_eq_zero (by omega)
    subst hl
    exact ⟨H, HSub.refl _, by rw [hv]; exact SL.nil, h.dropG j⟩
  · have hown : q.v.ownBlock = some b := by rw [hv]; rfl
    have hHb := (h.rfresh q hmem b hown).1
    have hbne := (h.rfresh q hmem b hown).2
    have hsub : (gs.eraseIdx j).Sublist gs := List.eraseIdx_sublist ..
    have hgne : ∀ r ∈ gs.eraseIdx j, r.v.ownBlock ≠ some b := fun r hr e => by
      obtain ⟨i, hi⟩ := List.mem_iff_getElem?.1 hr
      rw [List.getElem?_eraseIdx] at hi
      have hpw := List.pairwise_iff_getElem.1 h.rdisj
      obtain ⟨hjl, hj2⟩ := List.getElem?_eq_some_iff.1 hj
      split at hi
      · rename_i hlt
        obtain ⟨hil, hi2⟩ := List.getElem?_eq_some_iff.1 hi
        exact hpw i j hil hjl hlt b (by rw [hi2]; exact e) (by rw [hj2]; exact hown)
      · obtain ⟨hil, hi2⟩ := List.getElem?_eq_some_iff.1 hi
        exact hpw j (i + 1) hjl hil (by omega) b (by rw [hj2]; exact hown) (by rw [hi2]; exact e)
    have hcells : Cells (ins H b (.cells cur q.e)) b 0 q.xs := ⟨cur, q.e, (0, 0), by simp [Dec.ins], fun j v hv => by
      rw [← htake, List.getElem?_take] at hv
      split at hv
      · simpa using hv
      · cases hv⟩
    refine ⟨ins H b (.cells cur q.e), HSub.ins hHb _, ?_, h.below, fun k ob hk => ?_, ⟨h.ext.1.trans (HSub.ins hHb _), fun k hk => ?_⟩, fun p hp => ?_, h.nodup, fun g hg => h.row g (hsub.subset hg), fun g hg c hc => ⟨?_, (h.rfresh g (hsub.subset hg) c hc).2⟩, h.rdisj.sublist hsub⟩
    · rw [hv, hn]
      exact (hch.mono hR (HSub.ins hHb _)).sl hcells ⟨by simp only [maxLen] at hcap; omega, by omega⟩
    · unfold Dec.ins at hk; split at hk
      · rename_i e; subst e; cases hk; exact hb
      · exact h.hle k ob hk
    · unfold Dec.ins; rw [if_neg (by omega)]; exact h.ext.2 k hk
    · have := h.own p hp
      exact ⟨this.1, this.2.1, by unfold Dec.ins; rw [if_neg (hbne p hp)]; exact this.2.2⟩
    · unfold Dec.ins; rw [if_neg (fun e => hgne g hg (by rw [← e]; exact hc))]; exact (h.rfresh g (hsub.subset hg) c hc).1

theorem JC.freezeG {α : Type} {R : Rl α} {c : Code} (j : Nat) {q : GS} {l : List α} (hj : gs[j]? = some q) (hR : Mono R) (hch : CH H q.sz R q.xs l) (hn : q.n = l.length)
    (k : ∀ H', HSub H H' → SL H' q.sz R q.v l → JC P ro N ds B H' c Q f bs (gs.eraseIdx j)) : JC P ro N ds B H c Q f bs gs := fun hQ a w ha hs =>
  let ⟨H', h1, h2, h3⟩ := hs.freezeG hj hR hch hn
  k H' h1 h2 hQ a w ha h3
theorem JQ.freezeG {α : Type} {R : Rl α} {e : Exit} (j : Nat) {q : GS} {l : List α} (hj : gs[j]? = some q) (hR : Mono R) (hch : CH H q.sz R q.xs l) (hn : q.n = l.length)
    (k : ∀ H', HSub H H' → SL H' q.sz R q.v l → JQ N ds B H' e Q f bs (gs.eraseIdx j)) : JQ N ds B H e Q f bs gs := fun hQ a w ha hs =>
  let ⟨H', h1, h2, h3⟩ := hs.freezeG hj hR hch hn
  k H' h1 h2 hQ a w ha h3
theorem JL.freezeG {α : Type} {R : Rl α} {ops rest : List Oper} (j : Nat) {q : GS} {l : List α} (hj : gs[j]? = some q) (hR : Mono R) (hch : CH H q.sz R q.xs l) (hn : q.n = l.length)
    (k : ∀ H', HSub H H' → SL H' q.sz R q.v l → JL .plain P N ds B H' ops Q rest f bs (gs.eraseIdx j)) : JL .plain P N ds B H ops Q rest f bs gs := fun a w ha hs =>
  let ⟨H', h1, h2, h3⟩ := hs.freezeG hj hR hch hn
  k H' h1 h2 a w ha h3
theorem JQ.freeze {e : Exit} (i : Nat) {b : Nat} {o : Obj} (hi : bs[i]? = some (b, o)) (k : HSub H (ins H b o) → JQ N ds B (ins H b o) e Q f (bs.eraseIdx i) gs) : JQ N ds B H e Q f bs gs := fun hQ a w ha hs =>
  let ⟨h1, h2⟩ := hs.freeze hi
  k (HSub.ins h1 o) hQ a w ha h2

/-- an own block handed over, the new data's name a letter -/
theorem JC.freezeC {c : Code} (i : Nat) {b : Nat} {l : List Value} {e : TypeId} (hi : bs[i]? = some (b, .cells l.toArray e)) (k : ∀ H', HSub H H' → Cells H' b 0 l → JC P ro N ds B H' c Q f (bs.eraseIdx i) gs) : JC P ro N ds B H c Q f bs gs :=
  JC.freeze i hi fun hs => k _ hs Cells.ins
theorem JL.freezeC {ops rest : List Oper} (i : Nat) {b : Nat} {l : List Value} {e : TypeId} (hi : bs[i]? = some (b, .cells l.toArray e)) (k : ∀ H', HSub H H' → Cells H' b 0 l → JL .plain P N ds B H' ops Q rest f (bs.eraseIdx i) gs) : JL .plain P N ds B H ops Q rest f bs gs :=
  JL.freeze i hi fun hs => k _ hs Cells.ins
theorem JQ.freezeC {ex : Exit} (i : Nat) {b : Nat} {l : List Value} {e : TypeId} (hi : bs[i]? = some (b, .cells l.toArray e)) (k : ∀ H', HSub H H' → Cells H' b 0 l → JQ N ds B H' ex Q f (bs.eraseIdx i) gs) : JQ N ds B H ex Q f bs gs :=
  JQ.freeze i hi fun hs => k _ hs Cells.ins

/-! ### results, also out of own blocks -/
inductive RV (P : Program) (f : Nat → Value) (bs : List (Nat × Obj)) : List ResultVar → List Value → Prop
  | nil : RV P f bs [] []
  | tmp {t : Nat} {rs : List ResultVar} {vs : List Value} (h : RV P f bs rs vs) : RV P f bs (.tmp t :: rs) (f t :: vs)
  | cell {a t b : Nat} {e : TypeId} {z : Bool × Nat} {l : List Value} {v : Value} {rs : List ResultVar} {vs : List Value} (i : Nat) (hz : aggsz P t = some z) (hx : f a = .pointer (some ⟨b, 0, none⟩)) (hi : bs[i]? = some (b, .cells l.toArray e)) (hv : loadw z l 0 = some v)
      (h : RV P f bs rs vs) : RV P f bs (.cell a t :: rs) (v :: vs)
def resw : List Value → Value
  | [v] => v
  | l => .tuple l.toArray
theorem RV.run {rs : List ResultVar} {vs : List Value} (h : RV P f bs rs vs) {w : World} (hs : St B H bs gs w) {g : ResultVar → Sem Value} (hg : ∀ t, (g (.tmp t)).run P w = .ok (f t) w)
    (hc : ∀ ad t, (g (.cell ad t)).run P w = (Instr.loadAt t (f ad)).run P w ∨ ∀ a, f ad ≠ .pointer (some a)) : (List.mapM g rs).run P w = .ok vs w := by
  induction h with
  | nil => simp
  | tmp _ ih => rw [List.mapM_cons]; simp only [Sem.run_bind, Sem.run_pure, Result.andThen_ok, ih, hg]
  | @cell ad t b e z l v rs vs i hz hx hi hv _ ih =>
    have hl := run_load_of (P := P) (w := w) (o := 0) hz (hs.has hi) hv
    rw [Nat.zero_add] at hl
    have := (hc ad t).resolve_right (fun h => h _ hx)
    rw [hx, hl] at this
    rw [List.mapM_cons]
    simp only [Sem.run_bind, Sem.run_pure, Result.andThen_ok, ih, this]
theorem RV.results {fn : Func} {rs : List ResultVar} {vs : List Value} (hr : fn.results = rs.toArray) (h : RV P f bs rs vs) {a : Act} (ha : Fr N ds a f) {w : World} (hs : St B H bs gs w) : (results fn a.tmps).run P w = .ok (resw vs) w := by
  unfold Go.results
  rw [hr]
  simp only [List.mapM_toArray, Sem.run_bind, Sem.run_map]
  rw [h.run hs (fun t => by simp [ha.get]) (fun ad t => by
    by_cases hp : ∃ x, f ad = .pointer (some x)
    · obtain ⟨x, hp⟩ := hp
      left; simp [ha.get, hp, asAddr, Instr.loadAt, Instr.sureAddr]
    · exact .inr fun x hx => hp ⟨x, hx⟩)]
  match vs with
  | [] => simp [resw]
  | [v] => simp [resw]
  | v :: u :: l => simp [resw]
theorem JQ.outS {fn : Func} {rs : List ResultVar} {vs : List Value} {v : Value} (hr : fn.results = rs.toArray) (h : RV P f bs rs vs) (hv : resw vs = v) : JQ N [] B H .ret (bodyPost P fn (RetS B v)) f bs gs := fun _ a w ha hs =>
  ⟨ha.defers, _, h.results hr ha hs, by rw [hv], hs.below⟩
theorem JQ.outH {fn : Func} {rs : List ResultVar} {vs : List Value} {Res : Hp → Value → Prop} (hr : fn.results = rs.toArray) (h : RV P f bs rs vs) (hres : Res H (resw vs)) : JQ N [] B H .ret (bodyPost P fn (RetH B Res)) f bs gs := fun _ a w ha hs =>
  ⟨ha.defers, _, h.results hr ha hs, H, _, rfl, hs.ext.1, hs.ext.2, hs.hle, hs.below, hres⟩
theorem JQ.fellS {fn : Func} {rs : List ResultVar} {vs : List Value} {v : Value} (hr : fn.results = rs.toArray) (h : RV P f bs rs vs) (hv : resw vs = v) : JQ N [] B H .normal (bodyPost P fn (RetS B v)) f bs gs := fun _ a w ha hs =>
  ⟨ha.defers, _, h.results hr ha hs, by rw [hv], hs.below⟩
theorem JQ.fellH {fn : Func} {rs : List ResultVar} {vs : List Value} {Res : Hp → Value → Prop} (hr : fn.results = rs.toArray) (h : RV P f bs rs vs) (hres : Res H (resw vs)) : JQ N [] B H .normal (bodyPost P fn (RetH B Res)) f bs gs := fun _ a w ha hs =>
  ⟨ha.defers, _, h.results hr ha hs, H, _, rfl, hs.ext.1, hs.ext.2, hs.hle, hs.below, hres⟩

/-- the length of a slice that is known as data -/
theorem JL.lenSL {q : Md} {α : Type} {R : Rl α} {sz : Nat} {l : List α} {ops rest : List Oper} {d : Nat} {t : TypeId} {p : String} {af : Array Edge} {g : Option (Nat × Bool)} {tx e : TypeId} {x : Operand}
    (ht : P.underlying tx = some (.slice e)) (hs : SL H sz R (ev f x) l) (hw : Want ops f g) (hd : Nat.blt d N = true)
    (h : JL q P N ds B H ops Q rest (upd f d (.int .i64 (l.length : Nat))) bs gs) : JL q P N ds B H ops Q (⟨some d, .call ⟨.builtin .len, #[x], #[tx]⟩, t, p, af, g⟩ :: rest) f bs gs := by
  obtain ⟨a, c, hv, _⟩ := hs
  exact JL.len ht hv hw hd h
/-- .. and of one's own that grows -/
theorem JL.lenG {q : Md} {ops rest : List Oper} {d : Nat} {t : TypeId} {p : String} {af : Array Edge} {g : Option (Nat × Bool)} {tx e : TypeId} {x : Operand} (j : Nat) {gq : GS}
    (ht : P.underlying tx = some (.slice e)) (hj : gs[j]? = some gq) (hx : ev f x = gq.v) (hw : Want ops f g) (hd : Nat.blt d N = true)
    (h : JL q P N ds B H ops Q rest (upd f d (.int .i64 (gq.n : Nat))) bs gs) : JL q P N ds B H ops Q (⟨some d, .call ⟨.builtin .len, #[x], #[tx]⟩, t, p, af, g⟩ :: rest) f bs gs := by
  refine .val hw hd (fun w hs => ?_) h
  obtain ⟨_, hrow⟩ := hs.row gq (List.mem_of_getElem? hj)
  rcases hrow with ⟨hv, h0⟩ | ⟨b, cap, cur, hv, _⟩
  · simp [execOp, resolve, invoke, builtin, Builtin.len_, hx, hv, h0, goInt, run_underlying ht]
  · simp [execOp, resolve, invoke, builtin, Builtin.len_, hx, hv, goInt, run_underlying ht]

/-- nothing is appended, or something -/
theorem JL.appendSL {α : Type} {R : Rl α} {ops rest : List Oper} {d : Nat} {t : TypeId} {p : String} {af : Array Edge} {g : Option (Nat × Bool)} {tx e : TypeId} {sz by_ : Nat} {x y : Operand} (j : Nat) {q : GS} {l m : List α}
    (hA : apT P tx = some (e, sz, by_)) (hj : gs[j]? = some q) (hq : q.e = e ∧ q.sz = sz) (hx : ev f x = q.v) (hch : CH H sz R q.xs l) (hn : q.n = l.length)
    (hsrc : SL H sz R (ev f y) m) (h1 : ∀ cs x, R H cs x → ∀ u ∈ cs, u.oneCell' = true) (hlim : l.length + m.length ≤ 4294967296) (hw : Want ops f g) (hd : Nat.blt d N = true)
    (h : ∀ v' xs', CH H sz R xs' (l ++ m) → JL .plain P N ds B H ops Q rest (upd f d v') bs (gs.set j ⟨v', e, sz, (l ++ m).length, xs'⟩)) : JL .plain P N ds B H ops Q (⟨some d, .call ⟨.builtin .append, #[x, y], #[tx, tx]⟩, t, p, af, g⟩ :: rest) f bs gs := by
  by_cases hm : m = []
  · subst hm
    obtain ⟨a, c, hv, _, _⟩ := hsrc
    obtain ⟨i, z, hu, hi, hz, hsz, hby, hzs, hpos, hb⟩ := apT_spec hA
    obtain ⟨rfl, rfl⟩ := hq
    refine .step hw fun a' w ha hs => ?_
    obtain ⟨hlen, hrow⟩ := hs.row q (List.mem_of_getElem? hj)
    have hr : (execOp (ev f) ⟨some d, .call ⟨.builtin .append, #[x, y], #[tx, tx]⟩, t, p, af, g⟩).run P w = .ok (.value q.v) w := by
      have hfc : (Builtin.firstCells i.size 0 (.slice a 0 c)).run P w = .ok #[] w := by
        cases a <;> simp [Builtin.firstCells, loadCells, loadCellsFrom]
      rcases hrow with ⟨hv', h0⟩ | ⟨b, cap, cur, hv', _, _, hnc, _, _, _⟩
      · simp only [execOp, resolve, invoke, builtin, Sem.run_bind, Sem.run_pure, Result.andThen_ok, List.map_toArray, List.map_cons, List.map_nil, hx, hv, hv']
        simp [Builtin.append_, run_underlying hu, sizeOf, typeInfo, hi, Builtin.lenOf, hfc]
      · simp only [execOp, resolve, invoke, builtin, Sem.run_bind, Sem.run_pure, Result.andThen_ok, List.map_toArray, List.map_cons, List.map_nil, hx, hv, hv']
        simp [Builtin.append_, run_underlying hu, sizeOf, typeInfo, hi, Builtin.lenOf, hfc, hnc, storeCells]
    unfold Oper.wp
    rw [ha.eval, hr]
    refine h q.v q.xs (by simpa using hch) _ _ (ha.put hd _) ?_
    have : gs.set j ⟨q.v, q.e, q.sz, (l ++ []).length, q.xs⟩ = gs := by
      have e : (⟨q.v, q.e, q.sz, (l ++ []).length, q.xs⟩ : GS) = q := by cases q; simp at hn ⊢; exact hn.symm
      rw [e]
      obtain ⟨hjl, hj2⟩ := List.getElem?_eq_some_iff.1 hj
      rw [← hj2]; exact List.set_getElem_self hjl
    rw [this]; exact hs
  · obtain ⟨b, o, c, xs, hv, k1, k2⟩ := hsrc.cells hm
    have hmem : ∀ u ∈ xs, u.oneCell' = true := fun u hu => by
      obtain ⟨i, hi⟩ := List.mem_iff_getElem?.1 hu
      have hil := (List.getElem?_eq_some_iff.1 hi).1
      obtain ⟨_, _, _, _, _, _, _, _, hpos, _⟩ := apT_spec hA
      have hlt : i / sz < m.length := Nat.div_lt_of_lt_mul (by rw [Nat.mul_comm, ← k1.1]; exact hil)
      obtain ⟨cs, c1, c2, c3⟩ := k1.2 (i / sz) _ (List.getElem?_eq_getElem hlt)
      have hj : i % sz < cs.length := by rw [c1]; exact Nat.mod_lt _ hpos
      have := c3 (i % sz) _ (List.getElem?_eq_getElem hj)
      have e : i / sz * sz + i % sz = i := by rw [Nat.mul_comm]; exact Nat.div_add_mod ..
      rw [e, hi] at this
      have := Option.some.inj this
      rw [this]
      exact h1 cs _ c2 _ (List.getElem_mem hj)
    refine JL.append j hA hj hq hx (m := m.length) (news := xs) (by rw [hv]; exact .data k2 k1.1) hmem (by rw [hn]; exact hlim) hw hd fun v' => ?_
    have := h v' (q.xs ++ xs) (hch.append k1)
    rwa [List.length_append, ← hn] at this
end

/-! ### cuts within a region -/
section
variable {q : Md} {P : Program} {N : Nat} {ds : List Deferred} {B : Bs} {H : Hp} {ops : List Oper} {Q : Exit → Act → World → Prop} {l rest : List Oper} {f : Nat → Value} {bs : List (Nat × Obj)} {gs : List GS}
variable {d : Nat} {t : TypeId} {p : String} {af : Array Edge} {g : Option (Nat × Bool)}
theorem JL.cut (m : Nat) (A : (Nat → Value) → Prop) (h1 : (∀ f', A f' → JL q P N ds B H ops Q (l.drop m) f' bs gs) → JL q P N ds B H ops Q l f bs gs) (h2 : ∀ f', A f' → JL q P N ds B H ops Q (l.drop m) f' bs gs) : JL q P N ds B H ops Q l f bs gs := h1 h2
theorem JL.cutW (m : Nat) (A : Hp → (Nat → Value) → List (Nat × Obj) → List GS → Prop) (h1 : (∀ H' f' bs' gs', A H' f' bs' gs' → JL q P N ds B H' ops Q (l.drop m) f' bs' gs') → JL q P N ds B H ops Q l f bs gs) (h2 : ∀ H' f' bs' gs', A H' f' bs' gs' → JL q P N ds B H' ops Q (l.drop m) f' bs' gs') : JL q P N ds B H ops Q l f bs gs := h1 h2
theorem JL.pick_t {c x y : Operand} {b : Bool} (hc : ev f c = .bool b) (hb : b = true) (hw : Want ops f g) (hd : Nat.blt d N = true) (h : JL q P N ds B H ops Q rest (upd f d (ev f x)) bs gs) : JL q P N ds B H ops Q (⟨some d, .pick c x y, t, p, af, g⟩ :: rest) f bs gs :=
  .pick hc hw hd (by rw [hb]; exact h)
theorem JL.pick_f {c x y : Operand} {b : Bool} (hc : ev f c = .bool b) (hb : b = false) (hw : Want ops f g) (hd : Nat.blt d N = true) (h : JL q P N ds B H ops Q rest (upd f d (ev f y)) bs gs) : JL q P N ds B H ops Q (⟨some d, .pick c x y, t, p, af, g⟩ :: rest) f bs gs :=
  .pick hc hw hd (by rw [hb]; exact h)
end
def lim {α : Type} (l : List α) : Option (List α) := if l.length ≤ 4294967296 then some l else none
theorem lim_some {α : Type} {l r : List α} (h : lim l = some r) : r = l ∧ l.length ≤ 4294967296 := by
  unfold lim at h; split at h
  · cases h; exact ⟨rfl, by assumption⟩
  · cases h
def AllOne (l : List Value) : Prop := ∀ u ∈ l, u.oneCell' = true
theorem one_nil : AllOne [] := by simp [AllOne]
theorem one_cons {v : Value} {l : List Value} (h : v.oneCell' = true) (k : AllOne l) : AllOne (v :: l) := fun u hu => by
  rcases List.mem_cons.1 hu with rfl | hu
  · exact h
  · exact k u hu
section
variable {P : Program} {N : Nat} {ds : List Deferred} {B : Bs} {H : Hp} {Q : Exit → Act → World → Prop} {ops rest : List Oper} {f : Nat → Value} {bs : List (Nat × Obj)} {gs : List GS}
variable {d : Nat} {t : TypeId} {p : String} {af : Array Edge} {g : Option (Nat × Bool)} {α : Type} {R : Rl α} {tx e : TypeId} {sz by_ : Nat} {x y : Operand}
/-- 'append(out, ..)', what comes being data -/
theorem JL.appD (j : Nat) {gq : GS} {l m out : List α} (hA : apT P tx = some (e, sz, by_)) (hj : gs[j]? = some gq) (hq : gq.e = e ∧ gq.sz = sz) (hx : ev f x = gq.v) (hch : CH H sz R gq.xs l) (hn : gq.n = l.length)
    (hsrc : SL H sz R (ev f y) m) (h1 : ∀ cs x, R H cs x → AllOne cs) (hlim : lim (l ++ m) = some out) (hw : Want ops f g) (hd : Nat.blt d N = true)
    (h : ∀ v' xs', CH H sz R xs' out → JL .plain P N ds B H ops Q rest (upd f d v') bs (gs.set j ⟨v', e, sz, out.length, xs'⟩)) : JL .plain P N ds B H ops Q (⟨some d, .call ⟨.builtin .append, #[x, y], #[tx, tx]⟩, t, p, af, g⟩ :: rest) f bs gs := by
  obtain ⟨rfl, hl⟩ := lim_some hlim
  exact JL.appendSL j hA hj hq hx hch hn hsrc h1 (by simpa using hl) hw hd h
/-- .. a slice literal of one's own -/
theorem JL.appO (j i : Nat) {gq : GS} {l m out : List α} {b n c : Nat} {cl : List Value} {eb : TypeId} (hA : apT P tx = some (e, sz, by_)) (hj : gs[j]? = some gq) (hq : gq.e = e ∧ gq.sz = sz) (hx : ev f x = gq.v) (hch : CH H sz R gq.xs l) (hn : gq.n = l.length)
    (hy : ev f y = .slice (some ⟨b, 0, none⟩) n c) (hi : bs[i]? = some (b, .cells cl.toArray eb)) (hsrc : CH H sz R cl m) (hm : m.length = n) (h1 : AllOne cl) (hlim : lim (l ++ m) = some out) (hw : Want ops f g) (hd : Nat.blt d N = true)
    (h : ∀ v' xs', CH H sz R xs' out → JL .plain P N ds B H ops Q rest (upd f d v') bs (gs.set j ⟨v', e, sz, out.length, xs'⟩)) : JL .plain P N ds B H ops Q (⟨some d, .call ⟨.builtin .append, #[x, y], #[tx, tx]⟩, t, p, af, g⟩ :: rest) f bs gs := by
  obtain ⟨rfl, hl⟩ := lim_some hlim
  refine JL.append (m := n) (news := cl) j hA hj hq hx (by rw [hy]; exact .own hi (by rw [hsrc.1, hm])) h1 (by rw [hn, ← hm]; simpa using hl) hw hd fun v' => ?_
  have := h v' (gq.xs ++ cl) (hch.append hsrc)
  rwa [List.length_append, hm, ← hn] at this
theorem JC.newNil {ro : Option Nat} {c : Code} {e : TypeId} {sz : Nat} (h : JC P ro N ds B H c Q f bs (⟨.slice none 0 0, e, sz, 0, []⟩ :: gs)) : JC P ro N ds B H c Q f bs gs := fun hQ a w ha hs =>
  h hQ a w ha ⟨hs.below, hs.hle, hs.ext, hs.own, hs.nodup, fun q hq => by
      rcases List.mem_cons.1 hq with rfl | hq
      · exact World.ownsRow_nil w _ _ _
      · exact hs.row q hq,
    fun q hq b hb => by
      rcases List.mem_cons.1 hq with rfl | hq
      · simp [Value.ownBlock] at hb
      · exact hs.rfresh q hq b hb,
    List.pairwise_cons.2 ⟨fun q hq b hb => by simp [Value.ownBlock] at hb, hs.rdisj⟩⟩
end

/-- a slice as an element -/
def RSl {α : Type} (sz : Nat) (R : Rl α) : Rl (List α) := fun H cs x => ∃ v, cs = [v] ∧ SL H sz R v x
theorem RSl.mono {α : Type} {sz : Nat} {R : Rl α} (hR : Mono R) : Mono (RSl sz R) := fun _ _ h _ _ ⟨v, h1, h2⟩ => ⟨v, h1, h2.mono hR h⟩
theorem RSl.one {α : Type} {sz : Nat} {R : Rl α} : ∀ (H : Hp) (cs : List Value) (x : List α), RSl sz R H cs x → AllOne cs := fun _ _ _ ⟨_, h1, h2⟩ => h1 ▸ one_cons h2.one one_nil
theorem RInt.one : ∀ (H : Hp) (cs : List Value) (x : Int), RInt H cs x → AllOne cs := fun _ _ _ h => h ▸ one_cons rfl one_nil
theorem RBool.one : ∀ (H : Hp) (cs : List Value) (x : Bool), RBool H cs x → AllOne cs := fun _ _ _ h => h ▸ one_cons rfl one_nil
theorem bcases (b : Bool) : b = true ∨ b = false := by cases b <;> simp

/-! ### the printed functions' own words -/
theorem bind_some {α β : Type} {o : Option α} {k : α → Option β} {r : β} (h : o.bind k = some r) : ∃ x, o = some x ∧ k x = some r := by
  cases o with
  | none => cases h
  | some x => exact ⟨x, rfl, h⟩
theorem ite_some {β : Type} {c : Bool} {A D : Option β} {r : β} (h : (if c = true then A else D) = some r) : (c = true ∧ A = some r) ∨ (c = false ∧ D = some r) := by
  cases c with
  | true => exact .inl ⟨rfl, by simpa using h⟩
  | false => exact .inr ⟨rfl, by simpa using h⟩
def nz (n : Int) : Option Unit := if n = 0 then none else some ()
theorem nz_some {n : Int} {u : Unit} (h : nz n = some u) : n ≠ 0 := by
  unfold nz at h; split at h
  · cases h
  · assumption
abbrev w64 (n : Int) : Int := IntKind.i64.wrap n
theorem and_t {x : Value} {e v : Bool} (h : e = true) (hx : x = .bool v) : x = .bool (e && v) := by rw [h, hx]; rfl
theorem and_f {x : Value} {e v : Bool} (h : e = false) (hx : x = .bool false) : x = .bool (e && v) := by rw [h, hx]; rfl
theorem or_t {x : Value} {e v : Bool} (h : e = true) (hx : x = .bool true) : x = .bool (e || v) := by rw [h, hx]; rfl
theorem or_f {x : Value} {e v : Bool} (h : e = false) (hx : x = .bool v) : x = .bool (e || v) := by rw [h, hx]; rfl
end Go.Dec
