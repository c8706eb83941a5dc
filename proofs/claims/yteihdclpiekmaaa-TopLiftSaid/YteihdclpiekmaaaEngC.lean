/-
  The logic's rules for operations that make or write memory.
-/
import Derived.Test.YteihdclpiekmaaaEngB
import Derived.Great.BuildSlice
namespace Go.Dec
open Go Go.RowKit

def vcells : Value → List Value
  | .agg cs => cs.toList
  | v => [v]
theorem vcells_eq (v : Value) : v.cells = (vcells v).toArray := by cases v <;> simp [Value.cells, vcells]

def zeroL (P : Program) (t : TypeId) : Option (List Value) := match P.info? t with | some i => i.zero.map vcells | none => none
def putC (l : List Value) (k : Nat) (cs : List Value) : List Value := l.take k ++ cs ++ l.drop (k + cs.length)

/-- a slice literal: element type and cells -/
def builtS (P : Program) (t : TypeId) (len : Nat) (parts : List (Nat × Value)) : Option (TypeId × Array Value) :=
  match P.underlying t with
  | some (.slice e) => (match P.info? e with
    | some ie => (match ie.zero with
      | some z => bif Nat.ble (len * ie.size) (2 ^ 24) && !Nat.beq (len * ie.size) 0 then (match Instr.fill (fun i => some (i * ie.size, ie.size)) ((Array.range (len * ie.size)).map (z.cells[· % z.cells.size]!)) parts with | some c => some (e, c) | none => none) else none
      | none => none)
    | none => none)
  | _ => none
theorem run_builtS {P : Program} {t e : TypeId} {len : Nat} {parts : Array (Nat × Value)} {c : Array Value} (h : builtS P t len parts.toList = some (e, c)) (w : World) :
    (Instr.buildSlice t len parts).run P w = .ok (.slice (some ⟨w.heap.size, 0, none⟩) len len) (w.alloc (.cells c e)) := by
  unfold builtS at h
  split at h
  · rename_i e' hu
    split at h
    · rename_i ie hie
      split at h
      · rename_i z hz
        cases hb : (Nat.ble (len * ie.size) (2 ^ 24) && !Nat.beq (len * ie.size) 0) with
        | false => simp [hb] at h
        | true =>
          simp only [hb, cond_true] at h
          split at h
          · rename_i c' hf
            simp only [Option.some.injEq, Prod.mk.injEq] at h
            obtain ⟨rfl, rfl⟩ := h
            simp only [Bool.and_eq_true] at hb
            have h1 : len * ie.size ≤ 2 ^ 24 := Nat.le_of_ble_eq_true hb.1
            have h2 : ¬ len * ie.size = 0 := fun e => by simp [e] at hb
            exact run_buildSlice w t e' len parts c' ie z hu hie hz (by omega) h2 hf
          · cases h
      · cases h
    · cases h
  · cases h

/-- facts on a slice type: element type, cells, bytes, a zero value -/
def apT (P : Program) (t : TypeId) : Option (TypeId × Nat × Nat) :=
  match P.underlying t with
  | some (.slice e) => (match P.info? e with
    | some i => (match i.zero with | some z => bif Nat.beq z.cells.size i.size && Nat.blt 0 i.size && Nat.ble i.bytes 32768 then some (e, i.size, i.bytes) else none | none => none)
    | none => none)
  | _ => none
theorem apT_spec {P : Program} {t e : TypeId} {sz by_ : Nat} (h : apT P t = some (e, sz, by_)) :
    ∃ i z, P.underlying t = some (.slice e) ∧ P.info? e = some i ∧ i.zero = some z ∧ i.size = sz ∧ i.bytes = by_ ∧ z.cells.size = sz ∧ 0 < sz ∧ by_ ≤ 32768 := by
  unfold apT at h
  split at h
  · rename_i e' hu
    split at h
    · rename_i i hi
      split at h
      · rename_i z hz
        cases hb : (Nat.beq z.cells.size i.size && Nat.blt 0 i.size && Nat.ble i.bytes 32768) with
        | false => simp [hb] at h
        | true =>
          simp only [hb, cond_true, Option.some.injEq, Prod.mk.injEq] at h
          obtain ⟨rfl, rfl, rfl⟩ := h
          simp only [Bool.and_eq_true] at hb
          exact ⟨i, z, hu, hi, hz, rfl, rfl, Nat.eq_of_beq_eq_true hb.1.1, Nat.le_of_ble_eq_true hb.1.2, Nat.le_of_ble_eq_true hb.2⟩
      · cases h
    · cases h
  · cases h

section
variable {P : Program} {N : Nat} {ds : List Deferred} {B : Bs} {H : Hp} {ops : List Oper} {Q : Exit → Act → World → Prop} {rest : List Oper} {f : Nat → Value} {bs : List (Nat × Obj)} {gs : List GS}
variable {d : Nat} {t : TypeId} {p : String} {af : Array Edge} {g : Option (Nat × Bool)}

theorem JL.box {e : TypeId} {x : Operand} {cs : List Value} (hc : vcells (ev f x) = cs) (hw : Want ops f g) (hd : Nat.blt d N = true)
    (h : ∀ b, JL .plain P N ds B H ops Q rest (upd f d (.pointer (some ⟨b, 0, none⟩))) ((b, .cells cs.toArray e) :: bs) gs) : JL .plain P N ds B H ops Q (⟨some d, .box e x, t, p, af, g⟩ :: rest) f bs gs :=
  .step hw fun a w ha hs => by
    unfold Oper.wp
    have hr : (execOp (ev f) ⟨some d, .box e x, t, p, af, g⟩).run P w = .ok (.value (.pointer (some ⟨w.heap.size, 0, none⟩))) (w.alloc (.cells cs.toArray e)) := by
      simp [execOp, Instr.box, newVar, newRow, vcells_eq, hc]
    rw [ha.eval, hr]
    exact h _ _ _ (ha.put hd _) (hs.alloc _)

theorem JL.alloc {e : TypeId} {cs : List Value} (hz : zeroL P e = some cs) (hw : Want ops f g) (hd : Nat.blt d N = true)
    (h : ∀ b, JL .plain P N ds B H ops Q rest (upd f d (.pointer (some ⟨b, 0, none⟩))) ((b, .cells cs.toArray e) :: bs) gs) : JL .plain P N ds B H ops Q (⟨some d, .alloc e, t, p, af, g⟩ :: rest) f bs gs :=
  .step hw fun a w ha hs => by
    unfold Oper.wp
    have hr : (execOp (ev f) ⟨some d, .alloc e, t, p, af, g⟩).run P w = .ok (.value (.pointer (some ⟨w.heap.size, 0, none⟩))) (w.alloc (.cells cs.toArray e)) := by
      unfold zeroL at hz
      split at hz
      · rename_i i hi
        cases hz0 : i.zero with
        | none => simp [hz0] at hz
        | some z =>
          simp only [hz0, Option.map_some, Option.some.injEq] at hz
          simp [execOp, Instr.alloc, zeroValue, typeInfo, hi, hz0, newVar, newRow, vcells_eq, hz]
      · cases hz
    rw [ha.eval, hr]
    exact h _ _ _ (ha.put hd _) (hs.alloc _)

theorem setRow_size (w : World) (b : Nat) (c : Array Value) : (w.setRow b c).heap.size = w.heap.size := by simp [World.setRow]

theorem JL.storeOwn {tx e : TypeId} {x y : Operand} (i : Nat) {b k n : Nat} {r : Bool} {l cs : List Value} (hz : aggsz P tx = some (r, n)) (hx : ev f x = .pointer (some ⟨b, k, none⟩)) (hy : vcells (ev f y) = cs) (hn : cs.length = n)
    (h1 : ∀ u ∈ cs, u.oneCell' = true) (hi : bs[i]? = some (b, .cells l.toArray e)) (hfit : Nat.ble (k + n) l.length = true) (hw : Want ops f g)
    (h : JL .plain P N ds B H ops Q rest f (bs.set i (b, .cells (putC l k cs).toArray e)) gs) : JL .plain P N ds B H ops Q (⟨none, .store tx x y, t, p, af, g⟩ :: rest) f bs gs :=
  .step hw fun a w ha hs => by
    unfold Oper.wp
    obtain ⟨_, hsz, _⟩ := run_isAgg_of (w := w) hz
    have hb := (hs.own _ (List.mem_of_getElem? hi)).1
    have hle : k + n ≤ l.length := Nat.le_of_ble_eq_true hfit
    have hst := run_storeCells_at P b k e cs 0 l.toArray w hb (by simp; omega) h1
    simp only [Nat.add_zero] at hst
    have hr : (execOp (ev f) ⟨none, .store tx x y, t, p, af, g⟩).run P w = .ok .skip (w.setRow b (putC l k cs).toArray) := by
      simp [execOp, hx, Instr.storeAt, Instr.sureAddr, storeVar, vcells_eq, hy, hsz, hn, hst, putC]
    rw [ha.eval, hr]
    refine h a _ ha (hs.setOwn hi rfl rfl rfl (setRow_size _ _ _) (fun j hj => setRow_other w b j _ hj) (setRow_heap w b _ _ _ _ hb))

theorem JL.build {q : Md} {t' : TypeId} {parts : List (Nat × Operand)} {l : List Value} (hb : P.built t' (parts.map fun (i, x) => (i, ev f x)) = some l.toArray) (hw : Want ops f g) (hd : Nat.blt d N = true)
    (h : JL q P N ds B H ops Q rest (upd f d (.agg l.toArray)) bs gs) : JL q P N ds B H ops Q (⟨some d, .build t' parts.toArray, t, p, af, g⟩ :: rest) f bs gs :=
  .val hw hd (fun w _ => by
    have := run_build (P := P) w t' (parts.map fun (i, x) => (i, ev f x)).toArray l.toArray (by simpa using hb)
    simp [execOp, this]) h

theorem JL.buildSlice {t' e : TypeId} {len : Nat} {parts : List (Nat × Operand)} {l : List Value} (hb : builtS P t' len (parts.map fun (i, x) => (i, ev f x)) = some (e, l.toArray)) (hw : Want ops f g) (hd : Nat.blt d N = true)
    (h : ∀ b, JL .plain P N ds B H ops Q rest (upd f d (.slice (some ⟨b, 0, none⟩) len len)) ((b, .cells l.toArray e) :: bs) gs) : JL .plain P N ds B H ops Q (⟨some d, .buildSlice t' len parts.toArray, t, p, af, g⟩ :: rest) f bs gs :=
  .step hw fun a w ha hs => by
    unfold Oper.wp
    have := run_builtS (P := P) (t := t') (len := len) (parts := (parts.map fun (i, x) => (i, ev f x)).toArray) (by simpa using hb) w
    have hr : (execOp (ev f) ⟨some d, .buildSlice t' len parts.toArray, t, p, af, g⟩).run P w = .ok (.value (.slice (some ⟨w.heap.size, 0, none⟩) len len)) (w.alloc (.cells l.toArray e)) := by
      simp [execOp, this]
    rw [ha.eval, hr]
    exact h _ _ _ (ha.put hd _) (hs.alloc _)

/-- an empty slice literal, to be grown -/
theorem JL.emptySlice {t' e : TypeId} {sz by_ : Nat} (hA : apT P t' = some (e, sz, by_)) (hw : Want ops f g) (hd : Nat.blt d N = true)
    (h : ∀ v, JL .plain P N ds B H ops Q rest (upd f d v) bs (⟨v, e, sz, 0, []⟩ :: gs)) : JL .plain P N ds B H ops Q (⟨some d, .buildSlice t' 0 #[], t, p, af, g⟩ :: rest) f bs gs :=
  .step hw fun a w ha hs => by
    unfold Oper.wp
    obtain ⟨i, z, hu, hi, hz, hsz, hby, hzs, hpos, _⟩ := apT_spec hA
    have hr : (execOp (ev f) ⟨some d, .buildSlice t' 0 #[], t, p, af, g⟩).run P w = .ok (.value (.slice (some ⟨w.heap.size, 0, none⟩) 0 0)) (w.alloc (.cells #[] e)) := by
      simp [execOp, Instr.buildSlice, run_underlying hu, sizeOf, typeInfo, hi, Instr.fill, newRow]
      have h0 : Array.map (fun (_ : Nat) => (default : Value)) (Array.range 0) = #[] := Array.eq_empty_of_size_eq_zero (by simp)
      rw [h0]
    rw [ha.eval, hr]
    refine h _ _ _ (ha.put hd _) ?_
    have k := hs.alloc (.cells #[] e)
    refine ⟨k.below, k.hle, k.ext, fun q hq => k.own q (List.mem_cons_of_mem _ hq), (List.pairwise_cons.1 k.nodup).2, fun q hq => ?_, fun q hq b hb => ?_, List.pairwise_cons.2 ⟨fun q hq b hb e => ?_, hs.rdisj⟩⟩
    · rcases List.mem_cons.1 hq with rfl | hq
      · exact World.ownsRow_made w #[] 0 hs.below.size (by simp [maxLen]) (by simp)
      · exact k.row q hq
    · rcases List.mem_cons.1 hq with rfl | hq
      · simp [Value.ownBlock] at hb
        subst hb
        exact ⟨(k.own _ (List.mem_cons_self ..)).2.2, fun q hq e => by have := hs.own_lt hq; omega⟩
      · exact ⟨(k.rfresh q hq b hb).1, fun r hr => (k.rfresh q hq b hb).2 r (List.mem_cons_of_mem _ hr)⟩
    · simp [Value.ownBlock] at hb
      subst hb
      have := ((hs.row q hq).lt _ e).2
      omega

/-- a nil slice, to be grown -/
theorem JL.newNil {e : TypeId} {sz : Nat} {l : List Oper} (h : JL .plain P N ds B H ops Q l f bs (⟨.slice none 0 0, e, sz, 0, []⟩ :: gs)) : JL .plain P N ds B H ops Q l f bs gs := fun a w ha hs =>
  h a w ha ⟨hs.below, hs.hle, hs.ext, hs.own, hs.nodup, fun q hq => by
      rcases List.mem_cons.1 hq with rfl | hq
      · exact World.ownsRow_nil w _ _ _
      · exact hs.row q hq,
    fun q hq b hb => by
      rcases List.mem_cons.1 hq with rfl | hq
      · simp [Value.ownBlock] at hb
      · exact hs.rfresh q hq b hb,
    List.pairwise_cons.2 ⟨fun q hq b hb => by simp [Value.ownBlock] at hb, hs.rdisj⟩⟩

/-- where the appended cells come from -/
inductive Src (H : Hp) (bs : List (Nat × Obj)) (sz : Nat) : Value → Nat → List Value → Prop
  | own {i b n c : Nat} {l : List Value} {e : TypeId} (hi : bs[i]? = some (b, .cells l.toArray e)) (hl : l.length = n * sz) : Src H bs sz (.slice (some ⟨b, 0, none⟩) n c) n l
  | data {b o n c : Nat} {l : List Value} (hc : Cells H b o l) (hl : l.length = n * sz) : Src H bs sz (.slice (some ⟨b, o, none⟩) n c) n l

/-- the slice number j of the own ones grows -/
theorem St.regrow {w w' : World} (hs : St B H bs gs w) {j : Nat} {q : GS} (hj : gs[j]? = some q) (hg : w.grownBy w' q.v.ownBlock) {v' : Value} {n' : Nat} {xs' : List Value}
    (hown : w'.ownsRow B.w.heap.size q.e q.sz v' n' xs') (hat : v'.ownBlock = q.v.ownBlock ∨ v'.ownBlock = some w.heap.size) : St B H bs (gs.set j ⟨v', q.e, q.sz, n', xs'⟩) w' := by
  have hmem : q ∈ gs := List.mem_of_getElem? hj
  have hjl : j < gs.length := (List.getElem?_eq_some_iff.1 hj).1
  have hqb : ∀ b, q.v.ownBlock = some b → B.w.heap.size ≤ b ∧ b < w.heap.size := (hs.row q hmem).lt
  have hset : ∀ r ∈ gs.set j ⟨v', q.e, q.sz, n', xs'⟩, r = ⟨v', q.e, q.sz, n', xs'⟩ ∨ (r ∈ gs ∧ (∀ b, r.v.ownBlock = some b → q.v.ownBlock ≠ some b)) := fun r hr => by
    obtain ⟨i, hi⟩ := List.mem_iff_getElem?.1 hr
    rw [List.getElem?_set] at hi
    by_cases hij : j = i
    · subst hij; simp [hjl] at hi; exact .inl hi.symm
    · simp [hij] at hi
      refine .inr ⟨List.mem_of_getElem? hi, fun b hb e => ?_⟩
      obtain ⟨hil, hi2⟩ := List.getElem?_eq_some_iff.1 hi
      obtain ⟨hjl', hj2⟩ := List.getElem?_eq_some_iff.1 hj
      have hp := List.pairwise_iff_getElem.1 hs.rdisj
      rcases Nat.lt_or_gt_of_ne hij with hlt | hgt
      · exact hp j i hjl' hil hlt b (by rw [hj2]; exact e) (by rw [hi2]; exact hb)
      · exact hp i j hil hjl' hgt b (by rw [hi2]; exact hb) (by rw [hj2]; exact e)
  have hnew : ∀ b, v'.ownBlock = some b → b = w.heap.size ∨ q.v.ownBlock = some b := fun b hb => by
    rcases hat with h | h
    · exact .inr (h ▸ hb)
    · left; rw [h] at hb; exact (Option.some.inj hb).symm
  have hblock : ∀ k, k < w.heap.size → q.v.ownBlock ≠ some k → w'.heap[k]? = w.heap[k]? := fun k hk hne => hg.block k hk (fun e => hne e.symm)
  refine ⟨?_, fun b o hb => ?_, hs.ext, fun r hr => ?_, hs.nodup, fun r hr => ?_, fun r hr b hb => ?_, ?_⟩
  · exact hs.below.trans ⟨hg.os, hg.tape, hg.output, hg.size, fun k hk => hblock k (by have := hs.below.size; omega) (fun e => by have := (hqb k e).1; omega)⟩
  · rw [hblock b (hs.hle.lt hb) (fun e => by have := (hs.rfresh q hmem b e).1; rw [this] at hb; cases hb)]; exact hs.hle b o hb
  · rw [hblock r.1 (hs.own_lt hr) (fun e => (hs.rfresh q hmem r.1 e).2 r hr rfl)]; exact hs.own r hr
  · rcases hset r hr with rfl | ⟨hr', hne⟩
    · exact hown
    · refine (hs.row r hr').kept hg ?_
      cases hv : r.v.ownBlock with
      | none => exact .inl rfl
      | some b => exact .inr (fun e => hne b hv e.symm)
  · rcases hset r hr with rfl | ⟨hr', hne⟩
    · rcases hnew b hb with rfl | h
      · refine ⟨?_, fun x hx e => by have := hs.own_lt hx; omega⟩
        cases hH : H w.heap.size with
        | none => rfl
        | some o' => exact absurd (hs.hle.lt hH) (Nat.lt_irrefl _)
      · exact hs.rfresh q hmem b h
    · exact hs.rfresh r hr' b hb
  · rw [List.pairwise_iff_getElem]
    intro i k hi hk hik b
    simp only [List.length_set] at hi hk
    have hp := List.pairwise_iff_getElem.1 hs.rdisj
    have hj2 := (List.getElem?_eq_some_iff.1 hj).2
    simp only [List.getElem_set]
    by_cases h1 : j = i
    · have h2 : ¬ j = k := by omega
      rw [if_pos h1, if_neg h2]
      intro hb e
      rcases hnew b hb with rfl | h
      · have := ((hs.row _ (List.getElem_mem hk)).lt _ e).2; omega
      · subst h1
        exact hp j k hi hk hik b (by rw [hj2]; exact h) e
    · rw [if_neg h1]
      by_cases h2 : j = k
      · rw [if_pos h2]
        intro hb e
        rcases hnew b e with rfl | h
        · have := ((hs.row _ (List.getElem_mem hi)).lt _ hb).2; omega
        · subst h2
          exact hp i j hi hk hik b hb (by rw [hj2]; exact h)
      · rw [if_neg h2]
        exact hp i k hi hk hik b

theorem JL.append {tx e : TypeId} {sz by_ : Nat} {x y : Operand} (j : Nat) {q : GS} {m : Nat} {news : List Value} (hA : apT P tx = some (e, sz, by_)) (hj : gs[j]? = some q) (hq : q.e = e ∧ q.sz = sz) (hx : ev f x = q.v)
    (hsrc : Src H bs sz (ev f y) m news) (h1 : ∀ u ∈ news, u.oneCell' = true) (hlim : q.n + m ≤ 4294967296) (hw : Want ops f g) (hd : Nat.blt d N = true)
    (h : ∀ v', JL .plain P N ds B H ops Q rest (upd f d v') bs (gs.set j ⟨v', e, sz, q.n + m, q.xs ++ news⟩)) : JL .plain P N ds B H ops Q (⟨some d, .call ⟨.builtin .append, #[x, y], #[tx, tx]⟩, t, p, af, g⟩ :: rest) f bs gs :=
  .step hw fun a w ha hs => by
    obtain ⟨i, z, hu, hi, hz, hsz, hby, hzs, hpos, hb⟩ := apT_spec hA
    obtain ⟨rfl, rfl⟩ := hq
    have hmem : q ∈ gs := List.mem_of_getElem? hj
    have hsrc' : ∃ ad c, ev f y = .slice (some ad) m c ∧ news.length = m * q.sz ∧ ∀ j u, news[j]? = some u → w.cell? (ad.add j) = some u := by
      generalize hy : ev f y = vy at hsrc
      cases hsrc with
      | @own i b _ c l e' hi hl => exact ⟨_, c, rfl, hl, fun j u hu => by rw [Addr.add_mid]; exact hs.has hi j u hu⟩
      | @data b o _ c l hc hl => exact ⟨_, c, rfl, hl, fun j u hu => by rw [Addr.add_mid]; exact hc.has hs.hle j u hu⟩
    obtain ⟨ad, c, hy, hl, hnews⟩ := hsrc'
    have hbytes : (q.n + m) * by_ ≤ 140737488355328 := Nat.le_trans (Nat.mul_le_mul hlim hb) (by decide)
    obtain ⟨v', w', hr, ho, hg, _, hat⟩ := run_append_own_at (P := P) w B.w.heap.size tx t q.e i z q.sz by_ hu hi hz hsz hby hzs hpos q.v q.n q.xs (hs.row q hmem) ad m c news hl hnews h1 (by simp only [maxLen]; omega) hbytes hs.below.size
    unfold Oper.wp
    have hr' : (execOp (ev f) ⟨some d, .call ⟨.builtin .append, #[x, y], #[tx, tx]⟩, t, p, af, g⟩).run P w = .ok (.value v') w' := by
      simp [execOp, resolve, invoke, builtin, hx, hy, hr]
    rw [ha.eval, hr']
    exact h v' _ _ (ha.put hd v') (hs.regrow hj hg ho hat)
end
end Go.Dec
