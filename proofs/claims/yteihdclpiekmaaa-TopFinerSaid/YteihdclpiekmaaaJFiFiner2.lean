/-
  A part of the proof of FiFiner: the texts EngW, EngX, EngY, FiGenT, FiGenK0.
-/
import Derived.Test.YteihdclpiekmaaaJFiFiner1
import Derived.Test.YteihdclpiekmaaaRows
section
namespace Go.Dec
open Go Go.RowKit
/-- facts on a map type: key, element, an element's zero -/
def mpT (P : Program) (t : TypeId) : Option (TypeId × TypeId) :=
  match P.underlying t with
  | some (.map k e) => (match P.info? e with | some i => (match i.zero with | some (.int .i64 0) => some (k, e) | _ => none) | none => none)
  | _ => none
theorem mpT_spec {P : Program} {t k e : TypeId} (h : mpT P t = some (k, e)) : ∃ i, P.underlying t = some (.map k e) ∧ P.info? e = some i ∧ i.zero = some (.int .i64 0) := by
  unfold mpT at h
  split at h
  · rename_i k' e' hu
    split at h
    · rename_i i hi
      split at h
      · rename_i hz
        simp only [Option.some.injEq, Prod.mk.injEq] at h
        obtain ⟨rfl, rfl⟩ := h
        exact ⟨i, hu, hi, hz⟩
      · cases h
    · cases h
  · cases h
/-- a map as data -/
def MD (n : Nat) (ek : List Int → Value) (H : Hp) (v : Value) (m : Mp) : Prop := (v = .map none ∧ m = []) ∨ ∃ b es ck, v = .map (some b) ∧ H b = some (.map es ck) ∧ MR n ek m es ck
theorem MD.mono {n : Nat} {ek : List Int → Value} {H H' : Hp} (h : HSub H H') {v : Value} {m : Mp} (hm : MD n ek H v m) : MD n ek H' v m :=
  hm.imp id fun ⟨b, es, ck, h1, h2, h3⟩ => ⟨b, es, ck, h1, h.le _ _ h2, h3⟩
theorem MD.nil {n : Nat} {ek : List Int → Value} {H : Hp} : MD n ek H (.map none) [] := .inl ⟨rfl, rfl⟩
theorem MD.one {n : Nat} {ek : List Int → Value} {H : Hp} {v : Value} {m : Mp} (h : MD n ek H v m) : v.oneCell' = true := by
  rcases h with ⟨rfl, _⟩ | ⟨b, es, ck, rfl, _⟩ <;> rfl
section
variable {q : Md} {P : Program} {ro : Option Nat} {N : Nat} {ds : List Deferred} {B : Bs} {H : Hp} {ops : List Oper} {Q : Exit → Act → World → Prop} {rest : List Oper} {f : Nat → Value} {bs : List (Nat × Obj)} {gs : List GS}
variable {d : Nat} {t : TypeId} {p : String} {af : Array Edge} {g : Option (Nat × Bool)} {kt : TypeId} {n : Nat} {ek : List Int → Value} {m : Mp} {es : Array MapEntry} {ck : Nat}
theorem JL.makeMap {t' : TypeId} (hw : Want ops f g) (hd : Nat.blt d N = true)
    (h : ∀ b, JL .plain P N ds B H ops Q rest (upd f d (.map (some b))) ((b, .map #[] 0) :: bs) gs) : JL .plain P N ds B H ops Q (⟨some d, .makeMap t' none, t, p, af, g⟩ :: rest) f bs gs :=
  .step hw fun a w ha hs => by
    unfold Oper.wp
    have hr : (execOp (ev f) ⟨some d, .makeMap t' none, t, p, af, g⟩).run P w = .ok (.value (.map (some w.heap.size))) (w.alloc (.map #[] 0)) := by
      simp [execOp, Instr.makeMap]
    rw [ha.eval, hr]
    exact h _ _ _ (ha.put hd _) (hs.alloc _)
/-- where the map lies: in an own block, or in the data -/
inductive MAt (H : Hp) (bs : List (Nat × Obj)) (b : Nat) (o : Obj) : Prop
  | own (i : Nat) (hi : bs[i]? = some (b, o))
  | data (h : H b = some o)
theorem MAt.at {b : Nat} {o : Obj} (h : MAt H bs b o) {w : World} (hs : St B H bs gs w) : w.heap[b]? = some o := by
  cases h with
  | own i hi => exact (hs.own _ (List.mem_of_getElem? hi)).1
  | data h => exact hs.hle.le _ _ h
theorem JL.lookupM {t' e : TypeId} {x ix : Operand} {b : Nat} {k : List Int} (ht : mpT P t' = some (kt, e)) (K : KT P kt n ek) (hx : ev f x = .map (some b)) (hb : MAt H bs b (.map es ck)) (hm : MR n ek m es ck) (hi : ev f ix = ek k) {u : Unit} (hk : kok n k = some u) (hw : Want ops f g) (hd : Nat.blt d N = true)
    (h : JL q P N ds B H ops Q rest (upd f d (.int .i64 (mget m k))) bs gs) : JL q P N ds B H ops Q (⟨some d, .lookup t' x ix false, t, p, af, g⟩ :: rest) f bs gs :=
  .val hw hd (fun w hs => by
    obtain ⟨i, h1, h2, h3⟩ := mpT_spec ht
    have := run_lookupM hm K h1 h2 h3 (hb.at hs) (kok_some hk)
    simp [execOp, hx, hi, this]) h
theorem JL.lookupMv {t' e : TypeId} {x ix : Operand} {b : Nat} {k : List Int} {v : Int} (ht : mpT P t' = some (kt, e)) (K : KT P kt n ek) (hx : ev f x = .map (some b)) (hb : MAt H bs b (.map es ck)) (hm : MR n ek m es ck) (hi : ev f ix = ek k) {u : Unit} (hk : kok n k = some u) (hv : mget m k = v) (hw : Want ops f g) (hd : Nat.blt d N = true)
    (h : JL q P N ds B H ops Q rest (upd f d (.int .i64 v)) bs gs) : JL q P N ds B H ops Q (⟨some d, .lookup t' x ix false, t, p, af, g⟩ :: rest) f bs gs := JL.lookupM ht K hx hb hm hi hk hw hd (by rw [hv]; exact h)
theorem JL.lenM {t' e : TypeId} {x : Operand} {b : Nat} (ht : mpT P t' = some (kt, e)) (hx : ev f x = .map (some b)) (hb : MAt H bs b (.map es ck)) (hm : MR n ek m es ck) (hw : Want ops f g) (hd : Nat.blt d N = true)
    (h : JL q P N ds B H ops Q rest (upd f d (.int .i64 (m.length : Nat))) bs gs) : JL q P N ds B H ops Q (⟨some d, .call ⟨.builtin .len, #[x], #[t']⟩, t, p, af, g⟩ :: rest) f bs gs :=
  .val hw hd (fun w hs => by
    obtain ⟨i, h1, h2, h3⟩ := mpT_spec ht
    have hb := hb.at hs
    simp [execOp, resolve, invoke, builtin, Builtin.len_, hx, run_underlying h1, MapKept.run_getObj_map hb, goInt, hm.len]) h
theorem JL.updateM {od : Option Nat} {t' e : TypeId} {x ix y : Operand} (i : Nat) {b : Nat} {k : List Int} {v : Int} (ht : mpT P t' = some (kt, e)) (K : KT P kt n ek) (hx : ev f x = .map (some b)) (hb : bs[i]? = some (b, .map es ck)) (hm : MR n ek m es ck) (hi : ev f ix = ek k) {u : Unit} (hk : kok n k = some u) (hy : ev f y = .int .i64 v) (hw : Want ops f g) (hd : od = none)
    (h : ∀ es' ck', MR n ek (mput m k v) es' ck' → JL .plain P N ds B H ops Q rest f (bs.set i (b, .map es' ck')) gs) : JL .plain P N ds B H ops Q (⟨od, .mapUpdate t' x ix y, t, p, af, g⟩ :: rest) f bs gs :=
  .step hw fun a w ha hs => by
    obtain ⟨_, h1, _, _⟩ := mpT_spec ht
    obtain ⟨es', ck', hr, hm'⟩ := run_updateM hm K h1 (hs.own _ (List.mem_of_getElem? hb)).1 (kok_some hk) v
    unfold Oper.wp
    subst hd
    have hr2 : (execOp (ev f) ⟨none, .mapUpdate t' x ix y, t, p, af, g⟩).run P w = .ok .skip (w.putObj b (.map es' ck')) := by
      simp [execOp, hx, hi, hy, hr]
    rw [ha.eval, hr2]
    exact h es' ck' hm' a _ ha (hs.put _ hb)
theorem JL.entryM {t' e : TypeId} {x ix : Operand} (i : Nat) {b : Nat} {k : List Int} (ht : mpT P t' = some (kt, e)) (K : KT P kt n ek) (hx : ev f x = .map (some b)) (hb : bs[i]? = some (b, .map es ck)) (hm : MR n ek m es ck) (hi : ev f ix = ek k) {u : Unit} (hk : kok n k = some u) (hw : Want ops f g) (hd : Nat.blt d N = true)
    (h : ∀ es' ck' st, MR n ek (mput m k (mget m k)) es' ck' → EAt es' st (ek k) → JL .plain P N ds B H ops Q rest (upd f d (.tuple [.int .i64 (mget m k), .int .i64 st].toArray)) (bs.set i (b, .map es' ck')) gs) : JL .plain P N ds B H ops Q (⟨some d, .mapEntry t' x ix, t, p, af, g⟩ :: rest) f bs gs :=
  .step hw fun a w ha hs => by
    obtain ⟨_, h1, h2, h3⟩ := mpT_spec ht
    obtain ⟨es', ck', st, hr, hm', he⟩ := run_entryM hm K h1 h2 h3 (hs.own _ (List.mem_of_getElem? hb)).1 (kok_some hk)
    unfold Oper.wp
    have hr2 : (execOp (ev f) ⟨some d, .mapEntry t' x ix, t, p, af, g⟩).run P w = .ok (.value (.tuple [.int .i64 (mget m k), .int .i64 st].toArray)) (w.putObj b (.map es' ck')) := by
      simp [execOp, hx, hi, hr, goInt]
    rw [ha.eval, hr2]
    exact h es' ck' st hm' he _ _ (ha.put hd _) (hs.put _ hb)
theorem JL.storeM {od : Option Nat} {t' : TypeId} {x sx y : Operand} (i : Nat) {b : Nat} {k : List Int} {st v : Int} (K : KT P kt n ek) (hx : ev f x = .map (some b)) (hb : bs[i]? = some (b, .map es ck)) (hm : MR n ek m es ck) (hk : Kok n k) (hsx : ev f sx = .int .i64 st) (he : EAt es st (ek k)) (hy : ev f y = .int .i64 v) (hw : Want ops f g) (hd : od = none)
    (h : ∀ es', MR n ek (mput m k v) es' ck → JL .plain P N ds B H ops Q rest f (bs.set i (b, .map es' ck)) gs) : JL .plain P N ds B H ops Q (⟨od, .entryStore t' x sx y, t, p, af, g⟩ :: rest) f bs gs :=
  .step hw fun a w ha hs => by
    obtain ⟨es', hr, hm'⟩ := run_storeM (t := t') hm K (hs.own _ (List.mem_of_getElem? hb)).1 hk he v
    unfold Oper.wp
    subst hd
    have hr2 : (execOp (ev f) ⟨none, .entryStore t' x sx y, t, p, af, g⟩).run P w = .ok .skip (w.putObj b (.map es' ck)) := by
      simp only [goInt] at hr
      simp [execOp, hx, hsx, hy, hr]
    rw [ha.eval, hr2]
    exact h es' hm' a _ ha (hs.put _ hb)
/-- what is known while a loop over a map is under way: m0: what lay there at its start, d: what has come -/
structure IR (n : Nat) (ek : List Int → Value) (m0 m : Mp) (es : Array MapEntry) (ck since : Nat) (seen : Array Nat) (c0 : Nat) (d : Mp) : Prop where
  hold : ∀ x ∈ es.toList, x.born < since
  sc : since ≤ c0
  sk : since ≤ ck
  sub : ∀ p ∈ d, p ∈ m0
  nd : d.Nodup
  seen : ∀ e ∈ es.toList, ∀ p ∈ m, e.key = ek p.1 → (p ∈ d ↔ seen.contains e.born = true)
  left : ∀ p ∈ m0, p ∉ d → p ∈ m
  old : ∀ p ∈ m, p ∈ m0
  srt : Srt m0
theorem IR.start (h : MR n ek m es ck) : IR n ek m m es ck ck #[] ck [] := ⟨((MapKept.stamped_iff es ck).1 h.st).1, Nat.le_refl _, Nat.le_refl _, by simp, .nil, by simp, fun _ h _ => h, fun _ h => h, h.srt⟩
theorem IR.drop {m0 : Mp} {since c0 : Nat} {seen : Array Nat} {d : Mp} {es' : Array MapEntry} {x : List Int × Int} (h : IR n ek m0 m es ck since seen c0 d) (hs : es'.toList.Sublist es.toList) (hx : x ∈ d) : IR n ek m0 (mdel m x.1) es' ck since seen c0 d :=
  ⟨fun y hy => h.hold y (hs.subset hy), h.sc, h.sk, h.sub, h.nd, fun e he p hp => h.seen e (hs.subset he) p (mem_mdel.1 hp).1, fun p hp hn => mem_mdel.2 ⟨h.left p hp hn, fun e => hn (by rw [srt_inj h.srt hp (h.sub x hx) e]; exact hx)⟩, fun p hp => h.old p (mem_mdel.1 hp).1, h.srt⟩
theorem JL.rangeM {t' e : TypeId} {x : Operand} {b : Nat} (ht : mpT P t' = some (kt, e)) (hx : ev f x = .map (some b)) (hb : MAt H bs b (.map es ck)) (hm : MR n ek m es ck) (hw : Want ops f g) (hd : Nat.blt d N = true)
    (h : ∀ r since seen c0, IR n ek m m es ck since seen c0 [] → JL .plain P N ds B H ops Q rest (upd f d (.pointer (some ⟨r, 0, none⟩))) ((r, .mapIter (some b) since seen c0) :: bs) gs) : JL .plain P N ds B H ops Q (⟨some d, .range t' x, t, p, af, g⟩ :: rest) f bs gs :=
  .step hw fun a w ha hs => by
    obtain ⟨_, h1, _, _⟩ := mpT_spec ht
    have hb := hb.at hs
    unfold Oper.wp
    have hr : (execOp (ev f) ⟨some d, .range t' x, t, p, af, g⟩).run P w = .ok (.value (.pointer (some ⟨w.heap.size, 0, none⟩))) (w.alloc (.mapIter (some b) ck #[] ck)) := by
      have := run_range_map (P := P) w t' kt e b es ck h1 hb
      simp [execOp, hx, this]
    rw [ha.eval, hr]
    exact h _ _ _ _ (.start hm) _ _ (ha.put hd _) (hs.alloc _)
/-- what the last step has handed out -/
def EN (ek : List Int → Value) (es : Array MapEntry) (ck : Nat) (seen : Array Nat) (c0 : Nat) (x : List Int × Int) : Prop :=
  c0 = ck ∧ ∃ (s : Array Nat) (e : MapEntry), seen = s.push e.born ∧ e ∈ es.toList ∧ e.key = ek x.1 ∧ e.val = .int .i64 x.2
theorem nodup_snoc {d : Mp} {x : List Int × Int} (h : d.Nodup) (hx : x ∉ d) : (d ++ [x]).Nodup := by
  rw [List.nodup_append]
  refine ⟨h, by simp, fun a ha b hb e => ?_⟩
  rw [List.mem_singleton] at hb
  subst hb; subst e
  exact hx ha
theorem JL.nextM {it : Operand} (i : Nat) {r b since c0 : Nat} {seen : Array Nat} {m0 dd : Mp} (K : KT P kt n ek) (hx : ev f it = .pointer (some ⟨r, 0, none⟩)) (hi : bs[i]? = some (r, .mapIter (some b) since seen c0)) (hb : MAt H bs b (.map es ck)) (hm : MR n ek m es ck) (hI : IR n ek m0 m es ck since seen c0 dd) (hw : Want ops f g) (hd : Nat.blt d N = true)
    (hdone : dd.Perm m0 → JL .plain P N ds B H ops Q rest (upd f d (.tuple [.bool false].toArray)) bs gs)
    (hgo : ∀ x seen' c0', x ∈ m0 → x ∈ m → x ∉ dd → IR n ek m0 m es ck since seen' c0' (dd ++ [x]) → EN ek es ck seen' c0' x → JL .plain P N ds B H ops Q rest (upd f d (.tuple [.bool true, ek x.1, .int .i64 x.2].toArray)) (bs.set i (r, .mapIter (some b) since seen' c0')) gs) :
    JL .plain P N ds B H ops Q (⟨some d, .next it false, t, p, af, g⟩ :: rest) f bs gs :=
  .step hw fun a w ha hs => by
    have hbw := hb.at hs
    have hrw := (hs.own _ (List.mem_of_getElem? hi)).1
    unfold Oper.wp
    rw [ha.eval]
    rcases run_next_at (P := P) w t r b since c0 seen es ck hrw hbw hI.hold hI.sc with ⟨h0, hr⟩ | ⟨e, he, w1, hal, hr⟩
    · have hr2 : (execOp (ev f) ⟨some d, .next it false, t, p, af, g⟩).run P w = .ok (.value (.tuple [.bool false].toArray)) w := by
        simp [execOp, hx, hr]
      rw [hr2]
      refine hdone ?_ _ _ (ha.put hd _) hs
      refine (List.perm_ext_iff_of_nodup hI.nd (srt_nodup hI.srt)).2 fun x => ⟨hI.sub x, fun hxm0 => ?_⟩
      by_cases hxd : x ∈ dd
      · exact hxd
      · have hxm := hI.left x hxm0 hxd
        obtain ⟨y, hy, hy1, _⟩ := hm.mem x hxm
        exact (hI.seen y hy x hxm hy1).2 (all_seen es seen h0 y hy)
    · obtain ⟨hem, hes⟩ := mem_left he
      obtain ⟨x, hxm, hx1, hx2⟩ := hm.mem' e hem
      have hxd : x ∉ dd := fun hh => by
        have := (hI.seen e hem x hxm hx1).1 hh
        rw [hes] at this
        cases this
      have hr2 : (execOp (ev f) ⟨some d, .next it false, t, p, af, g⟩).run P w = .ok (.value (.tuple [.bool true, ek x.1, .int .i64 x.2].toArray)) (ChangeMaps.setBlock w1 r (.mapIter (some b) since (seen.push e.born) ck)) := by
        simp [execOp, hx, hr, hx1, hx2]
      rw [hr2]
      have hst := (MapKept.stamped_iff es ck).1 hm.st
      refine hgo x (seen.push e.born) ck (hI.old x hxm) hxm hxd ⟨hI.hold, hI.sk, hI.sk, fun y hy => ?_, nodup_snoc hI.nd hxd, fun y hy z hz hyz => ?_, fun z hz hn => hI.left z hz (fun h => hn (List.mem_append_left _ h)), hI.old, hI.srt⟩ ⟨rfl, seen, e, rfl, hem, hx1, hx2⟩ _ _ (ha.put hd _) ?_
      · rcases List.mem_append.1 hy with hy | hy
        · exact hI.sub y hy
        · rw [List.mem_singleton.1 hy]; exact hI.old x hxm
      · rw [contains_push, List.mem_append, hI.seen y hy z hz hyz, List.mem_singleton]
        constructor
        · rintro (h1 | rfl)
          · rw [h1]; rfl
          · have : y = e := entry_eq_of_key hst.2.2 hy hem (by rw [hyz, hx1])
            subst this; simp
        · intro h1
          simp only [Bool.or_eq_true, beq_iff_eq] at h1
          rcases h1 with h1 | h1
          · exact .inl h1
          · right
            have : y = e := born_inj hst.2.1 hy hem h1
            subst this
            have : z.1 = x.1 := K.inj _ _ (hm.okk z hz) (hm.okk x hxm) (by rw [← hyz, ← hx1])
            exact srt_inj hm.srt hz hxm this
      · have hs1 : St B H bs gs w1 := by
          rcases hal with rfl | rfl
          · exact hs
          · exact hs.drew _
        exact hs1.put _ hi
theorem JL.entryIt {it : Operand} (i : Nat) {r b since c0 : Nat} {seen : Array Nat} {y : List Int × Int} (hx : ev f it = .pointer (some ⟨r, 0, none⟩)) (hi : bs[i]? = some (r, .mapIter (some b) since seen c0)) (hb : MAt H bs b (.map es ck)) (hm : MR n ek m es ck) (hE : EN ek es ck seen c0 y) (hw : Want ops f g) (hd : Nat.blt d N = true)
    (h : JL q P N ds B H ops Q rest (upd f d (.tuple [ek y.1, .int .i64 y.2].toArray)) bs gs) : JL q P N ds B H ops Q (⟨some d, .entry it, t, p, af, g⟩ :: rest) f bs gs :=
  .val hw hd (fun w hs => by
    obtain ⟨rfl, s, e, rfl, he, h1, h2⟩ := hE
    have := run_entry_at (P := P) w r b since s es c0 e (hs.own _ (List.mem_of_getElem? hi)).1 (hb.at hs) he ((MapKept.stamped_iff es c0).1 hm.st).2.1
    simp [execOp, hx, this, h1, h2]) h
theorem JL.insertM {od : Option Nat} {t' e : TypeId} {x ix y : Operand} (i : Nat) {b : Nat} {k : List Int} {v : Int} (ht : mpT P t' = some (kt, e)) (K : KT P kt n ek) (hx : ev f x = .map (some b)) (hb : bs[i]? = some (b, .map es ck)) (hm : MR n ek m es ck) (hi : ev f ix = ek k) {u : Unit} (hk : kok n k = some u) (hy : ev f y = .int .i64 v) (hw : Want ops f g) (hd : od = none)
    (h : ∀ es' ck', MR n ek (mput m k v) es' ck' → JL .plain P N ds B H ops Q rest f (bs.set i (b, .map es' ck')) gs) : JL .plain P N ds B H ops Q (⟨od, .insert t' x ix y, t, p, af, g⟩ :: rest) f bs gs :=
  .step hw fun a w ha hs => by
    obtain ⟨_, h1, _, _⟩ := mpT_spec ht
    obtain ⟨es', ck', hr, hm'⟩ := run_updateM hm K h1 (hs.own _ (List.mem_of_getElem? hb)).1 (kok_some hk) v
    unfold Oper.wp
    subst hd
    have hr2 : (execOp (ev f) ⟨none, .insert t' x ix y, t, p, af, g⟩).run P w = .ok .skip (w.putObj b (.map es' ck')) := by
      simp [execOp, hx, hi, hy, hr]
    rw [ha.eval, hr2]
    exact h es' ck' hm' a _ ha (hs.put _ hb)
theorem JL.deleteM {od : Option Nat} {t' e : TypeId} {x ix : Operand} (i : Nat) {b : Nat} {k : List Int} (ht : mpT P t' = some (kt, e)) (K : KT P kt n ek) (hx : ev f x = .map (some b)) (hb : bs[i]? = some (b, .map es ck)) (hm : MR n ek m es ck) (hi : ev f ix = ek k) (hk : Kok n k) (hw : Want ops f g) (hd : od = none)
    (h : ∀ es', MR n ek (mdel m k) es' ck → es'.toList.Sublist es.toList → JL .plain P N ds B H ops Q rest f (bs.set i (b, .map es' ck)) gs) : JL .plain P N ds B H ops Q (⟨od, .call ⟨.builtin .delete, #[x, ix], #[t', kt]⟩, t, p, af, g⟩ :: rest) f bs gs :=
  .step hw fun a w ha hs => by
    obtain ⟨_, h1, _, _⟩ := mpT_spec ht
    obtain ⟨es', hr, hm', hsub, _⟩ := run_deleteM (ty := t) hm K h1 (hs.own _ (List.mem_of_getElem? hb)).1 hk
    unfold Oper.wp
    subst hd
    have hr2 : (execOp (ev f) ⟨none, .call ⟨.builtin .delete, #[x, ix], #[t', kt]⟩, t, p, af, g⟩).run P w = .ok (.value (.tuple [].toArray)) (w.putObj b (.map es' ck)) := by
      simp [execOp, resolve, invoke, builtin, hx, hi, hr]
    rw [ha.eval, hr2]
    exact h es' hm' hsub _ _ ha (hs.put _ hb)
/-- the loop's step over a list -/
def foldP {S : Type} (step : S → List Int × Int → Option S) : S → Mp → Option S
  | s, [] => some s
  | s, x :: l => (step s x).bind fun s' => foldP step s' l
theorem foldP_append {S : Type} {step : S → List Int × Int → Option S} : ∀ (l l' : Mp) (s : S), foldP step s (l ++ l') = (foldP step s l).bind fun s' => foldP step s' l'
  | [], _, _ => rfl
  | x :: l, l', s => by
    simp only [List.cons_append, foldP]
    cases step s x with
    | none => rfl
    | some s' => exact foldP_append l l' s'
open Classical in
/-- a loop over a map whose outcome does not hang on the order -/
noncomputable def permO {S : Type} (step : S → List Int × Int → Option S) (s : S) (m : Mp) : Option S :=
  if ∀ l : Mp, l.Perm m → foldP step s l = foldP step s m then foldP step s m else none
theorem permO_all {S : Type} {step : S → List Int × Int → Option S} {s r : S} {m : Mp} (h : permO step s m = some r) {l : Mp} (hl : l.Perm m) : foldP step s l = some r := by
  unfold permO at h
  split at h
  · rename_i hp; rw [hp l hl]; exact h
  · cases h
theorem permO_of {S : Type} {step : S → List Int × Int → Option S} {s r : S} {m : Mp} (h : ∀ l : Mp, l.Perm m → foldP step s l = some r) : permO step s m = some r := by
  unfold permO
  rw [if_pos (fun l hl => by rw [h l hl, h m (List.Perm.refl _)]), h m (List.Perm.refl _)]
abbrev MAsn (S : Type) := Mp → S → Hp → (Nat → Value) → List (Nat × Obj) → List GS → Prop
/-- the next round's start -/
def MNext {S : Type} (N : Nat) (ds : List Deferred) (B : Bs) (m : Mp) (step : S → List Int × Int → Option S) (A : MAsn S) (dd : Mp) (s : S) : Act → World → Prop := fun a w =>
  ∃ x s', x ∈ m ∧ x ∉ dd ∧ step s x = some s' ∧ ∃ H f bs gs, A (dd ++ [x]) s' H f bs gs ∧ Fr N ds a f ∧ St B H bs gs w
theorem JQ.mnext {S : Type} {step : S → List Int × Int → Option S} {A : MAsn S} {dd : Mp} {s s' : S} {x : List Int × Int} (hx : x ∈ m) (hn : x ∉ dd) (hs : step s x = some s') (hA : A (dd ++ [x]) s' H f bs gs) : JQ N ds B H .normal (Exit.then (MNext N ds B m step A dd s) Q) f bs gs :=
  fun _ _ _ ha hst => ⟨x, s', hx, hn, hs, H, f, bs, gs, hA, ha, hst⟩
theorem rest_of {m d : Mp} (hd : d.Nodup) (hm : m.Nodup) (hsub : ∀ x ∈ d, x ∈ m) {x : List Int × Int} (hx : x ∈ m) (hn : x ∉ d) : ∃ l, (d ++ x :: l).Perm m := by
  refine ⟨m.filter fun y => decide (y ∉ d ∧ y ≠ x), (List.perm_ext_iff_of_nodup ?_ hm).2 fun y => ?_⟩
  · rw [List.nodup_append]
    refine ⟨hd, List.nodup_cons.2 ⟨by simp, hm.filter _⟩, fun a ha b hb e => ?_⟩
    subst e
    rcases List.mem_cons.1 hb with rfl | hb
    · exact hn ha
    · have := (List.mem_filter.1 hb).2
      simp only [decide_eq_true_eq] at this
      exact this.1 ha
  · simp only [List.mem_append, List.mem_cons, List.mem_filter, decide_eq_true_eq]
    constructor
    · rintro (h | rfl | h)
      · exact hsub y h
      · exact hx
      · exact h.1
    · intro h
      by_cases h1 : y ∈ d
      · exact .inl h1
      · by_cases h2 : y = x
        · exact .inr (.inl h2)
        · exact .inr (.inr ⟨h, h1, h2⟩)
theorem JC.mapLoop {S : Type} {c : Code} {step : S → List Int × Int → Option S} {s0 r : S} (hm : m.Nodup) (hF : permO step s0 m = some r) (A : MAsn S) (h0 : A [] s0 H f bs gs)
    (body : ∀ dd s H f bs gs, A dd s H f bs gs → (dd.Perm m → s = r) → (∀ x, x ∈ m → x ∉ dd → ∃ s', step s x = some s') → JC P ro N ds B H c (Exit.then (MNext N ds B m step A dd s) Q) f bs gs) : JC P ro N ds B H (.loop c) Q f bs gs := fun hQ a w ha hs => by
  refine wpIn_loop_ind (fun k a w => ∃ dd s H f bs gs, A dd s H f bs gs ∧ foldP step s0 dd = some s ∧ dd.Nodup ∧ (∀ x ∈ dd, x ∈ m) ∧ k = m.length - dd.length ∧ Fr N ds a f ∧ St B H bs gs w) (n := m.length) ⟨[], s0, H, f, bs, gs, h0, rfl, .nil, by simp, by simp, ha, hs⟩ ?_
  rintro k a w ⟨dd, s, H, f, bs, gs, hA, hf, hnd, hsub, hk, ha, hs⟩
  have hgo : ∀ x, x ∈ m → x ∉ dd → ∃ s', step s x = some s' := fun x hx hn => by
    obtain ⟨l, hl⟩ := rest_of hnd hm hsub hx hn
    have := permO_all hF hl
    rw [foldP_append, hf] at this
    simp only [Option.bind_some, foldP] at this
    cases hst : step s x with
    | none => rw [hst] at this; cases this
    | some s' => exact ⟨s', rfl⟩
  refine wpIn_mono (body dd s H f bs gs hA (fun hp => by
    have := permO_all hF hp
    rw [hf] at this
    exact Option.some.inj this) hgo (noOut_then.2 hQ) a w ha hs) ?_
  intro e a' w' hq
  cases e with
  | normal =>
    obtain ⟨x, s', hx, hn, hst, H', f', bs', gs', h1, h2, h3⟩ := hq
    have hlen : (dd ++ [x]).length ≤ m.length := by
      obtain ⟨l, hl⟩ := rest_of hnd hm hsub hx hn
      have := hl.length_eq
      simp at this ⊢
      omega
    refine ⟨m.length - (dd ++ [x]).length, ?_, dd ++ [x], s', H', f', bs', gs', h1, ?_, nodup_snoc hnd hn, fun y hy => ?_, rfl, h2, h3⟩
    · simp at hlen ⊢; omega
    · rw [foldP_append, hf]; simp [foldP, hst]
    · rcases List.mem_append.1 hy with hy | hy
      · exact hsub y hy
      · rw [List.mem_singleton.1 hy]; exact hx
  | _ => exact hq
end
end Go.Dec
end
section
set_option maxRecDepth 100000
set_option maxHeartbeats 40000000
namespace Go.Dec
open Go Go.RowKit
abbrev av (kd : IntKind) (l : List Int) : List Value := l.map (Value.int kd)
theorem av_len {kd : IntKind} {l : List Int} {n : Nat} (h : l.length = n) : (av kd l).length = n := by simpa [av] using h
theorem loadw_arr {kd : IntKind} {l : List Int} {n : Nat} (h : l.length = n) : loadw (true, n) (av kd l) 0 = some (.agg (av kd l).toArray) := by
  subst h
  have e : Nat.ble (0 + l.length) (av kd l).length = true := Nat.ble_eq_true_of_le (by simp [av])
  have e2 : ((av kd l).drop 0).take l.length = av kd l := by simp [av, List.take_of_length_le]
  simp only [loadw, e, cond_true, e2]
theorem av_one {kd : IntKind} {l : List Int} : ∀ u ∈ av kd l, u.oneCell' = true := fun u hu => by
  obtain ⟨x, _, rfl⟩ := List.mem_map.1 hu; rfl
theorem av_get {kd : IntKind} {l : List Int} {i : Int} {y : Int} (h : geti l i = some y) : (av kd l)[i.toNat]? = some (.int kd y) := by
  unfold geti at h
  split at h
  · simp [av, h]
  · cases h
theorem av_set {kd : IntKind} {l : List Int} {i : Int} {y : Int} : (av kd l).set i.toNat (.int kd y) = av kd (setx l i y) := by simp [av, setx, List.map_set]
theorem av_lt {kd : IntKind} {l : List Int} {i : Int} {y : Int} (h : geti l i = some y) : i.toNat < (av kd l).length := by
  unfold geti at h
  split at h
  · have := (List.getElem?_eq_some_iff.1 h).1; simpa [av] using this
  · cases h
theorem setx_length {l : List Int} {i y : Int} {n : Nat} (h : l.length = n) : (setx l i y).length = n := by rw [setx_len]; exact h
theorem putC_all {l cs : List Value} (h : l.length = cs.length) : putC l 0 cs = cs := by
  simp [putC, ← h]
theorem Kok.one {k : List Int} (h : Kok 1 k) : ∃ x, k = [x] := by
  match k, h.1 with
  | [x], _ => exact ⟨x, rfl⟩
section
variable {q : Md} {P : Program} {ro : Option Nat} {N : Nat} {ds : List Deferred} {B : Bs} {H : Hp} {ops : List Oper} {Q : Exit → Act → World → Prop} {rest : List Oper} {f : Nat → Value} {bs : List (Nat × Obj)} {gs : List GS}
variable {d : Nat} {t : TypeId} {p : String} {af : Array Edge} {g : Option (Nat × Bool)}
theorem JL.indexArrP {tx e : TypeId} {x ix : Operand} {k : IntKind} {i y : Int} {b len : Nat} {l : List Int} (ht : arrT P tx = some (e, len)) (hz : aggsz P e = some (false, 1)) (hx : ev f x = .pointer (some ⟨b, 0, none⟩)) (hi : ev f ix = .int k i) (hl : l.length = len) (hy : geti l i = some y) (hw : Want ops f g) (hd : Nat.blt d N = true)
    (h : JL q P N ds B H ops Q rest (upd f d (.pointer (some ⟨b, i.toNat, none⟩))) bs gs) : JL q P N ds B H ops Q (⟨some d, .indexAddr tx x ix, t, p, af, g⟩ :: rest) f bs gs :=
  .val hw hd (fun w _ => by
    obtain ⟨_, h2, _⟩ := run_isAgg_of (w := w) hz
    unfold arrT at ht
    split at ht
    · rename_i n' e' hu
      simp only [Option.some.injEq, Prod.mk.injEq] at ht
      obtain ⟨rfl, rfl⟩ := ht
      unfold geti at hy
      split at hy
      · rename_i h0
        have hlt : i < n' := by have := (List.getElem?_eq_some_iff.1 hy).1; omega
        simp [execOp, hx, hi, Instr.indexAt, asIntOf, run_underlying hu, Instr.sureAddr, h0, hlt, h2, Addr.add_mid]
      · cases hy
    · cases ht) h
theorem JL.loadArr {kd : IntKind} {tx : TypeId} {x : Operand} (i : Nat) {b n : Nat} {l : List Int} {e : TypeId} (hz : aggsz P tx = some (true, n)) (hx : ev f x = .pointer (some ⟨b, 0, none⟩)) (hi : bs[i]? = some (b, .cells (av kd l).toArray e)) (hl : l.length = n) (hw : Want ops f g) (hd : Nat.blt d N = true)
    (h : JL q P N ds B H ops Q rest (upd f d (.agg (av kd l).toArray)) bs gs) : JL q P N ds B H ops Q (⟨some d, .load tx x, t, p, af, g⟩ :: rest) f bs gs :=
  JL.loadOwn i hz hx hi (loadw_arr hl) hw hd h
theorem JL.loadEl {kd : IntKind} {tx : TypeId} {x : Operand} (i : Nat) {b : Nat} {j y : Int} {l : List Int} {e : TypeId} (hz : aggsz P tx = some (false, 1)) (hx : ev f x = .pointer (some ⟨b, j.toNat, none⟩)) (hi : bs[i]? = some (b, .cells (av kd l).toArray e)) (hy : geti l j = some y) (hw : Want ops f g) (hd : Nat.blt d N = true)
    (h : JL q P N ds B H ops Q rest (upd f d (.int kd y)) bs gs) : JL q P N ds B H ops Q (⟨some d, .load tx x, t, p, af, g⟩ :: rest) f bs gs :=
  JL.loadAt i hz hx hi (av_get hy) hw hd h
theorem JL.storeEl {kd : IntKind} {tx e : TypeId} {x y : Operand} (i : Nat) {b : Nat} {j u v : Int} {l : List Int} (hz : aggsz P tx = some (false, 1)) (hx : ev f x = .pointer (some ⟨b, j.toNat, none⟩)) (hv : ev f y = .int kd v) (hi : bs[i]? = some (b, .cells (av kd l).toArray e)) (hy : geti l j = some u) (hw : Want ops f g)
    (h : JL .plain P N ds B H ops Q rest f (bs.set i (b, .cells (av kd (setx l j v)).toArray e)) gs) : JL .plain P N ds B H ops Q (⟨none, .store tx x y, t, p, af, g⟩ :: rest) f bs gs :=
  JL.storeAt i hz hx hv ⟨rfl, rfl⟩ hi (av_lt hy) av_set hw h
theorem JL.storeArr {kd : IntKind} {tx e : TypeId} {x y : Operand} (i : Nat) {b n : Nat} {l l' : List Int} (hz : aggsz P tx = some (true, n)) (hx : ev f x = .pointer (some ⟨b, 0, none⟩)) (hv : ev f y = .agg (av kd l').toArray) (hi : bs[i]? = some (b, .cells (av kd l).toArray e)) (hl : l.length = n) (hl' : l'.length = n) (hw : Want ops f g)
    (h : JL .plain P N ds B H ops Q rest f (bs.set i (b, .cells (av kd l').toArray e)) gs) : JL .plain P N ds B H ops Q (⟨none, .store tx x y, t, p, af, g⟩ :: rest) f bs gs := by
  refine JL.storeOwn i (cs := av kd l') (l := av kd l) hz hx (by rw [hv]; simp [vcells]) (by simpa [av] using hl') av_one hi (Nat.ble_eq_true_of_le (by simp [av, hl])) hw ?_
  rw [putC_all (by simp [av, hl, hl'])]
  exact h
def XB (P : Program) (k : Nat) (vs : List Value) (H : Hp) (Res : Hp → Value → List (Nat × Obj) → Prop) : Prop :=
  ∀ w, HLe H w → Calls P k vs.toArray w fun en w' => ∃ H' v bs', en = .returned v ∧ St ⟨w, H⟩ H' bs' [] w' ∧ Res H' v bs'
abbrev RetB (B : Bs) (Res : Hp → Value → List (Nat × Obj) → Prop) : Ending → World → Prop := fun en w' => ∃ H' v bs', en = .returned v ∧ St B H' bs' [] w' ∧ Res H' v bs'
theorem XB.of {k N : Nat} {fn : Func} {c : Code} {vs : List Value} {H : Hp} {Res : Hp → Value → List (Nat × Obj) → Prop} (hf : P.funcs[k]? = some fn) (hN : fn.ntmps = N) (hb : fn.body = some c) (hn : Nat.ble vs.length N = true)
    (h : ∀ w, JC P none N [] ⟨w, H⟩ H c (bodyPost P fn (RetB ⟨w, H⟩ Res)) (frame0 vs) [] []) : XB P k vs H Res := fun w hH => by
  subst hN
  have hn := Nat.le_of_ble_eq_true hn
  exact (callsIn_wide (n := 0)).1 (callsIn_of_wp hf hb trivial (h w (noOut_body (fun w' hq => by obtain ⟨_, _, _, h, _⟩ := hq; cases h) (fun c w' hq => by obtain ⟨_, _, _, h, _⟩ := hq; cases h)) _ w (fr_start hn) (St.start hH)))
theorem JQ.outB {fn : Func} {rs : List ResultVar} {vs : List Value} {Res : Hp → Value → List (Nat × Obj) → Prop} (hr : fn.results = rs.toArray) (h : RV P f bs rs vs) (hres : Res H (resw vs) bs) : JQ N [] B H .ret (bodyPost P fn (RetB B Res)) f bs gs := fun _ a w ha hs =>
  ⟨ha.defers, _, h.results hr ha hs, H, _, bs, rfl, hs.sub (List.Sublist.refl _) (List.nil_sublist _), hres⟩
theorem St.gainsB {w w' : World} (hs : St B H bs gs w) {H' : Hp} {bs' : List (Nat × Obj)} (hc : St ⟨w, H⟩ H' bs' [] w') : St B H' (bs' ++ bs) gs w' := by
  have k := hs.grow hc.below hc.hle hc.ext.1 hc.ext.2
  have hsz := hs.below.size
  refine ⟨k.below, k.hle, k.ext, fun x hx => ?_, List.pairwise_append.2 ⟨hc.nodup, k.nodup, fun x hx y hy e => ?_⟩, k.row, fun r hr b hb => ⟨(k.rfresh r hr b hb).1, fun x hx => ?_⟩, k.rdisj⟩
  · rcases List.mem_append.1 hx with hx | hx
    · obtain ⟨h1, h2, h3⟩ := hc.own x hx
      simp only at h2
      exact ⟨h1, by omega, h3⟩
    · exact k.own x hx
  · have h1 := (hc.own x hx).2.1
    have h2 := hs.own_lt hy
    simp only at h1
    omega
  · rcases List.mem_append.1 hx with hx | hx
    · have h1 := (hc.own x hx).2.1
      have h2 := ((hs.row r hr).lt b hb).2
      simp only at h1
      omega
    · exact (k.rfresh r hr b hb).2 x hx
theorem JL.callXB {kf : Nat} {l : List Operand} {tt : Array TypeId} {vs : List Value} {Res : Hp → Value → List (Nat × Obj) → Prop} (hc : XB P kf vs H Res) (hvs : l.map (ev f) = vs) (he : Ent P kf) (hw : Want ops f g) (hd : Nat.blt d N = true)
    (h : ∀ H' v bs', HSub H H' → Res H' v bs' → JL .plain P N ds B H' ops Q rest (upd f d v) (bs' ++ bs) gs) : JL .plain P N ds B H ops Q (⟨some d, .call ⟨.value (.func kf), l.toArray, tt⟩, t, p, af, g⟩ :: rest) f bs gs :=
  .step hw fun a w ha hs => by
    unfold Oper.wp
    rw [ha.eval, run_callF hvs he, Oper.upon_enter]
    refine (hc w hs.hle).mono fun e w' => ?_
    rintro ⟨H', v, bs', rfl, hst, hres⟩
    exact h H' v bs' hst.ext.1 hres _ _ (ha.put hd v) (hs.gainsB hst)
theorem MD.ins {n : Nat} {ek : List Int → Value} {b : Nat} {es : Array MapEntry} {ck : Nat} {m : Mp} (h : MR n ek m es ck) : MD n ek (ins H b (.map es ck)) (.map (some b)) m := .inr ⟨b, es, ck, rfl, by rw [ins_at, if_pos rfl], h⟩
theorem MD.get {n : Nat} {ek : List Int → Value} {v : Value} {m : Mp} (h : MD n ek H v m) (hne : m ≠ []) : ∃ b es ck, v = .map (some b) ∧ H b = some (.map es ck) ∧ MR n ek m es ck := h.resolve_left fun e => hne e.2
theorem JC.freezeM {n : Nat} {ek : List Int → Value} {m : Mp} {c : Code} (i : Nat) {b : Nat} {es : Array MapEntry} {ck : Nat} (hi : bs[i]? = some (b, .map es ck)) (hm : MR n ek m es ck) (k : ∀ H', HSub H H' → MD n ek H' (.map (some b)) m → JC P ro N ds B H' c Q f (bs.eraseIdx i) gs) : JC P ro N ds B H c Q f bs gs := JC.freeze i hi fun hs => k _ hs (MD.ins hm)
theorem JL.freezeM {n : Nat} {ek : List Int → Value} {m : Mp} (i : Nat) {b : Nat} {es : Array MapEntry} {ck : Nat} (hi : bs[i]? = some (b, .map es ck)) (hm : MR n ek m es ck) (k : ∀ H', HSub H H' → MD n ek H' (.map (some b)) m → JL .plain P N ds B H' ops Q rest f (bs.eraseIdx i) gs) : JL .plain P N ds B H ops Q rest f bs gs := JL.freeze i hi fun hs => k _ hs (MD.ins hm)
theorem JQ.freezeM {n : Nat} {ek : List Int → Value} {m : Mp} {e : Exit} (i : Nat) {b : Nat} {es : Array MapEntry} {ck : Nat} (hi : bs[i]? = some (b, .map es ck)) (hm : MR n ek m es ck) (k : ∀ H', HSub H H' → MD n ek H' (.map (some b)) m → JQ N ds B H' e Q f (bs.eraseIdx i) gs) : JQ N ds B H e Q f bs gs := JQ.freeze i hi fun hs => k _ hs (MD.ins hm)
def neM (m : Mp) : Option Unit := if m.isEmpty = true then none else some ()
theorem neM_some {m : Mp} {u : Unit} (h : neM m = some u) : m ≠ [] := by
  unfold neM at h
  split at h
  · cases h
  · rename_i hh; intro e; subst e; exact hh rfl
def hol (H : Hp) (K : Nat) (I : Obj → Prop) : Hp := ⟨H.fz, some (K, I)⟩
theorem Cells.hol {K : Nat} {I : Obj → Prop} {b o : Nat} {l : List Value} (h : Cells H b o l) : Cells (hol H K I) b o l := h
theorem SL.fz {α : Type} {H H' : Hp} {sz : Nat} {R : Rl α} (hR : ∀ cs x, R H cs x → R H' cs x) (hf : H'.fz = H.fz) {v : Value} {l : List α} (h : SL H sz R v l) : SL H' sz R v l := by
  obtain ⟨a, c, h1, h2, h3⟩ := h
  refine ⟨a, c, h1, h2, h3.imp id ?_⟩
  rintro ⟨b, o, h4, h5⟩
  refine ⟨b, o, h4, fun i x hi => ?_⟩
  obtain ⟨cs, ⟨c0, e, fz, k0, k1⟩, k2, k3⟩ := h5 i x hi
  exact ⟨cs, ⟨c0, e, fz, by rw [hf]; exact k0, k1⟩, k2, hR _ _ k3⟩
theorem St.lendHole {w : World} (hs : St B H bs gs w) {i K : Nat} {o : Obj} {I : Obj → Prop} (hi : bs[i]? = some (K, o)) (hI : I o) : HLe (hol H K I) w := by
  have h := hs.own _ (List.mem_of_getElem? hi)
  refine ⟨hs.hle.le, fun K' I' e => ?_⟩
  cases e
  exact ⟨h.2.2, o, h.1, hI⟩
theorem St.backHole {w w' : World} (hs : St B H bs gs w) {i K : Nat} {o : Obj} {I : Obj → Prop} (hi : bs[i]? = some (K, o)) (hk : Kept (hol H K I) w w') : St B H (bs.eraseIdx i) gs w' := by
  have hK := hs.own _ (List.mem_of_getElem? hi)
  have hsub : (bs.eraseIdx i).Sublist bs := List.eraseIdx_sublist ..
  have hne : ∀ q ∈ bs.eraseIdx i, q.1 ≠ K := fun q hq e => by
    obtain ⟨j, hij, hj⟩ := List.mem_eraseIdx_iff_getElem?.1 hq
    have hpw := List.pairwise_iff_getElem.1 hs.nodup
    obtain ⟨hil, hi2⟩ := List.getElem?_eq_some_iff.1 hi
    obtain ⟨hjl, hj2⟩ := List.getElem?_eq_some_iff.1 hj
    rcases Nat.lt_or_gt_of_ne hij with hlt | hgt
    · exact hpw j i hjl hil hlt (by rw [hj2, hi2]; exact e)
    · exact hpw i j hil hjl hgt (by rw [hj2, hi2]; exact e.symm)
  have blk : ∀ k, k < w.heap.size → k ≠ K → w'.heap[k]? = w.heap[k]? := fun k hk' hne => hk.below.block k hk' (fun I' e => by cases e; exact hne rfl)
  have hKB := hK.2.1
  simp only at hKB
  refine ⟨?_, ⟨fun b ob hb => ?_, fun K' I' e => ?_⟩, hs.ext, fun q hq => ?_, hs.nodup.sublist hsub, fun r hr => ?_, fun r hr b hb => ⟨(hs.rfresh r hr b hb).1, fun q hq => (hs.rfresh r hr b hb).2 q (hsub.subset hq)⟩, hs.rdisj⟩
  · exact hs.below.trans ⟨hk.below.os, hk.below.tape, hk.below.output, hk.below.size, fun k hk' _ => blk k (by have := hs.below.size; omega) (by omega), hs.below.lt⟩
  · rw [blk b (hs.hle.lt hb) (fun e => by subst e; have := hK.2.2; simp only at this; rw [this] at hb; cases hb)]; exact hs.hle.le b ob hb
  · obtain ⟨k1, o1, k2, k3⟩ := hs.hle.ok K' I' e
    exact ⟨k1, o1, by rw [blk K' (hs.hle.holeLt e) (fun e2 => hs.notHole hK.2.1 I' (by rw [e, e2]))]; exact k2, k3⟩
  · rw [blk q.1 (hs.own_lt (hsub.subset hq)) (hne q hq)]; exact hs.own q (hsub.subset hq)
  · exact ownsRow_at (hs.row r hr) fun b hb => blk b ((hs.row r hr).lt b hb).2 (fun e => by subst e; exact (hs.rfresh r hr _ hb).2 _ (List.mem_of_getElem? hi) rfl)
theorem JL.callHole {kf : Nat} {l : List Operand} {tt : Array TypeId} {vs : List Value} {v : Value} (i : Nat) {K : Nat} {o : Obj} (I : Obj → Prop) (hi : bs[i]? = some (K, o)) (hI : I o) (hc : SC P kf vs v (hol H K I)) (hvs : l.map (ev f) = vs) (he : Ent P kf) (hw : Want ops f g) (hd : Nat.blt d N = true)
    (h : JL .plain P N ds B H ops Q rest (upd f d v) (bs.eraseIdx i) gs) : JL .plain P N ds B H ops Q (⟨some d, .call ⟨.value (.func kf), l.toArray, tt⟩, t, p, af, g⟩ :: rest) f bs gs :=
  .step hw fun a w ha hs => by
    unfold Oper.wp
    rw [ha.eval, run_callF hvs he, Oper.upon_enter]
    refine (hc w (hs.lendHole hi hI)).mono fun e w' => ?_
    rintro ⟨rfl, hk⟩
    exact h _ _ (ha.put hd v) (hs.backHole hi hk)
end
end Go.Dec
end
section
namespace Go.Dec
open Go Go.RowKit
def FSub (H H' : Hp) : Prop := ∀ b o, H b = some o → H' b = some o
theorem Cells.fsub {H H' : Hp} (h : FSub H H') {b o : Nat} {l : List Value} (hc : Cells H b o l) : Cells H' b o l := by
  obtain ⟨c, e, fz, h1, h2⟩ := hc; exact ⟨c, e, fz, h _ _ h1, h2⟩
def Fzd {α : Type} (R : Rl α) : Prop := ∀ H H', FSub H H' → ∀ cs x, R H cs x → R H' cs x
theorem SL.fsub {α : Type} {H H' : Hp} {sz : Nat} {R : Rl α} (hR : Fzd R) (h : FSub H H') {v : Value} {l : List α} (hs : SL H sz R v l) : SL H' sz R v l := by
  obtain ⟨a, c, h1, h2, h3⟩ := hs
  refine ⟨a, c, h1, h2, h3.imp id ?_⟩
  rintro ⟨b, o, h4, h5⟩
  exact ⟨b, o, h4, fun i x hi => let ⟨cs, k1, k2, k3⟩ := h5 i x hi; ⟨cs, k1.fsub h, k2, hR _ _ h _ _ k3⟩⟩
theorem RInt.fz : Fzd RInt := fun _ _ _ _ _ h => h
theorem RBool.fz : Fzd RBool := fun _ _ _ _ _ h => h
theorem RSl.fz {α : Type} {sz : Nat} {R : Rl α} (hR : Fzd R) : Fzd (RSl sz R) := by
  rintro H H' h cs x ⟨v, h1, h2⟩
  exact ⟨v, h1, SL.fsub hR h h2⟩
/-- all that lies in a world but one block -/
def allBut (w : World) (K : Nat) : Hp := ⟨fun b => if b = K then none else w.heap[b]?, none⟩
theorem allBut_at (w : World) (K b : Nat) : (allBut w K) b = if b = K then none else w.heap[b]? := rfl
/-- what such a body answers: the value, and the map in its block -/
def RetK (B : Bs) (H : Hp) (K n : Nat) (ek : List Int → Value) (v : Value) (m : Mp) : Ending → World → Prop := fun e w' =>
  e = .returned v ∧ ∃ H' es ck bs gs, HSub H H' ∧ St B H' bs gs w' ∧ (K, Obj.map es ck) ∈ bs ∧ MR n ek m es ck
section
variable {P : Program} {N : Nat} {B : Bs} {H : Hp} {f : Nat → Value} {bs : List (Nat × Obj)} {gs : List GS}
theorem JQ.outK {H0 : Hp} {fn : Func} {rs : List ResultVar} {vs : List Value} {v : Value} {K n : Nat} {ek : List Int → Value} {m : Mp} {es : Array MapEntry} {ck : Nat} (i : Nat) (hr : fn.results = rs.toArray) (h : RV P f bs rs vs) (hv : resw vs = v) (hs0 : HSub H0 H) (hi : bs[i]? = some (K, .map es ck)) (hm : MR n ek m es ck) : JQ N [] B H .ret (bodyPost P fn (RetK B H0 K n ek v m)) f bs gs := fun _ a w ha hs =>
  ⟨ha.defers, _, h.results hr ha hs, by rw [hv], H, es, ck, bs, gs, hs0, hs, List.mem_of_getElem? hi, hm⟩
theorem noOut_K {fn : Func} {K n : Nat} {ek : List Int → Value} {v : Value} {m : Mp} : NoOut (bodyPost P fn (RetK B H K n ek v m)) := noOut_body (fun w' hq => by obtain ⟨h, _⟩ := hq; cases h) (fun c w' hq => by obtain ⟨h, _⟩ := hq; cases h)
theorem SC.ofHole {k N : Nat} {fn : Func} {c : Code} {vs : List Value} {v : Value} {H : Hp} {K n : Nat} {ek : List Int → Value} {J : Mp → Prop} (hf : P.funcs[k]? = some fn) (hN : fn.ntmps = N) (hb : fn.body = some c) (hn : Nat.ble vs.length N = true)
    (hole : H.hole = some (K, fun o => ∃ es ck m, o = .map es ck ∧ MR n ek m es ck ∧ J m))
    (h : ∀ B H1 es ck m, FSub H H1 → MR n ek m es ck → J m → ∃ m', J m' ∧ JC P none N [] B H1 c (bodyPost P fn (RetK B H1 K n ek v m')) (frame0 vs) [(K, .map es ck)] []) : SC P k vs v H := fun w hH => by
  subst hN
  have hn := Nat.le_of_ble_eq_true hn
  obtain ⟨hK, o, ho, es, ck, m, rfl, hm, hJ⟩ := hH.ok K _ hole
  have hKlt : K < w.heap.size := (Array.getElem?_eq_some_iff.1 ho).1
  have hsub : FSub H (allBut w K) := fun b o hb => by
    rw [allBut_at, if_neg (fun e => by subst e; rw [hK] at hb; cases hb)]
    exact hH.le b o hb
  obtain ⟨m', hJ', hc⟩ := h ⟨{ w with heap := #[] }, allBut w K⟩ (allBut w K) es ck m hsub hm hJ
  have hst : St ⟨{ w with heap := #[] }, allBut w K⟩ (allBut w K) [(K, .map es ck)] [] w :=
    ⟨⟨rfl, rfl, rfl, by simp, fun k hk => by simp at hk, fun _ _ e => by cases e⟩, ⟨fun b o hb => by
      rw [allBut_at] at hb
      split at hb
      · cases hb
      · exact hb, fun _ _ e => by cases e⟩, ⟨HSub.refl _, fun _ _ => rfl⟩, fun p hp => by
      rw [List.mem_singleton] at hp
      subst hp
      exact ⟨ho, by simp, by rw [allBut_at, if_pos rfl]⟩, by simp, by simp, by simp, .nil⟩
  refine ((callsIn_wide (n := 0)).1 (callsIn_of_wp hf hb trivial (hc noOut_K _ w (fr_start hn) hst))).mono ?_
  rintro e w' ⟨rfl, H', es', ck', bs, gs, hs1, hst', hmem, hm'⟩
  have hown := (hst'.own _ hmem).1
  have hblk : ∀ k, k < w.heap.size → k ≠ K → w'.heap[k]? = w.heap[k]? := fun k hk hne => by
    have h1 : (allBut w K) k = some (w.heap[k]) := by rw [allBut_at, if_neg hne]; exact Array.getElem?_eq_getElem hk
    rw [hst'.hle.le _ _ (hs1.le _ _ h1)]
    exact (Array.getElem?_eq_getElem hk).symm
  have hsz : w.heap.size ≤ w'.heap.size := by
    rcases Nat.lt_or_ge w'.heap.size w.heap.size with hlt | hge
    · exfalso
      by_cases e : w.heap.size - 1 = K
      · have hb2 := (Array.getElem?_eq_some_iff.1 hown).1
        simp only at hb2
        omega
      · have h2 := hblk (w.heap.size - 1) (by omega) e
        rw [Array.getElem?_eq_none (by omega), Array.getElem?_eq_getElem (by omega)] at h2
        cases h2
    · exact hge
  refine ⟨rfl, ⟨hst'.below.os, hst'.below.tape, hst'.below.output, hsz, fun k hk hne => hblk k hk (fun e => by subst e; exact hne _ hole), fun K' I' e => by rw [hole] at e; cases e; exact hKlt⟩, fun K' I' e => ?_⟩
  rw [hole] at e
  cases e
  exact ⟨hK, _, hown, es', ck', m', rfl, hm', hJ'⟩
end
theorem CH.take {α : Type} {H : Hp} {sz : Nat} {R : Rl α} {xs : List Value} {l : List α} (h : CH H sz R xs l) {k : Nat} (hk : k ≤ l.length) : CH H sz R (xs.take (k * sz)) (l.take k) := by
  have hle : k * sz ≤ l.length * sz := Nat.mul_le_mul_right _ hk
  refine ⟨by rw [List.length_take, List.length_take, h.1, Nat.min_eq_left hle, Nat.min_eq_left hk], fun i x hi => ?_⟩
  rw [List.getElem?_take] at hi
  split at hi
  · rename_i hik
    obtain ⟨cs, h1, h2, h3⟩ := h.2 i x hi
    refine ⟨cs, h1, h2, fun j v hv => ?_⟩
    have hj : j < cs.length := (List.getElem?_eq_some_iff.1 hv).1
    have : (i + 1) * sz ≤ k * sz := Nat.mul_le_mul_right _ (by omega)
    rw [Nat.succ_mul] at this
    rw [List.getElem?_take, if_pos (by omega)]
    exact h3 j v hv
  · cases hi
section
variable {P : Program} {N : Nat} {ds : List Deferred} {B : Bs} {H : Hp} {ops : List Oper} {Q : Exit → Act → World → Prop} {rest : List Oper} {f : Nat → Value} {bs : List (Nat × Obj)} {gs : List GS}
variable {d : Nat} {t : TypeId} {p : String} {af : Array Edge} {g : Option (Nat × Bool)}
end
end Go.Dec
end
section
namespace Go.Proofs.Yteihdclpiekmaaa
open Go Go.RowKit Go.Dec
set_option linter.unusedVariables false
structure gusts_blown where
 lift : Int
 ribs : List Int
 shares : List Int
structure Gust where
 Force : Int
 At : Int
structure Span where
 Low : Int
 High : Int
structure Frac where
 Num : Int
 Den : Int
structure Section where
 Arm : Span
 Stretch : Span
 Base : Int
 Gear : Frac
structure Frame where
 Sections : List Section
 Low : Int
 High : Int
 Ease : Frac
 Rod : Int
 Case : Int
structure Canopy where
 Frame : Frame
 Ribs : List Span
 Shares : List Int
structure Blow where
 At : Int
 Force : Span
structure Meter where
 Limit : Int
 Count : Int
structure Run where
 Canopy : Canopy
 Blows : List Blow
 Meters : List Meter
 Wrong : Int
structure frames_sides where
 arm : Int
 stretch : Int
structure counts_test where
 Run : Run
 asked : Blow → Int → Option Bool
structure top_Finer where
 ArmLow : Int
 ArmHigh : Int
 RodLow : Int
 RodHigh : Int
def FN_168 (H : Hp) (v : Value) (f : Blow → Int → Option Bool) : Prop := ∃ (fk : Nat) (fc : List Value), v = .func (.func fk) #[] fc.toArray ∧ Ent Try.prog fk ∧ ∀ H', HSub H H' → ∀ (a0_ : Blow) (a1_ : Int) (y : Bool), f a0_ a1_ = some y → SC Try.prog fk ([.agg [.int .i64 a0_.At, .int .i64 a0_.Force.Low, .int .i64 a0_.Force.High].toArray, .int .i64 a1_] ++ fc) (.bool y) H'
theorem FN_168.mono {H H' : Hp} (h : HSub H H') {v : Value} {f : Blow → Int → Option Bool} (hf : FN_168 H v f) : FN_168 H' v f := by
 obtain ⟨fk, fc, h1, h2, h3⟩ := hf
 exact ⟨fk, fc, h1, h2, fun H'' hs => h3 H'' (HSub.trans h hs)⟩
theorem FN_168.one {H : Hp} {v : Value} {f : Blow → Int → Option Bool} (hf : FN_168 H v f) : v.oneCell' = true := by
 obtain ⟨fk, fc, rfl, _⟩ := hf; rfl
def R_Gust : Rl Gust := fun _ cs x => cs = [.int .i64 x.Force, .int .i64 x.At]
theorem R_Gust_mono : Mono R_Gust := fun _ _ _ _ _ h => h
def R_Span : Rl Span := fun _ cs x => cs = [.int .i64 x.Low, .int .i64 x.High]
theorem R_Span_mono : Mono R_Span := fun _ _ _ _ _ h => h
theorem R_Span_fz : Fzd R_Span := fun _ _ _ _ _ h => h
theorem R_Span_one : ∀ (H : Hp) (cs : List Value) (x : Span), R_Span H cs x → AllOne cs := by
 rintro H cs x rfl
 exact (one_cons rfl (one_cons rfl one_nil))
def R_Frac : Rl Frac := fun _ cs x => cs = [.int .i64 x.Num, .int .i64 x.Den]
def R_Section : Rl Section := fun _ cs x => cs = [.int .i64 x.Arm.Low, .int .i64 x.Arm.High, .int .i64 x.Stretch.Low, .int .i64 x.Stretch.High, .int .i64 x.Base, .int .i64 x.Gear.Num, .int .i64 x.Gear.Den]
theorem R_Section_mono : Mono R_Section := fun _ _ _ _ _ h => h
theorem R_Section_fz : Fzd R_Section := fun _ _ _ _ _ h => h
theorem R_Section_one : ∀ (H : Hp) (cs : List Value) (x : Section), R_Section H cs x → AllOne cs := by
 rintro H cs x rfl
 exact (one_cons rfl (one_cons rfl (one_cons rfl (one_cons rfl (one_cons rfl (one_cons rfl (one_cons rfl one_nil)))))))
def R_Frame : Rl Frame := fun H cs x => ∃ v0 : Value, cs = [v0, .int .i64 x.Low, .int .i64 x.High, .int .i64 x.Ease.Num, .int .i64 x.Ease.Den, .int .i64 x.Rod, .int .i64 x.Case] ∧ SL H 7 R_Section v0 x.Sections
def R_Canopy : Rl Canopy := fun H cs x => ∃ v0 v7 v8 : Value, cs = [v0, .int .i64 x.Frame.Low, .int .i64 x.Frame.High, .int .i64 x.Frame.Ease.Num, .int .i64 x.Frame.Ease.Den, .int .i64 x.Frame.Rod, .int .i64 x.Frame.Case, v7, v8] ∧ SL H 7 R_Section v0 x.Frame.Sections ∧ SL H 2 R_Span v7 x.Ribs ∧ SL H 1 RInt v8 x.Shares
def R_Blow : Rl Blow := fun _ cs x => cs = [.int .i64 x.At, .int .i64 x.Force.Low, .int .i64 x.Force.High]
theorem R_Blow_mono : Mono R_Blow := fun _ _ _ _ _ h => h
theorem R_Blow_fz : Fzd R_Blow := fun _ _ _ _ _ h => h
theorem R_Blow_one : ∀ (H : Hp) (cs : List Value) (x : Blow), R_Blow H cs x → AllOne cs := by
 rintro H cs x rfl
 exact (one_cons rfl (one_cons rfl (one_cons rfl one_nil)))
def R_Meter : Rl Meter := fun _ cs x => cs = [.int .i64 x.Limit, .int .i64 x.Count]
theorem R_Meter_mono : Mono R_Meter := fun _ _ _ _ _ h => h
theorem R_Meter_fz : Fzd R_Meter := fun _ _ _ _ _ h => h
theorem R_Meter_one : ∀ (H : Hp) (cs : List Value) (x : Meter), R_Meter H cs x → AllOne cs := by
 rintro H cs x rfl
 exact (one_cons rfl (one_cons rfl one_nil))
def R_Run : Rl Run := fun H cs x => ∃ v0 v7 v8 v9 v10 : Value, cs = [v0, .int .i64 x.Canopy.Frame.Low, .int .i64 x.Canopy.Frame.High, .int .i64 x.Canopy.Frame.Ease.Num, .int .i64 x.Canopy.Frame.Ease.Den, .int .i64 x.Canopy.Frame.Rod, .int .i64 x.Canopy.Frame.Case, v7, v8, v9, v10, .int .i64 x.Wrong] ∧ SL H 7 R_Section v0 x.Canopy.Frame.Sections ∧ SL H 2 R_Span v7 x.Canopy.Ribs ∧ SL H 1 RInt v8 x.Canopy.Shares ∧ SL H 3 R_Blow v9 x.Blows ∧ SL H 2 R_Meter v10 x.Meters
def R_counts_test : Rl counts_test := fun H cs x => ∃ v0 v7 v8 v9 v10 v12 : Value, cs = [v0, .int .i64 x.Run.Canopy.Frame.Low, .int .i64 x.Run.Canopy.Frame.High, .int .i64 x.Run.Canopy.Frame.Ease.Num, .int .i64 x.Run.Canopy.Frame.Ease.Den, .int .i64 x.Run.Canopy.Frame.Rod, .int .i64 x.Run.Canopy.Frame.Case, v7, v8, v9, v10, .int .i64 x.Run.Wrong, v12] ∧ SL H 7 R_Section v0 x.Run.Canopy.Frame.Sections ∧ SL H 2 R_Span v7 x.Run.Canopy.Ribs ∧ SL H 1 RInt v8 x.Run.Canopy.Shares ∧ SL H 3 R_Blow v9 x.Run.Blows ∧ SL H 2 R_Meter v10 x.Run.Meters ∧ FN_168 H v12 x.asked
def R_top_Finer : Rl top_Finer := fun _ cs x => cs = [.int .i64 x.ArmLow, .int .i64 x.ArmHigh, .int .i64 x.RodLow, .int .i64 x.RodHigh]
theorem fo_156_2 : fieldOff Try.prog 156 2 = some 2 := by kernel_rfl
theorem az_23 : aggsz Try.prog 23 = some (false, 1) := by kernel_rfl
theorem ul_23 : Try.prog.underlying 23 = some (.slice 3) := by kernel_rfl
theorem fo_86_0 : fieldOff Try.prog 86 0 = some 0 := by kernel_rfl
theorem az_3 : aggsz Try.prog 3 = some (false, 1) := by kernel_rfl
theorem fo_156_0 : fieldOff Try.prog 156 0 = some 0 := by kernel_rfl
theorem fo_86_1 : fieldOff Try.prog 86 1 = some 1 := by kernel_rfl
theorem sl_23 : slT Try.prog 23 = some (3, 1) := by kernel_rfl
theorem mo_ : Try.prog.follows .mixedOrders = true := by kernel_rfl
theorem az_156 : aggsz Try.prog 156 = some (true, 3) := by kernel_rfl
theorem az_86 : aggsz Try.prog 86 = some (true, 2) := by kernel_rfl
theorem en_100 : Ent Try.prog 100 := enters_of Try.func100 (by kernel_rfl) rfl
theorem fo_156_1 : fieldOff Try.prog 156 1 = some 1 := by kernel_rfl
theorem ar_254 : arrT Try.prog 254 = some (3, 2) := by kernel_rfl
theorem fo_76_0 : fieldOff Try.prog 76 0 = some 0 := by kernel_rfl
theorem fo_53_0 : fieldOff Try.prog 53 0 = some 0 := by kernel_rfl
theorem az_49 : aggsz Try.prog 49 = some (false, 1) := by kernel_rfl
theorem ul_49 : Try.prog.underlying 49 = some (.slice 68) := by kernel_rfl
theorem fo_76_1 : fieldOff Try.prog 76 1 = some 7 := by kernel_rfl
theorem az_24 : aggsz Try.prog 24 = some (false, 1) := by kernel_rfl
theorem ul_24 : Try.prog.underlying 24 = some (.slice 39) := by kernel_rfl
theorem fo_76_2 : fieldOff Try.prog 76 2 = some 8 := by kernel_rfl
theorem fo_39_0 : fieldOff Try.prog 39 0 = some 0 := by kernel_rfl
theorem fo_39_1 : fieldOff Try.prog 39 1 = some 1 := by kernel_rfl
theorem en_66 : Ent Try.prog 66 := enters_of Try.func66 (by kernel_rfl) rfl
theorem fo_51_1 : fieldOff Try.prog 51 1 = some 1 := by kernel_rfl
theorem fo_51_0 : fieldOff Try.prog 51 0 = some 0 := by kernel_rfl
theorem sl_49 : slT Try.prog 49 = some (68, 7) := by kernel_rfl
theorem az_68 : aggsz Try.prog 68 = some (true, 7) := by kernel_rfl
theorem ze_68 : zeroL Try.prog 68 = some [.int .i64 0, .int .i64 0, .int .i64 0, .int .i64 0, .int .i64 0, .int .i64 0, .int .i64 0] := by kernel_rfl
theorem fo_68_0 : fieldOff Try.prog 68 0 = some 0 := by kernel_rfl
theorem az_39 : aggsz Try.prog 39 = some (true, 2) := by kernel_rfl
theorem en_65 : Ent Try.prog 65 := enters_of Try.func65 (by kernel_rfl) rfl
theorem fo_68_1 : fieldOff Try.prog 68 1 = some 2 := by kernel_rfl
theorem fo_68_2 : fieldOff Try.prog 68 2 = some 4 := by kernel_rfl
theorem fo_68_3 : fieldOff Try.prog 68 3 = some 5 := by kernel_rfl
theorem az_51 : aggsz Try.prog 51 = some (true, 2) := by kernel_rfl
theorem en_67 : Ent Try.prog 67 := enters_of Try.func67 (by kernel_rfl) rfl
theorem fo_53_1 : fieldOff Try.prog 53 1 = some 1 := by kernel_rfl
theorem fo_53_2 : fieldOff Try.prog 53 2 = some 2 := by kernel_rfl
theorem fo_53_3 : fieldOff Try.prog 53 3 = some 3 := by kernel_rfl
theorem fo_53_4 : fieldOff Try.prog 53 4 = some 5 := by kernel_rfl
theorem fo_53_5 : fieldOff Try.prog 53 5 = some 6 := by kernel_rfl
theorem az_53 : aggsz Try.prog 53 = some (true, 7) := by kernel_rfl
theorem en_21 : Ent Try.prog 21 := enters_of Try.func21 (by kernel_rfl) rfl
theorem en_82 : Ent Try.prog 82 := enters_of Try.func82 (by kernel_rfl) rfl
theorem sl_24 : slT Try.prog 24 = some (39, 2) := by kernel_rfl
theorem fo_90_0 : fieldOff Try.prog 90 0 = some 0 := by kernel_rfl
theorem az_76 : aggsz Try.prog 76 = some (true, 9) := by kernel_rfl
theorem en_33 : Ent Try.prog 33 := enters_of Try.func33 (by kernel_rfl) rfl
theorem fo_90_1 : fieldOff Try.prog 90 1 = some 9 := by kernel_rfl
theorem az_87 : aggsz Try.prog 87 = some (false, 1) := by kernel_rfl
theorem ul_87 : Try.prog.underlying 87 = some (.slice 98) := by kernel_rfl
theorem fo_90_2 : fieldOff Try.prog 90 2 = some 10 := by kernel_rfl
theorem az_88 : aggsz Try.prog 88 = some (false, 1) := by kernel_rfl
theorem ul_88 : Try.prog.underlying 88 = some (.slice 206) := by kernel_rfl
theorem fo_90_3 : fieldOff Try.prog 90 3 = some 11 := by kernel_rfl
theorem en_146 : Ent Try.prog 146 := enters_of Try.func146 (by kernel_rfl) rfl
theorem sl_87 : slT Try.prog 87 = some (98, 3) := by kernel_rfl
theorem az_98 : aggsz Try.prog 98 = some (true, 3) := by kernel_rfl
theorem ze_98 : zeroL Try.prog 98 = some [.int .i64 0, .int .i64 0, .int .i64 0] := by kernel_rfl
theorem fo_98_0 : fieldOff Try.prog 98 0 = some 0 := by kernel_rfl
theorem en_34 : Ent Try.prog 34 := enters_of Try.func34 (by kernel_rfl) rfl
theorem fo_98_1 : fieldOff Try.prog 98 1 = some 1 := by kernel_rfl
theorem sl_88 : slT Try.prog 88 = some (206, 2) := by kernel_rfl
theorem fo_206_0 : fieldOff Try.prog 206 0 = some 0 := by kernel_rfl
theorem fo_206_1 : fieldOff Try.prog 206 1 = some 1 := by kernel_rfl
theorem en_32 : Ent Try.prog 32 := enters_of Try.func32 (by kernel_rfl) rfl
theorem az_90 : aggsz Try.prog 90 = some (true, 12) := by kernel_rfl
theorem en_93 : Ent Try.prog 93 := enters_of Try.func93 (by kernel_rfl) rfl
theorem en_92 : Ent Try.prog 92 := enters_of Try.func92 (by kernel_rfl) rfl
theorem ze_39 : zeroL Try.prog 39 = some [.int .i64 0, .int .i64 0] := by kernel_rfl
theorem ap_23 : apT Try.prog 23 = some (3, 1, 8) := by kernel_rfl
theorem en_182 : Ent Try.prog 182 := enters_of Try.func182 (by kernel_rfl) rfl
theorem ap_115 : apT Try.prog 115 = some (23, 1, 24) := by kernel_rfl
theorem en_238 : Ent Try.prog 238 := enters_of Try.func238 (by kernel_rfl) rfl
theorem az_206 : aggsz Try.prog 206 = some (true, 2) := by kernel_rfl
theorem en_217 : Ent Try.prog 217 := enters_of Try.func217 (by kernel_rfl) rfl
theorem ul_115 : Try.prog.underlying 115 = some (.slice 23) := by kernel_rfl
theorem sl_115 : slT Try.prog 115 = some (23, 1) := by kernel_rfl
theorem en_183 : Ent Try.prog 183 := enters_of Try.func183 (by kernel_rfl) rfl
theorem en_147 : Ent Try.prog 147 := enters_of Try.func147 (by kernel_rfl) rfl
theorem en_94 : Ent Try.prog 94 := enters_of Try.func94 (by kernel_rfl) rfl
theorem ze_53 : zeroL Try.prog 53 = some [.slice none 0 0, .int .i64 0, .int .i64 0, .int .i64 0, .int .i64 0, .int .i64 0, .int .i64 0] := by kernel_rfl
theorem ze_76 : zeroL Try.prog 76 = some [.slice none 0 0, .int .i64 0, .int .i64 0, .int .i64 0, .int .i64 0, .int .i64 0, .int .i64 0, .slice none 0 0, .slice none 0 0] := by kernel_rfl
theorem en_69 : Ent Try.prog 69 := enters_of Try.func69 (by kernel_rfl) rfl
theorem en_137 : Ent Try.prog 137 := enters_of Try.func137 (by kernel_rfl) rfl
theorem en_124 : Ent Try.prog 124 := enters_of Try.func124 (by kernel_rfl) rfl
theorem en_128 : Ent Try.prog 128 := enters_of Try.func128 (by kernel_rfl) rfl
theorem en_129 : Ent Try.prog 129 := enters_of Try.func129 (by kernel_rfl) rfl
theorem en_175 : Ent Try.prog 175 := enters_of Try.func175 (by kernel_rfl) rfl
theorem en_127 : Ent Try.prog 127 := enters_of Try.func127 (by kernel_rfl) rfl
theorem en_130 : Ent Try.prog 130 := enters_of Try.func130 (by kernel_rfl) rfl
theorem en_177 : Ent Try.prog 177 := enters_of Try.func177 (by kernel_rfl) rfl
theorem en_178 : Ent Try.prog 178 := enters_of Try.func178 (by kernel_rfl) rfl
theorem en_79 : Ent Try.prog 79 := enters_of Try.func79 (by kernel_rfl) rfl
theorem en_136 : Ent Try.prog 136 := enters_of Try.func136 (by kernel_rfl) rfl
theorem en_139 : Ent Try.prog 139 := enters_of Try.func139 (by kernel_rfl) rfl
theorem en_138 : Ent Try.prog 138 := enters_of Try.func138 (by kernel_rfl) rfl
theorem en_140 : Ent Try.prog 140 := enters_of Try.func140 (by kernel_rfl) rfl
theorem ze_51 : zeroL Try.prog 51 = some [.int .i64 0, .int .i64 0] := by kernel_rfl
theorem fo_147_0 : fieldOff Try.prog 147 0 = some 0 := by kernel_rfl
theorem fo_147_1 : fieldOff Try.prog 147 1 = some 1 := by kernel_rfl
theorem en_174 : Ent Try.prog 174 := enters_of Try.func174 (by kernel_rfl) rfl
theorem en_126 : Ent Try.prog 126 := enters_of Try.func126 (by kernel_rfl) rfl
theorem en_73 : Ent Try.prog 73 := enters_of Try.func73 (by kernel_rfl) rfl
theorem en_74 : Ent Try.prog 74 := enters_of Try.func74 (by kernel_rfl) rfl
theorem ze_3 : zeroL Try.prog 3 = some [.int .i64 0] := by kernel_rfl
theorem en_75 : Ent Try.prog 75 := enters_of Try.func75 (by kernel_rfl) rfl
theorem ze_147 : zeroL Try.prog 147 = some [.int .i64 0, .int .i64 0] := by kernel_rfl
theorem az_147 : aggsz Try.prog 147 = some (true, 2) := by kernel_rfl
theorem en_76 : Ent Try.prog 76 := enters_of Try.func76 (by kernel_rfl) rfl
theorem en_77 : Ent Try.prog 77 := enters_of Try.func77 (by kernel_rfl) rfl
theorem en_125 : Ent Try.prog 125 := enters_of Try.func125 (by kernel_rfl) rfl
theorem en_78 : Ent Try.prog 78 := enters_of Try.func78 (by kernel_rfl) rfl
theorem en_142 : Ent Try.prog 142 := enters_of Try.func142 (by kernel_rfl) rfl
theorem en_28 : Ent Try.prog 28 := enters_of Try.func28 (by kernel_rfl) rfl
theorem en_141 : Ent Try.prog 141 := enters_of Try.func141 (by kernel_rfl) rfl
theorem en_84 : Ent Try.prog 84 := enters_of Try.func84 (by kernel_rfl) rfl
theorem en_85 : Ent Try.prog 85 := enters_of Try.func85 (by kernel_rfl) rfl
theorem ze_90 : zeroL Try.prog 90 = some [.slice none 0 0, .int .i64 0, .int .i64 0, .int .i64 0, .int .i64 0, .int .i64 0, .int .i64 0, .slice none 0 0, .slice none 0 0, .slice none 0 0, .slice none 0 0, .int .i64 0] := by kernel_rfl
theorem en_83 : Ent Try.prog 83 := enters_of Try.func83 (by kernel_rfl) rfl
theorem en_152 : Ent Try.prog 152 := enters_of Try.func152 (by kernel_rfl) rfl
theorem en_239 : Ent Try.prog 239 := enters_of Try.func239 (by kernel_rfl) rfl
theorem en_240 : Ent Try.prog 240 := enters_of Try.func240 (by kernel_rfl) rfl
theorem en_218 : Ent Try.prog 218 := enters_of Try.func218 (by kernel_rfl) rfl
theorem en_220 : Ent Try.prog 220 := enters_of Try.func220 (by kernel_rfl) rfl
theorem en_219 : Ent Try.prog 219 := enters_of Try.func219 (by kernel_rfl) rfl
theorem en_221 : Ent Try.prog 221 := enters_of Try.func221 (by kernel_rfl) rfl
theorem ze_213 : zeroL Try.prog 213 = some [.int .i64 0, .int .i64 0, .int .i64 0, .int .i64 0, .int .i64 0, .int .i64 0] := by kernel_rfl
theorem fo_239_0 : fieldOff Try.prog 239 0 = some 0 := by kernel_rfl
theorem ze_206 : zeroL Try.prog 206 = some [.int .i64 0, .int .i64 0] := by kernel_rfl
theorem ar_213 : arrT Try.prog 213 = some (3, 6) := by kernel_rfl
theorem fo_239_1 : fieldOff Try.prog 239 1 = some 12 := by kernel_rfl
theorem az_168 : aggsz Try.prog 168 = some (false, 1) := by kernel_rfl
theorem az_213 : aggsz Try.prog 213 = some (true, 6) := by kernel_rfl
theorem mp_209 : mpT Try.prog 209 = some (213, 3) := by kernel_rfl
theorem laid_ : laidOutB Try.prog = true := by kernel_rfl
theorem kt_213 : KT Try.prog 213 6 ekA := KT.agg laid_ (by kernel_rfl) (by kernel_rfl) (by kernel_rfl) (by kernel_rfl)
theorem en_241 : Ent Try.prog 241 := enters_of Try.func241 (by kernel_rfl) rfl
theorem en_242 : Ent Try.prog 242 := enters_of Try.func242 (by kernel_rfl) rfl
theorem en_222 : Ent Try.prog 222 := enters_of Try.func222 (by kernel_rfl) rfl
theorem en_223 : Ent Try.prog 223 := enters_of Try.func223 (by kernel_rfl) rfl
theorem en_184 : Ent Try.prog 184 := enters_of Try.func184 (by kernel_rfl) rfl
theorem en_185 : Ent Try.prog 185 := enters_of Try.func185 (by kernel_rfl) rfl
theorem en_149 : Ent Try.prog 149 := enters_of Try.func149 (by kernel_rfl) rfl
theorem en_148 : Ent Try.prog 148 := enters_of Try.func148 (by kernel_rfl) rfl
theorem en_36 : Ent Try.prog 36 := enters_of Try.func36 (by kernel_rfl) rfl
theorem en_96 : Ent Try.prog 96 := enters_of Try.func96 (by kernel_rfl) rfl
theorem en_95 : Ent Try.prog 95 := enters_of Try.func95 (by kernel_rfl) rfl
theorem eqa_39 (a0 a1 b0 b1 : Int) (w : World) : (Op.equal 39 (.agg [.int .i64 a0, .int .i64 a1].toArray) (.agg [.int .i64 b0, .int .i64 b1].toArray)).run Try.prog w = .ok ((a0 == b0) && (a1 == b1)) w := by
 have h := run_equalIn_struct (P := Try.prog) w 9999 39 #[.int .i64 a0, .int .i64 a1] #[.int .i64 b0, .int .i64 b1] (by kernel_rfl) (by kernel_rfl)
 have h2 : (Op.eqFields 9999 #[.int .i64 a0, .int .i64 a1] #[.int .i64 b0, .int .i64 b1] (Try.prog.fieldsOf 39).toList).run Try.prog w = .ok ((a0 == b0) && (a1 == b1)) w := by
  cases e0 : (a0 == b0)
  ·simp [go_sem, Program.fieldsOf, e0]
  cases e1 : (a1 == b1)
  ·simp [go_sem, Program.fieldsOf, e0, e1]
  simp [go_sem, Program.fieldsOf, e0, e1]
 exact h.trans h2
theorem eqg_39 : Try.prog.eqGuardType Try.prog.depth 39 = false := by kernel_rfl
theorem ap_49 : apT Try.prog 49 = some (68, 7, 56) := by kernel_rfl
theorem en_27 : Ent Try.prog 27 := enters_of Try.func27 (by kernel_rfl) rfl
theorem ap_24 : apT Try.prog 24 = some (39, 2, 16) := by kernel_rfl
theorem en_97 : Ent Try.prog 97 := enters_of Try.func97 (by kernel_rfl) rfl
theorem ap_87 : apT Try.prog 87 = some (98, 3, 24) := by kernel_rfl
theorem ap_88 : apT Try.prog 88 = some (206, 2, 16) := by kernel_rfl
theorem ul_103 : Try.prog.underlying 103 = some (.slice 86) := by kernel_rfl
theorem sl_103 : slT Try.prog 103 = some (86, 2) := by kernel_rfl
theorem en_179 : Ent Try.prog 179 := enters_of Try.func179 (by kernel_rfl) rfl
theorem en_143 : Ent Try.prog 143 := enters_of Try.func143 (by kernel_rfl) rfl
theorem en_144 : Ent Try.prog 144 := enters_of Try.func144 (by kernel_rfl) rfl
theorem ze_156 : zeroL Try.prog 156 = some [.int .i64 0, .slice none 0 0, .slice none 0 0] := by kernel_rfl
theorem ze_160 : zeroL Try.prog 160 = some [.int .u16 0] := by kernel_rfl
theorem en_145 : Ent Try.prog 145 := enters_of Try.func145 (by kernel_rfl) rfl
theorem az_160 : aggsz Try.prog 160 = some (false, 1) := by kernel_rfl
theorem en_180 : Ent Try.prog 180 := enters_of Try.func180 (by kernel_rfl) rfl
theorem en_89 : Ent Try.prog 89 := enters_of Try.func89 (by kernel_rfl) rfl
theorem en_224 : Ent Try.prog 224 := enters_of Try.func224 (by kernel_rfl) rfl
theorem en_87 : Ent Try.prog 87 := enters_of Try.func87 (by kernel_rfl) rfl
theorem en_88 : Ent Try.prog 88 := enters_of Try.func88 (by kernel_rfl) rfl
theorem en_186 : Ent Try.prog 186 := enters_of Try.func186 (by kernel_rfl) rfl
theorem ze_86 : zeroL Try.prog 86 = some [.int .i64 0, .int .i64 0] := by kernel_rfl
theorem az_214 : aggsz Try.prog 214 = some (false, 1) := by kernel_rfl
theorem mp_214 : mpT Try.prog 214 = some (86, 3) := by kernel_rfl
theorem kt_86 : KT Try.prog 86 2 ekA := KT.agg laid_ (by kernel_rfl) (by kernel_rfl) (by kernel_rfl) (by kernel_rfl)
theorem en_151 : Ent Try.prog 151 := enters_of Try.func151 (by kernel_rfl) rfl
theorem az_4 : aggsz Try.prog 4 = some (false, 1) := by kernel_rfl
theorem ze_214 : zeroL Try.prog 214 = some [.map none] := by kernel_rfl
theorem en_99 : Ent Try.prog 99 := enters_of Try.func99 (by kernel_rfl) rfl
theorem en_150 : Ent Try.prog 150 := enters_of Try.func150 (by kernel_rfl) rfl
theorem en_98 : Ent Try.prog 98 := enters_of Try.func98 (by kernel_rfl) rfl
theorem en_40 : Ent Try.prog 40 := enters_of Try.func40 (by kernel_rfl) rfl
theorem en_41 : Ent Try.prog 41 := enters_of Try.func41 (by kernel_rfl) rfl
theorem fo_92_0 : fieldOff Try.prog 92 0 = some 0 := by kernel_rfl
theorem fo_92_1 : fieldOff Try.prog 92 1 = some 1 := by kernel_rfl
theorem fo_92_2 : fieldOff Try.prog 92 2 = some 2 := by kernel_rfl
theorem fo_92_3 : fieldOff Try.prog 92 3 = some 3 := by kernel_rfl
theorem en_42 : Ent Try.prog 42 := enters_of Try.func42 (by kernel_rfl) rfl
theorem en_43 : Ent Try.prog 43 := enters_of Try.func43 (by kernel_rfl) rfl
theorem en_44 : Ent Try.prog 44 := enters_of Try.func44 (by kernel_rfl) rfl
theorem en_29 : Ent Try.prog 29 := enters_of Try.func29 (by kernel_rfl) rfl
theorem en_45 : Ent Try.prog 45 := enters_of Try.func45 (by kernel_rfl) rfl
end Go.Proofs.Yteihdclpiekmaaa
end
section
set_option maxRecDepth 100000
set_option maxHeartbeats 40000000
namespace Go.Proofs.Yteihdclpiekmaaa
open Go Go.RowKit Go.Dec
set_option linter.unusedVariables false
-- 100 (ferrule/gusts.blown).load
def F_gusts_blown_load (n : Nat) (b : gusts_blown) (g : Gust) (rib : Int) : Option Int :=
 (nz (b.shares.length : Int)).bind fun _ => (geti b.shares ((w64 ((w64 (rib - g.At)) + (b.shares.length : Int))).tmod (b.shares.length : Int))).bind fun y10 => some (w64 ((w64 ((w64 (g.Force * b.lift)) * y10)).tdiv 100))
theorem c_gusts_blown_load (n : Nat) (H : Hp) (b : gusts_blown) (b_v1 : Value) (hb_1 : SL H 1 RInt b_v1 b.ribs) (b_v2 : Value) (hb_2 : SL H 1 RInt b_v2 b.shares) (g : Gust) (rib : Int) (y : Int) (hF : F_gusts_blown_load n b g rib = some y) : SC Try.prog 100 [.agg [.int .i64 b.lift, b_v1, b_v2].toArray, .agg [.int .i64 g.Force, .int .i64 g.At].toArray, .int .i64 rib] (.int .i64 y) H := by
 rw [F_gusts_blown_load] at hF
 refine SC.of (N := 30) Try.func100 rfl rfl rfl fun w => ?_
 refine JC.seq (JC.region (by rfl) ?_)
 intro hQ
 refine JL.box (cs := [.int .i64 b.lift, b_v1, b_v2]) rfl .none rfl ?_
 intro b1
 refine JL.box (cs := [.int .i64 g.Force, .int .i64 g.At]) rfl .none rfl ?_
 intro b2
 refine JL.assign .none rfl ?_
 refine JL.done hQ (JQ.go (JC.seq (JC.region (by rfl) ?_)))
 intro hQ
 refine JL.fieldAddr fo_156_2 rfl .none rfl ?_
 refine JL.loadOwn 1 az_23 rfl rfl rfl .none rfl ?_
 refine JL.lenSL (R := RInt) ul_23 hb_2 .none rfl ?_
 refine JL.assign .none rfl ?_
 refine JL.done hQ (JQ.go (JC.seq (JC.draw (by rfl) mo_ (by kernel_rfl) ?_)))
 intro hQ
 refine JL.fieldAddr fo_86_0 rfl .none rfl ?_
 refine JL.loadOwn 0 az_3 rfl rfl rfl .none rfl ?_
 refine JL.fieldAddr fo_156_0 rfl .none rfl ?_
 refine JL.loadOwn 1 az_3 rfl rfl rfl .none rfl ?_
 refine JL.bin rfl rfl rfl .none rfl ?_
 refine JL.fieldAddr fo_156_2 rfl .none rfl ?_
 refine JL.loadOwn 1 az_23 rfl rfl rfl .none rfl ?_
 refine JL.move .none rfl ?_
 refine JL.fieldAddr fo_86_1 rfl .none rfl ?_
 refine JL.loadOwn 0 az_3 rfl rfl rfl .none rfl ?_
 refine JL.bin rfl rfl rfl .none rfl ?_
 refine JL.move .none rfl ?_
 refine JL.bin rfl rfl rfl .none rfl ?_
 refine JL.move .none rfl ?_
 obtain ⟨u9, hu9, hF⟩ := bind_some hF
 refine JL.div rfl rfl (nz_some hu9) rfl .none rfl ?_
 obtain ⟨y10, hy10, hF⟩ := bind_some hF
 refine JL.indexSL (R := RInt) sl_23 hb_2 rfl hy10 .none rfl ?_
 rintro b11 o12 cs13 hc14 - rfl
 refine JL.loadH 0 az_3 rfl hc14 rfl .none rfl ?_
 refine JL.bin rfl rfl rfl .none rfl ?_
 refine JL.div rfl rfl (by decide) rfl .none rfl ?_
 refine JL.assign .none rfl ?_
 refine JL.doneQ hQ ?_
 refine JQ.go (JC.fresh (fun f => f 6 = .int .i64 (w64 ((w64 ((w64 (g.Force * b.lift)) * y10)).tdiv 100))) rfl ?_)
 rintro f hf6
 refine (JC.norm (i := 6) hf6 ?_)
 refine JC.ret ?_
 obtain rfl := Option.some.inj hF
 exact JQ.outS rfl (.tmp .nil) rfl
-- 181 (ferrule/gusts.blown).bears
def F_gusts_blown_bears_s2 (n : Nat) (b : gusts_blown) (g : Gust) (rib : Int) (gone : Int) (y410 : Int) : Int × Int → Option ((Int × Int) ⊕ Int)
 | (side_472, i_473) => (if (i_473 != rib) = true then ((nneg i_473).bind fun _ => some ((band .u16 (bshr .u16 gone i_473) 1) == 1)) else (some false) : Option Bool).bind fun p478 => if p478 = true then ((F_gusts_blown_load n b g i_473).bind fun y483 => (nz (b.ribs.length : Int)).bind fun _ => some (Sum.inl ((w64 (side_472 + y483)), ((w64 (i_473 + y410)).tmod (b.ribs.length : Int))))) else (some (Sum.inr side_472))
def F_gusts_blown_bears_s1 (n : Nat) (b : gusts_blown) (g : Gust) (rib : Int) (gone : Int) : Int × Int → Option ((Int × Int) ⊕ Int)
 | (sum_404, x_405) => if decide (x_405 < 2) = true then ((geti [1, (w64 ((b.ribs.length : Int) - 1))] x_405).bind fun y410 => (nz (b.ribs.length : Int)).bind fun _ => (loopO n (F_gusts_blown_bears_s2 n b g rib gone y410) (0, ((w64 (rib + y410)).tmod (b.ribs.length : Int)))).bind fun side_447 => some (Sum.inl ((w64 (sum_404 + (w64 (side_447.tdiv 2)))), (w64 (x_405 + 1))))) else (some (Sum.inr sum_404))
def F_gusts_blown_bears (n : Nat) (b : gusts_blown) (g : Gust) (rib : Int) (gone : Int) : Option Int :=
 (F_gusts_blown_load n b g rib).bind fun y3 => (loopO n (F_gusts_blown_bears_s1 n b g rib gone) (y3, 0)).bind fun sum_243 => some sum_243
theorem c_gusts_blown_bears (n : Nat) (H : Hp) (b : gusts_blown) (b_v1 : Value) (hb_1 : SL H 1 RInt b_v1 b.ribs) (b_v2 : Value) (hb_2 : SL H 1 RInt b_v2 b.shares) (g : Gust) (rib : Int) (gone : Int) (y : Int) (hF : F_gusts_blown_bears n b g rib gone = some y) : SC Try.prog 181 [.agg [.int .i64 b.lift, b_v1, b_v2].toArray, .agg [.int .i64 g.Force, .int .i64 g.At].toArray, .int .i64 rib, .int .u16 gone] (.int .i64 y) H := by
 rw [F_gusts_blown_bears] at hF
 refine SC.of (N := 60) Try.func181 rfl rfl rfl fun w => ?_
 refine JC.seq (JC.region (by rfl) ?_)
 intro hQ
 refine JL.box (cs := [.int .i64 b.lift, b_v1, b_v2]) rfl .none rfl ?_
 intro b1
 refine JL.box (cs := [.int .i64 g.Force, .int .i64 g.At]) rfl .none rfl ?_
 intro b2
 refine JL.assign .none rfl ?_
 refine JL.done hQ (JQ.go (JC.seq (JC.region (by rfl) ?_)))
 intro hQ
 refine JL.loadOwn 1 az_156 rfl rfl rfl .none rfl ?_
 refine JL.loadOwn 0 az_86 rfl rfl rfl .none rfl ?_
 refine JL.move .none rfl ?_
 obtain ⟨y3, hy3, hF⟩ := bind_some hF
 refine JL.callS (c_gusts_blown_load n H b b_v1 hb_1 b_v2 hb_2 g rib y3 hy3) rfl en_100 .none rfl ?_
 refine JL.assign .none rfl ?_
 refine JL.done hQ (JQ.go (JC.seq (JC.region (by rfl) ?_)))
 intro hQ
 refine JL.fieldAddr fo_156_1 rfl .none rfl ?_
 refine JL.loadOwn 1 az_23 rfl rfl rfl .none rfl ?_
 refine JL.lenSL (R := RInt) ul_23 hb_1 .none rfl ?_
 refine JL.assign .none rfl ?_
 refine JL.done hQ (JQ.go (JC.fresh (fun f => f 2 = .int .i64 rib ∧ f 3 = .int .u16 gone ∧ f 4 = .pointer (some ⟨b1, 0, none⟩) ∧ f 5 = .pointer (some ⟨b2, 0, none⟩) ∧ f 8 = .int .i64 0 ∧ f 9 = .int .i64 y3 ∧ f 10 = .int .i64 (b.ribs.length : Int)) ⟨rfl, rfl, rfl, rfl, rfl, rfl, rfl⟩ ?_))
 rintro f ⟨hf2, hf3, hf4, hf5, hf8, hf9, hf10⟩
 refine (JC.norm (i := 2) hf2 (JC.norm (i := 3) hf3 (JC.norm (i := 4) hf4 (JC.norm (i := 5) hf5 (JC.norm (i := 8) hf8 (JC.norm (i := 9) hf9 (JC.norm (i := 10) hf10 ?_)))))))
 refine JC.seq (JC.seq (JC.region (by rfl) ?_))
 intro hQ
 refine JL.move .none rfl ?_
 refine JL.bin rfl rfl rfl .none rfl ?_
 refine JL.build (l := [.int .i64 1, .int .i64 (w64 ((b.ribs.length : Int) - 1))]) (by kernel_rfl) .none rfl ?_
 refine JL.move .none rfl ?_
 refine JL.done hQ (JQ.go ?_)
 obtain ⟨r245, hlr245, hKr245⟩ := bind_some hF
 refine JC.join (fun (sum_243 : Int) H244 f bs gs => f 9 = .int .i64 sum_243 ∧ bs = [] ∧ gs = [] ∧ HSub H H244 ∧ sum_243 = r245) ?_ ?_
 ·skip
  refine JC.block (JC.loop hlr245 (fun (x : Int × Int) H406 f bs gs => match x with | (sum_404, x_405) => f 2 = .int .i64 rib ∧ f 3 = .int .u16 gone ∧ f 4 = .pointer (some ⟨b1, 0, none⟩) ∧ f 5 = .pointer (some ⟨b2, 0, none⟩) ∧ f 9 = .int .i64 sum_404 ∧ f 10 = .int .i64 (b.ribs.length : Int) ∧ f 24 = .agg (av .i64 [1, (w64 ((b.ribs.length : Int) - 1))]).toArray ∧ f 25 = .int .i64 x_405 ∧ bs = [(b2, .cells [.int .i64 g.Force, .int .i64 g.At].toArray 86), (b1, .cells [.int .i64 b.lift, b_v1, b_v2].toArray 156)] ∧ gs = [] ∧ HSub H H406) ⟨rfl, rfl, rfl, rfl, rfl, rfl, rfl, rfl, rfl, rfl, (HSub.refl _)⟩ ?_)
  rintro ⟨sum_404, x_405⟩ x408 H406 f bs gs ⟨hf2, hf3, hf4, hf5, hf9, hf10, hf24, hf25, rfl, rfl, hs406⟩ hF hr407
  rw [F_gusts_blown_bears_s1] at hF
  refine (JC.norm (i := 2) hf2 (JC.norm (i := 3) hf3 (JC.norm (i := 4) hf4 (JC.norm (i := 5) hf5 (JC.norm (i := 9) hf9 (JC.norm (i := 10) hf10 (JC.norm (i := 24) hf24 (JC.norm (i := 25) hf25 ?_))))))))
  refine JC.seq (JC.region (by rfl) ?_)
  intro hQ
  refine JL.bin rfl rfl rfl .none rfl ?_
  refine JL.done hQ (JQ.go (JC.seq ?_))
  rcases ite_some hF with ⟨hc409, hF⟩ | ⟨hc409, hF⟩
  ·refine JC.cond_t (b := decide (x_405 < 2)) rfl hc409 ?_
   refine JC.skip (JQ.go (JC.seq (JC.block (JC.seq (JC.region (by rfl) ?_)))))
   intro hQ
   obtain ⟨y410, hy410, hF⟩ := bind_some hF
   refine JL.indexArr (l := av .i64 [1, (w64 ((b.ribs.length : Int) - 1))]) (v := .int .i64 y410) ar_254 az_3 rfl rfl (geti_map (f := fun z => Value.int .i64 z) hy410) (av_len rfl) .none rfl ?_
   refine JL.assign .none rfl ?_
   refine JL.done hQ (JQ.go (JC.seq (JC.region (by rfl) ?_)))
   intro hQ
   refine JL.assign .none rfl ?_
   refine JL.done hQ (JQ.go (JC.seq (JC.seq (JC.region (by rfl) ?_))))
   intro hQ
   refine JL.move .none rfl ?_
   refine JL.move .none rfl ?_
   refine JL.bin rfl rfl rfl .none rfl ?_
   refine JL.move .none rfl ?_
   obtain ⟨u411, hu411, hF⟩ := bind_some hF
   refine JL.div rfl rfl (nz_some hu411) rfl .none rfl ?_
   refine JL.assign .none rfl ?_
   refine JL.done hQ (JQ.go ?_)
   obtain ⟨r449, hlr449, hKr449⟩ := bind_some hF
   refine JC.join (fun (side_447 : Int) H448 f bs gs => f 2 = .int .i64 rib ∧ f 3 = .int .u16 gone ∧ f 4 = .pointer (some ⟨b1, 0, none⟩) ∧ f 5 = .pointer (some ⟨b2, 0, none⟩) ∧ f 9 = .int .i64 sum_404 ∧ f 10 = .int .i64 (b.ribs.length : Int) ∧ f 13 = .int .i64 side_447 ∧ f 24 = .agg (av .i64 [1, (w64 ((b.ribs.length : Int) - 1))]).toArray ∧ f 25 = .int .i64 x_405 ∧ bs = [(b2, .cells [.int .i64 g.Force, .int .i64 g.At].toArray 86), (b1, .cells [.int .i64 b.lift, b_v1, b_v2].toArray 156)] ∧ gs = [] ∧ HSub H406 H448 ∧ side_447 = r449) ?_ ?_
   ·skip
    refine JC.block (JC.loop hlr449 (fun (x : Int × Int) H474 f bs gs => match x with | (side_472, i_473) => f 2 = .int .i64 rib ∧ f 3 = .int .u16 gone ∧ f 4 = .pointer (some ⟨b1, 0, none⟩) ∧ f 5 = .pointer (some ⟨b2, 0, none⟩) ∧ f 9 = .int .i64 sum_404 ∧ f 10 = .int .i64 (b.ribs.length : Int) ∧ f 12 = .int .i64 y410 ∧ f 13 = .int .i64 side_472 ∧ f 14 = .int .i64 i_473 ∧ f 24 = .agg (av .i64 [1, (w64 ((b.ribs.length : Int) - 1))]).toArray ∧ f 25 = .int .i64 x_405 ∧ bs = [(b2, .cells [.int .i64 g.Force, .int .i64 g.At].toArray 86), (b1, .cells [.int .i64 b.lift, b_v1, b_v2].toArray 156)] ∧ gs = [] ∧ HSub H406 H474) ⟨rfl, rfl, rfl, rfl, rfl, rfl, rfl, rfl, rfl, rfl, rfl, rfl, rfl, (HSub.refl _)⟩ ?_)
    rintro ⟨side_472, i_473⟩ x476 H474 f bs gs ⟨hf2, hf3, hf4, hf5, hf9, hf10, hf12, hf13, hf14, hf24, hf25, rfl, rfl, hs474⟩ hF hr475
    rw [F_gusts_blown_bears_s2] at hF
    refine (JC.norm (i := 2) hf2 (JC.norm (i := 3) hf3 (JC.norm (i := 4) hf4 (JC.norm (i := 5) hf5 (JC.norm (i := 9) hf9 (JC.norm (i := 10) hf10 (JC.norm (i := 12) hf12 (JC.norm (i := 13) hf13 (JC.norm (i := 14) hf14 (JC.norm (i := 24) hf24 (JC.norm (i := 25) hf25 ?_)))))))))))
    refine JC.seq (JC.seq (JC.region (by rfl) ?_))
    intro hQ
    refine JL.move .none rfl ?_
    refine JL.move .none rfl ?_
    refine JL.bin rfl rfl rfl .none rfl ?_
    refine JL.move .none rfl ?_
    obtain ⟨p478, hp478, hF⟩ := bind_some hF
    refine JL.cut 6 (fun f => f 2 = .int .i64 rib ∧ f 3 = .int .u16 gone ∧ f 4 = .pointer (some ⟨b1, 0, none⟩) ∧ f 5 = .pointer (some ⟨b2, 0, none⟩) ∧ f 9 = .int .i64 sum_404 ∧ f 10 = .int .i64 (b.ribs.length : Int) ∧ f 12 = .int .i64 y410 ∧ f 13 = .int .i64 side_472 ∧ f 14 = .int .i64 i_473 ∧ f 24 = .agg (av .i64 [1, (w64 ((b.ribs.length : Int) - 1))]).toArray ∧ f 25 = .int .i64 x_405 ∧ f 42 = .bool p478) ?_ ?_
    ·intro hJ479
     rcases ite_some hp478 with ⟨hc480, hF⟩ | ⟨hc480, hF⟩
     ·skip
      refine JL.move (.some rfl rfl rfl hc480) rfl ?_
      refine JL.move (.some rfl rfl rfl hc480) rfl ?_
      obtain ⟨u481, hu481, hF⟩ := bind_some hF
      refine JL.shr rfl rfl (nneg_some hu481) (.some rfl rfl rfl hc480) rfl ?_
      refine JL.and rfl rfl (.some rfl rfl rfl hc480) rfl ?_
      refine JL.bin rfl rfl rfl (.some rfl rfl rfl hc480) rfl ?_
      refine JL.pick_t (b := (i_473 != rib)) rfl hc480 .none rfl ?_
      obtain rfl := Option.some.inj hF
      exact hJ479 _ ⟨rfl, rfl, rfl, rfl, rfl, rfl, rfl, rfl, rfl, rfl, rfl, rfl⟩
     ·skip
      refine JL.skip (.bool rfl rfl rfl hc480) rfl ?_
      refine JL.skip (.bool rfl rfl rfl hc480) rfl ?_
      refine JL.skip (.bool rfl rfl rfl hc480) rfl ?_
      refine JL.skip (.bool rfl rfl rfl hc480) rfl ?_
      refine JL.skip (.bool rfl rfl rfl hc480) rfl ?_
      refine JL.pick_f (b := (i_473 != rib)) rfl hc480 .none rfl ?_
      obtain rfl := Option.some.inj hF
      exact hJ479 _ ⟨rfl, rfl, rfl, rfl, rfl, rfl, rfl, rfl, rfl, rfl, rfl, rfl⟩
    ·rintro f ⟨hf2, hf3, hf4, hf5, hf9, hf10, hf12, hf13, hf14, hf24, hf25, hf42⟩
     refine (JL.norm (i := 2) hf2 (JL.norm (i := 3) hf3 (JL.norm (i := 4) hf4 (JL.norm (i := 5) hf5 (JL.norm (i := 9) hf9 (JL.norm (i := 10) hf10 (JL.norm (i := 12) hf12 (JL.norm (i := 13) hf13 (JL.norm (i := 14) hf14 (JL.norm (i := 24) hf24 (JL.norm (i := 25) hf25 (JL.norm (i := 42) hf42 ?_))))))))))))
     refine JL.done hQ (JQ.go ?_)
     rcases ite_some hF with ⟨hc482, hF⟩ | ⟨hc482, hF⟩
     ·refine JC.cond_t (b := p478) rfl hc482 ?_
      refine JC.skip (JQ.go (JC.seq (JC.block (JC.region (by rfl) ?_))))
      intro hQ
      refine JL.move .none rfl ?_
      refine JL.loadOwn 1 az_156 rfl rfl rfl .none rfl ?_
      refine JL.loadOwn 0 az_86 rfl rfl rfl .none rfl ?_
      refine JL.move .none rfl ?_
      obtain ⟨y483, hy483, hF⟩ := bind_some hF
      refine JL.callS (c_gusts_blown_load n H474 b b_v1 (SL.mono RInt.mono (HSub.trans hs406 hs474) hb_1) b_v2 (SL.mono RInt.mono (HSub.trans hs406 hs474) hb_2) g i_473 y483 hy483) rfl en_100 .none rfl ?_
      refine JL.bin rfl rfl rfl .none rfl ?_
      refine JL.assign .none rfl ?_
      refine JL.done hQ (JQ.normal_block (JQ.go (JC.region (by rfl) ?_)))
      intro hQ
      refine JL.move .none rfl ?_
      refine JL.move .none rfl ?_
      refine JL.bin rfl rfl rfl .none rfl ?_
      refine JL.move .none rfl ?_
      obtain ⟨u484, hu484, hF⟩ := bind_some hF
      refine JL.div rfl rfl (nz_some hu484) rfl .none rfl ?_
      refine JL.assign .none rfl ?_
      refine JL.done hQ ?_
      obtain rfl := Option.some.inj hF
      exact JQ.next rfl ⟨rfl, rfl, rfl, rfl, rfl, rfl, rfl, rfl, rfl, rfl, rfl, rfl, rfl, hs474⟩
     ·refine JC.cond_f (b := p478) rfl hc482 ?_
      refine JC.exit (JQ.exit_then (JQ.exit_then (JQ.exit_block ?_)))
      obtain rfl := Option.some.inj hF
      have ehr475 := hr475 _ rfl
      subst ehr475
      exact JQ.join side_472 ⟨rfl, rfl, rfl, rfl, rfl, rfl, rfl, rfl, rfl, rfl, rfl, hs474, rfl⟩
   ·rintro side_447 H448 f bs gs ⟨hf2, hf3, hf4, hf5, hf9, hf10, hf13, hf24, hf25, rfl, rfl, hs448, rfl⟩
    have hF := hKr449
    try dsimp only at hF
    refine (JQ.norm (i := 2) hf2 (JQ.norm (i := 3) hf3 (JQ.norm (i := 4) hf4 (JQ.norm (i := 5) hf5 (JQ.norm (i := 9) hf9 (JQ.norm (i := 10) hf10 (JQ.norm (i := 13) hf13 (JQ.norm (i := 24) hf24 (JQ.norm (i := 25) hf25 ?_)))))))))
    refine JQ.go (JC.region (by rfl) ?_)
    intro hQ
    refine JL.move .none rfl ?_
    refine JL.move .none rfl ?_
    refine JL.div rfl rfl (by decide) rfl .none rfl ?_
    refine JL.bin rfl rfl rfl .none rfl ?_
    refine JL.assign .none rfl ?_
    refine JL.done hQ (JQ.normal_block (JQ.go (JC.region (by rfl) ?_)))
    intro hQ
    refine JL.bin rfl rfl rfl .none rfl ?_
    refine JL.move .none rfl ?_
    refine JL.done hQ ?_
    obtain rfl := Option.some.inj hF
    exact JQ.next rfl ⟨rfl, rfl, rfl, rfl, rfl, rfl, rfl, rfl, rfl, rfl, (HSub.trans hs406 hs448)⟩
  ·refine JC.cond_f (b := decide (x_405 < 2)) rfl hc409 ?_
   refine JC.exit (JQ.exit_then (JQ.exit_then (JQ.exit_block ?_)))
   obtain rfl := Option.some.inj hF
   have ehr407 := hr407 _ rfl
   subst ehr407
   refine JQ.mask [false, false] [] ?_
   exact JQ.join sum_404 ⟨rfl, rfl, rfl, hs406, rfl⟩
 ·rintro sum_243 H244 f bs gs ⟨hf9, rfl, rfl, hs244, rfl⟩
  have hF := hKr245
  try dsimp only at hF
  refine (JQ.norm (i := 9) hf9 ?_)
  refine JQ.go (JC.seq (JC.region (by rfl) ?_))
  intro hQ
  refine JL.move .none rfl ?_
  refine JL.assign .none rfl ?_
  refine JL.done hQ (JQ.go (JC.ret ?_))
  obtain rfl := Option.some.inj hF
  exact JQ.outS rfl (.tmp .nil) rfl
-- 75 ferrule/frames.truths
def F_frames_truths (n : Nat) (s : Section) : Option Section :=
 some s
theorem c_frames_truths (n : Nat) (H : Hp) (s : Section) (y : Section) (hF : F_frames_truths n s = some y) : HC Try.prog 75 [.agg [.int .i64 s.Arm.Low, .int .i64 s.Arm.High, .int .i64 s.Stretch.Low, .int .i64 s.Stretch.High, .int .i64 s.Base, .int .i64 s.Gear.Num, .int .i64 s.Gear.Den].toArray] H (fun H' v => ∃ b0_ : Nat, v = .func (.func 125) #[] [.pointer (some ⟨b0_, 0, none⟩)].toArray ∧ Cells H' b0_ 0 [.int .i64 y.Arm.Low, .int .i64 y.Arm.High, .int .i64 y.Stretch.Low, .int .i64 y.Stretch.High, .int .i64 y.Base, .int .i64 y.Gear.Num, .int .i64 y.Gear.Den]) := by
 rw [F_frames_truths] at hF
 refine HC.of (N := 4) Try.func75 rfl rfl rfl fun w => ?_
 refine JC.seq (JC.region (by rfl) ?_)
 intro hQ
 refine JL.box (cs := [.int .i64 s.Arm.Low, .int .i64 s.Arm.High, .int .i64 s.Stretch.Low, .int .i64 s.Stretch.High, .int .i64 s.Base, .int .i64 s.Gear.Num, .int .i64 s.Gear.Den]) rfl .none rfl ?_
 intro b1
 refine JL.assign .none rfl ?_
 refine JL.done hQ (JQ.go (JC.seq (JC.region (by rfl) ?_)))
 intro hQ
 refine JL.makeFunc .none rfl ?_
 refine JL.assign .none rfl ?_
 refine JL.done hQ (JQ.go (JC.ret (JQ.freezeC 0 (l := [.int .i64 s.Arm.Low, .int .i64 s.Arm.High, .int .i64 s.Stretch.Low, .int .i64 s.Stretch.High, .int .i64 s.Base, .int .i64 s.Gear.Num, .int .i64 s.Gear.Den]) rfl ?_)))
 intro H2 hs2 hc3
 obtain rfl := Option.some.inj hF
 exact JQ.outH rfl (.tmp .nil) ⟨b1, rfl, hc3⟩
-- 32 ferrule/ferrulelaw05.Far
def F_law05_Far (n : Nat) (d : Canopy) : Option Bool :=
 some (((decide (20 < (d.Frame.Sections.length : Int))) || (decide (40 < (d.Ribs.length : Int)))) || (decide (40 < (d.Shares.length : Int))))
theorem c_law05_Far (n : Nat) (H : Hp) (d : Canopy) (d_v0 : Value) (hd_0 : SL H 7 R_Section d_v0 d.Frame.Sections) (d_v7 : Value) (hd_7 : SL H 2 R_Span d_v7 d.Ribs) (d_v8 : Value) (hd_8 : SL H 1 RInt d_v8 d.Shares) (y : Bool) (hF : F_law05_Far n d = some y) : SC Try.prog 32 [.agg [d_v0, .int .i64 d.Frame.Low, .int .i64 d.Frame.High, .int .i64 d.Frame.Ease.Num, .int .i64 d.Frame.Ease.Den, .int .i64 d.Frame.Rod, .int .i64 d.Frame.Case, d_v7, d_v8].toArray] (.bool y) H := by
 rw [F_law05_Far] at hF
 refine SC.of (N := 20) Try.func32 rfl rfl rfl fun w => ?_
 refine JC.seq (JC.region (by rfl) ?_)
 intro hQ
 refine JL.box (cs := [d_v0, .int .i64 d.Frame.Low, .int .i64 d.Frame.High, .int .i64 d.Frame.Ease.Num, .int .i64 d.Frame.Ease.Den, .int .i64 d.Frame.Rod, .int .i64 d.Frame.Case, d_v7, d_v8]) rfl .none rfl ?_
 intro b1
 refine JL.assign .none rfl ?_
 refine JL.done hQ (JQ.go (JC.seq (JC.region (by rfl) ?_)))
 intro hQ
 refine JL.fieldAddr fo_76_0 rfl .none rfl ?_
 refine JL.fieldAddr fo_53_0 rfl .none rfl ?_
 refine JL.loadOwn 0 az_49 rfl rfl rfl .none rfl ?_
 refine JL.lenSL (R := R_Section) ul_49 hd_0 .none rfl ?_
 refine JL.bin rfl rfl rfl .none rfl ?_
 refine JL.move .none rfl ?_
 refine JL.cut 5 (fun f => f 1 = .pointer (some ⟨b1, 0, none⟩) ∧ f 13 = .bool ((decide (20 < (d.Frame.Sections.length : Int))) || (decide (40 < (d.Ribs.length : Int))))) ?_ ?_
 ·intro hJ2
  rcases bcases (decide (20 < (d.Frame.Sections.length : Int))) with hc3 | hc3
  ·skip
   refine JL.skip (.bool rfl rfl rfl hc3) rfl ?_
   refine JL.skip (.bool rfl rfl rfl hc3) rfl ?_
   refine JL.skip (.bool rfl rfl rfl hc3) rfl ?_
   refine JL.skip (.bool rfl rfl rfl hc3) rfl ?_
   refine JL.pick_t (b := decide (20 < (d.Frame.Sections.length : Int))) rfl hc3 .none rfl ?_
   exact hJ2 _ ⟨rfl, or_t hc3 rfl⟩
  ·skip
   refine JL.fieldAddr fo_76_1 rfl (.some rfl rfl rfl hc3) rfl ?_
   refine JL.loadOwn 0 az_24 rfl rfl rfl (.some rfl rfl rfl hc3) rfl ?_
   refine JL.lenSL (R := R_Span) ul_24 hd_7 (.some rfl rfl rfl hc3) rfl ?_
   refine JL.bin rfl rfl rfl (.some rfl rfl rfl hc3) rfl ?_
   refine JL.pick_f (b := decide (20 < (d.Frame.Sections.length : Int))) rfl hc3 .none rfl ?_
   exact hJ2 _ ⟨rfl, or_f hc3 rfl⟩
 ·rintro f ⟨hf1, hf13⟩
  refine (JL.norm (i := 1) hf1 (JL.norm (i := 13) hf13 ?_))
  refine JL.move .none rfl ?_
  refine JL.cut 5 (fun f => f 19 = .bool (((decide (20 < (d.Frame.Sections.length : Int))) || (decide (40 < (d.Ribs.length : Int)))) || (decide (40 < (d.Shares.length : Int))))) ?_ ?_
  ·intro hJ4
   rcases bcases ((decide (20 < (d.Frame.Sections.length : Int))) || (decide (40 < (d.Ribs.length : Int)))) with hc5 | hc5
   ·skip
    refine JL.skip (.bool rfl rfl rfl hc5) rfl ?_
    refine JL.skip (.bool rfl rfl rfl hc5) rfl ?_
    refine JL.skip (.bool rfl rfl rfl hc5) rfl ?_
    refine JL.skip (.bool rfl rfl rfl hc5) rfl ?_
    refine JL.pick_t (b := ((decide (20 < (d.Frame.Sections.length : Int))) || (decide (40 < (d.Ribs.length : Int))))) rfl hc5 .none rfl ?_
    exact hJ4 _ (or_t hc5 rfl)
   ·skip
    refine JL.fieldAddr fo_76_2 rfl (.some rfl rfl rfl hc5) rfl ?_
    refine JL.loadOwn 0 az_23 rfl rfl rfl (.some rfl rfl rfl hc5) rfl ?_
    refine JL.lenSL (R := RInt) ul_23 hd_8 (.some rfl rfl rfl hc5) rfl ?_
    refine JL.bin rfl rfl rfl (.some rfl rfl rfl hc5) rfl ?_
    refine JL.pick_f (b := ((decide (20 < (d.Frame.Sections.length : Int))) || (decide (40 < (d.Ribs.length : Int))))) rfl hc5 .none rfl ?_
    exact hJ4 _ (or_f hc5 rfl)
  ·rintro f hf19
   refine (JL.norm (i := 19) hf19 ?_)
   refine JL.assign .none rfl ?_
   refine JL.done hQ (JQ.go (JC.ret ?_))
   obtain rfl := Option.some.inj hF
   exact JQ.outS rfl (.tmp .nil) rfl
-- 66 ferrule/ferruleref01.Within
def F_ref01_Within (n : Nat) (n_ : Int) (low : Int) (high : Int) : Option Bool :=
 some ((decide (low ≤ n_)) && (decide (n_ ≤ high)))
theorem c_ref01_Within (n : Nat) (H : Hp) (n_ : Int) (low : Int) (high : Int) (y : Bool) (hF : F_ref01_Within n n_ low high = some y) : SC Try.prog 66 [.int .i64 n_, .int .i64 low, .int .i64 high] (.bool y) H := by
 rw [F_ref01_Within] at hF
 refine SC.of (N := 15) Try.func66 rfl rfl rfl fun w => ?_
 refine JC.seq (JC.region (by rfl) ?_)
 intro hQ
 refine JL.assign .none rfl ?_
 refine JL.done hQ (JQ.go (JC.seq (JC.region (by rfl) ?_)))
 intro hQ
 refine JL.move .none rfl ?_
 refine JL.move .none rfl ?_
 refine JL.bin rfl rfl rfl .none rfl ?_
 refine JL.move .none rfl ?_
 refine JL.cut 4 (fun f => f 14 = .bool ((decide (low ≤ n_)) && (decide (n_ ≤ high)))) ?_ ?_
 ·intro hJ1
  rcases bcases (decide (low ≤ n_)) with hc2 | hc2
  ·skip
   refine JL.move (.some rfl rfl rfl hc2) rfl ?_
   refine JL.move (.some rfl rfl rfl hc2) rfl ?_
   refine JL.bin rfl rfl rfl (.some rfl rfl rfl hc2) rfl ?_
   refine JL.pick_t (b := decide (low ≤ n_)) rfl hc2 .none rfl ?_
   exact hJ1 _ (and_t hc2 rfl)
  ·skip
   refine JL.skip (.bool rfl rfl rfl hc2) rfl ?_
   refine JL.skip (.bool rfl rfl rfl hc2) rfl ?_
   refine JL.skip (.bool rfl rfl rfl hc2) rfl ?_
   refine JL.pick_f (b := decide (low ≤ n_)) rfl hc2 .none rfl ?_
   exact hJ1 _ (and_f hc2 rfl)
 ·rintro f hf14
  refine (JL.norm (i := 14) hf14 ?_)
  refine JL.assign .none rfl ?_
  refine JL.done hQ (JQ.go (JC.ret ?_))
  obtain rfl := Option.some.inj hF
  exact JQ.outS rfl (.tmp .nil) rfl
-- 65 ferrule/ferruleref01.isLong
def F_ref01_isLong (n : Nat) (s : Span) : Option Bool :=
 (F_ref01_Within n s.Low 1 s.High).bind fun y2 => some ((y2 && (decide (s.High ≤ 2000))) && (decide ((w64 (s.High - s.Low)) ≤ 6)))
theorem c_ref01_isLong (n : Nat) (H : Hp) (s : Span) (y : Bool) (hF : F_ref01_isLong n s = some y) : SC Try.prog 65 [.agg [.int .i64 s.Low, .int .i64 s.High].toArray] (.bool y) H := by
 rw [F_ref01_isLong] at hF
 refine SC.of (N := 21) Try.func65 rfl rfl rfl fun w => ?_
 refine JC.seq (JC.region (by rfl) ?_)
 intro hQ
 refine JL.box (cs := [.int .i64 s.Low, .int .i64 s.High]) rfl .none rfl ?_
 intro b1
 refine JL.assign .none rfl ?_
 refine JL.done hQ (JQ.go (JC.seq (JC.region (by rfl) ?_)))
 intro hQ
 refine JL.fieldAddr fo_39_0 rfl .none rfl ?_
 refine JL.loadOwn 0 az_3 rfl rfl rfl .none rfl ?_
 refine JL.fieldAddr fo_39_1 rfl .none rfl ?_
 refine JL.loadOwn 0 az_3 rfl rfl rfl .none rfl ?_
 obtain ⟨y2, hy2, hF⟩ := bind_some hF
 refine JL.callS (c_ref01_Within n H s.Low 1 s.High y2 hy2) rfl en_66 .none rfl ?_
 refine JL.move .none rfl ?_
 refine JL.cut 4 (fun f => f 1 = .pointer (some ⟨b1, 0, none⟩) ∧ f 12 = .bool (y2 && (decide (s.High ≤ 2000)))) ?_ ?_
 ·intro hJ3
  rcases bcases y2 with hc4 | hc4
  ·skip
   refine JL.fieldAddr fo_39_1 rfl (.some rfl rfl rfl hc4) rfl ?_
   refine JL.loadOwn 0 az_3 rfl rfl rfl (.some rfl rfl rfl hc4) rfl ?_
   refine JL.bin rfl rfl rfl (.some rfl rfl rfl hc4) rfl ?_
   refine JL.pick_t (b := y2) rfl hc4 .none rfl ?_
   exact hJ3 _ ⟨rfl, and_t hc4 rfl⟩
  ·skip
   refine JL.skip (.bool rfl rfl rfl hc4) rfl ?_
   refine JL.skip (.bool rfl rfl rfl hc4) rfl ?_
   refine JL.skip (.bool rfl rfl rfl hc4) rfl ?_
   refine JL.pick_f (b := y2) rfl hc4 .none rfl ?_
   exact hJ3 _ ⟨rfl, and_f hc4 rfl⟩
 ·rintro f ⟨hf1, hf12⟩
  refine (JL.norm (i := 1) hf1 (JL.norm (i := 12) hf12 ?_))
  refine JL.move .none rfl ?_
  refine JL.cut 7 (fun f => f 20 = .bool ((y2 && (decide (s.High ≤ 2000))) && (decide ((w64 (s.High - s.Low)) ≤ 6)))) ?_ ?_
  ·intro hJ5
   rcases bcases (y2 && (decide (s.High ≤ 2000))) with hc6 | hc6
   ·skip
    refine JL.fieldAddr fo_39_1 rfl (.some rfl rfl rfl hc6) rfl ?_
    refine JL.loadOwn 0 az_3 rfl rfl rfl (.some rfl rfl rfl hc6) rfl ?_
    refine JL.fieldAddr fo_39_0 rfl (.some rfl rfl rfl hc6) rfl ?_
    refine JL.loadOwn 0 az_3 rfl rfl rfl (.some rfl rfl rfl hc6) rfl ?_
    refine JL.bin rfl rfl rfl (.some rfl rfl rfl hc6) rfl ?_
    refine JL.bin rfl rfl rfl (.some rfl rfl rfl hc6) rfl ?_
    refine JL.pick_t (b := (y2 && (decide (s.High ≤ 2000)))) rfl hc6 .none rfl ?_
    exact hJ5 _ (and_t hc6 rfl)
   ·skip
    refine JL.skip (.bool rfl rfl rfl hc6) rfl ?_
    refine JL.skip (.bool rfl rfl rfl hc6) rfl ?_
    refine JL.skip (.bool rfl rfl rfl hc6) rfl ?_
    refine JL.skip (.bool rfl rfl rfl hc6) rfl ?_
    refine JL.skip (.bool rfl rfl rfl hc6) rfl ?_
    refine JL.skip (.bool rfl rfl rfl hc6) rfl ?_
    refine JL.pick_f (b := (y2 && (decide (s.High ≤ 2000)))) rfl hc6 .none rfl ?_
    exact hJ5 _ (and_f hc6 rfl)
  ·rintro f hf20
   refine (JL.norm (i := 20) hf20 ?_)
   refine JL.assign .none rfl ?_
   refine JL.done hQ (JQ.go (JC.ret ?_))
   obtain rfl := Option.some.inj hF
   exact JQ.outS rfl (.tmp .nil) rfl
-- 67 ferrule/ferruleref01.isShare
def F_ref01_isShare (n : Nat) (x_ : Frac) : Option Bool :=
 (F_ref01_Within n x_.Den 1 20).bind fun y2 => (if y2 = true then ((F_ref01_Within n x_.Num 0 x_.Den).bind fun y7 => some y7) else (some false) : Option Bool).bind fun p4 => some p4
theorem c_ref01_isShare (n : Nat) (H : Hp) (x_ : Frac) (y : Bool) (hF : F_ref01_isShare n x_ = some y) : SC Try.prog 67 [.agg [.int .i64 x_.Num, .int .i64 x_.Den].toArray] (.bool y) H := by
 rw [F_ref01_isShare] at hF
 refine SC.of (N := 13) Try.func67 rfl rfl rfl fun w => ?_
 refine JC.seq (JC.region (by rfl) ?_)
 intro hQ
 refine JL.box (cs := [.int .i64 x_.Num, .int .i64 x_.Den]) rfl .none rfl ?_
 intro b1
 refine JL.assign .none rfl ?_
 refine JL.done hQ (JQ.go (JC.seq (JC.region (by rfl) ?_)))
 intro hQ
 refine JL.fieldAddr fo_51_1 rfl .none rfl ?_
 refine JL.loadOwn 0 az_3 rfl rfl rfl .none rfl ?_
 obtain ⟨y2, hy2, hF⟩ := bind_some hF
 refine JL.callS (c_ref01_Within n H x_.Den 1 20 y2 hy2) rfl en_66 .none rfl ?_
 refine JL.move .none rfl ?_
 obtain ⟨p4, hp4, hF⟩ := bind_some hF
 refine JL.cut 6 (fun f => f 12 = .bool p4) ?_ ?_
 ·intro hJ5
  rcases ite_some hp4 with ⟨hc6, hF⟩ | ⟨hc6, hF⟩
  ·skip
   refine JL.fieldAddr fo_51_0 rfl (.some rfl rfl rfl hc6) rfl ?_
   refine JL.loadOwn 0 az_3 rfl rfl rfl (.some rfl rfl rfl hc6) rfl ?_
   refine JL.fieldAddr fo_51_1 rfl (.some rfl rfl rfl hc6) rfl ?_
   refine JL.loadOwn 0 az_3 rfl rfl rfl (.some rfl rfl rfl hc6) rfl ?_
   obtain ⟨y7, hy7, hF⟩ := bind_some hF
   refine JL.callS (c_ref01_Within n H x_.Num 0 x_.Den y7 hy7) rfl en_66 (.some rfl rfl rfl hc6) rfl ?_
   refine JL.pick_t (b := y2) rfl hc6 .none rfl ?_
   obtain rfl := Option.some.inj hF
   exact hJ5 _ (rfl)
  ·skip
   refine JL.skip (.bool rfl rfl rfl hc6) rfl ?_
   refine JL.skip (.bool rfl rfl rfl hc6) rfl ?_
   refine JL.skip (.bool rfl rfl rfl hc6) rfl ?_
   refine JL.skip (.bool rfl rfl rfl hc6) rfl ?_
   refine JL.skip (.bool rfl rfl rfl hc6) rfl ?_
   refine JL.pick_f (b := y2) rfl hc6 .none rfl ?_
   obtain rfl := Option.some.inj hF
   exact hJ5 _ (rfl)
 ·rintro f hf12
  refine (JL.norm (i := 12) hf12 ?_)
  refine JL.assign .none rfl ?_
  refine JL.done hQ (JQ.go (JC.ret ?_))
  obtain rfl := Option.some.inj hF
  exact JQ.outS rfl (.tmp .nil) rfl
-- 21 ferrule/ferruleref01.Check
def F_ref01_Check_s1 (n : Nat) (f_ : Frame) : Int → Option (Int ⊕ (Int ⊕ Unit))
 | i_136 => if decide (i_136 < (f_.Sections.length : Int)) = true then ((geti f_.Sections i_136).bind fun y141 => (F_ref01_isLong n y141.Arm).bind fun y147 => (if (!y147) = true then (some true) else ((F_ref01_isLong n y141.Stretch).bind fun y152 => some (!y152)) : Option Bool).bind fun p149 => (if p149 = true then (some true) else ((F_ref01_Within n y141.Base 0 2000).bind fun y157 => some (!y157)) : Option Bool).bind fun p154 => (if p154 = true then (some true) else ((F_ref01_isShare n y141.Gear).bind fun y162 => some (!y162)) : Option Bool).bind fun p159 => if p159 = true then (some (Sum.inr (Sum.inl 10))) else (some (Sum.inl (w64 (i_136 + 1))))) else (some (Sum.inr (Sum.inr ())))
def F_ref01_Check (n : Nat) (f_ : Frame) : Option Int :=
 (loopO n (F_ref01_Check_s1 n f_) 0).bind fun r83 => match r83 with | .inl o => some o | .inr _ => (F_ref01_Within n (f_.Sections.length : Int) 1 3).bind fun y164 => (if (!y164) = true then (some true) else ((F_ref01_Within n f_.Low 1 f_.High).bind fun y169 => some (!y169)) : Option Bool).bind fun p166 => (if ((p166 || (decide (2000 < f_.High))) || (decide (200 < (w64 (f_.High - f_.Low))))) = true then (some true) else ((F_ref01_isShare n f_.Ease).bind fun y178 => some (!y178)) : Option Bool).bind fun p175 => (if p175 = true then (some true) else ((F_ref01_Within n f_.Rod 0 4000).bind fun y183 => some (!y183)) : Option Bool).bind fun p180 => (if p180 = true then (some true) else ((F_ref01_Within n f_.Case 0 4000).bind fun y188 => some (!y188)) : Option Bool).bind fun p185 => if p185 = true then (some 10) else (some 0)
theorem c_ref01_Check (n : Nat) (H : Hp) (f_ : Frame) (f__v0 : Value) (hf__0 : SL H 7 R_Section f__v0 f_.Sections) (y : Int) (hF : F_ref01_Check n f_ = some y) : SC Try.prog 21 [.agg [f__v0, .int .i64 f_.Low, .int .i64 f_.High, .int .i64 f_.Ease.Num, .int .i64 f_.Ease.Den, .int .i64 f_.Rod, .int .i64 f_.Case].toArray] (.int .i64 y) H := by
 rw [F_ref01_Check] at hF
 refine SC.of (N := 83) Try.func21 rfl rfl rfl fun w => ?_
 refine JC.seq (JC.region (by rfl) ?_)
 intro hQ
 refine JL.box (cs := [f__v0, .int .i64 f_.Low, .int .i64 f_.High, .int .i64 f_.Ease.Num, .int .i64 f_.Ease.Den, .int .i64 f_.Rod, .int .i64 f_.Case]) rfl .none rfl ?_
 intro b1
 refine JL.assign .none rfl ?_
 refine JL.done hQ (JQ.go (JC.seq (JC.seq (JC.region (by rfl) ?_))))
 intro hQ
 refine JL.assign .none rfl ?_
 refine JL.done hQ (JQ.go ?_)
 obtain ⟨r83, hlr83, hKr83⟩ := bind_some hF
 refine JC.join (fun (_ : Unit) H82 f bs gs => f 1 = .pointer (some ⟨b1, 0, none⟩) ∧ bs = [(b1, .cells [f__v0, .int .i64 f_.Low, .int .i64 f_.High, .int .i64 f_.Ease.Num, .int .i64 f_.Ease.Den, .int .i64 f_.Rod, .int .i64 f_.Case].toArray 53)] ∧ gs = [] ∧ HSub H H82 ∧ Sum.inr () = r83) ?_ ?_
 ·skip
  refine JC.block (JC.loop hlr83 (fun (i_136 : Int) H137 f bs gs => f 1 = .pointer (some ⟨b1, 0, none⟩) ∧ f 3 = .int .i64 i_136 ∧ bs = [(b1, .cells [f__v0, .int .i64 f_.Low, .int .i64 f_.High, .int .i64 f_.Ease.Num, .int .i64 f_.Ease.Den, .int .i64 f_.Rod, .int .i64 f_.Case].toArray 53)] ∧ gs = [] ∧ HSub H H137) ⟨rfl, rfl, rfl, rfl, (HSub.refl _)⟩ ?_)
  rintro i_136 x139 H137 f bs gs ⟨hf1, hf3, rfl, rfl, hs137⟩ hF hr138
  rw [F_ref01_Check_s1] at hF
  refine (JC.norm (i := 1) hf1 (JC.norm (i := 3) hf3 ?_))
  refine JC.seq (JC.seq (JC.region (by rfl) ?_))
  intro hQ
  refine JL.move .none rfl ?_
  refine JL.fieldAddr fo_53_0 rfl .none rfl ?_
  refine JL.loadOwn 0 az_49 rfl rfl rfl .none rfl ?_
  refine JL.lenSL (R := R_Section) ul_49 (SL.mono R_Section_mono hs137 hf__0) .none rfl ?_
  refine JL.bin rfl rfl rfl .none rfl ?_
  refine JL.done hQ (JQ.go ?_)
  rcases ite_some hF with ⟨hc140, hF⟩ | ⟨hc140, hF⟩
  ·refine JC.cond_t (b := decide (i_136 < (f_.Sections.length : Int))) rfl hc140 ?_
   refine JC.skip (JQ.go (JC.seq (JC.block (JC.seq (JC.region (by rfl) ?_)))))
   intro hQ
   refine JL.fieldAddr fo_53_0 rfl .none rfl ?_
   refine JL.loadOwn 0 az_49 rfl rfl rfl .none rfl ?_
   refine JL.move .none rfl ?_
   obtain ⟨y141, hy141, hF⟩ := bind_some hF
   refine JL.indexSL (R := R_Section) sl_49 (SL.mono R_Section_mono hs137 hf__0) rfl hy141 .none rfl ?_
   rintro b142 o143 cs144 hc145 - rfl
   refine JL.loadH 0 az_68 rfl hc145 rfl .none rfl ?_
   refine JL.alloc ze_68 .none rfl ?_
   intro b146
   refine JL.storeOwn 0 (cs := [.int .i64 y141.Arm.Low, .int .i64 y141.Arm.High, .int .i64 y141.Stretch.Low, .int .i64 y141.Stretch.High, .int .i64 y141.Base, .int .i64 y141.Gear.Num, .int .i64 y141.Gear.Den]) az_68 rfl rfl rfl (one_cons rfl (one_cons rfl (one_cons rfl (one_cons rfl (one_cons rfl (one_cons rfl (one_cons rfl one_nil))))))) rfl rfl .none ?_
   refine JL.done hQ (JQ.go (JC.seq (JC.region (by rfl) ?_)))
   intro hQ
   refine JL.fieldAddr fo_68_0 rfl .none rfl ?_
   refine JL.loadOwn 0 az_39 rfl rfl rfl .none rfl ?_
   obtain ⟨y147, hy147, hF⟩ := bind_some hF
   refine JL.callS (c_ref01_isLong n H137 y141.Arm y147 hy147) rfl en_65 .none rfl ?_
   refine JL.not rfl .none rfl ?_
   refine JL.move .none rfl ?_
   obtain ⟨p149, hp149, hF⟩ := bind_some hF
   refine JL.cut 5 (fun f => f 1 = .pointer (some ⟨b1, 0, none⟩) ∧ f 3 = .int .i64 i_136 ∧ f 4 = .pointer (some ⟨b146, 0, none⟩) ∧ f 26 = .bool p149) ?_ ?_
   ·intro hJ150
    rcases ite_some hp149 with ⟨hc151, hF⟩ | ⟨hc151, hF⟩
    ·skip
     refine JL.skip (.bool rfl rfl rfl hc151) rfl ?_
     refine JL.skip (.bool rfl rfl rfl hc151) rfl ?_
     refine JL.skip (.bool rfl rfl rfl hc151) rfl ?_
     refine JL.skip (.bool rfl rfl rfl hc151) rfl ?_
     refine JL.pick_t (b := (!y147)) rfl hc151 .none rfl ?_
     obtain rfl := Option.some.inj hF
     exact hJ150 _ ⟨rfl, rfl, rfl, rfl⟩
    ·skip
     refine JL.fieldAddr fo_68_1 rfl (.some rfl rfl rfl hc151) rfl ?_
     refine JL.loadOwn 0 az_39 rfl rfl rfl (.some rfl rfl rfl hc151) rfl ?_
     obtain ⟨y152, hy152, hF⟩ := bind_some hF
     refine JL.callS (c_ref01_isLong n H137 y141.Stretch y152 hy152) rfl en_65 (.some rfl rfl rfl hc151) rfl ?_
     refine JL.not rfl (.some rfl rfl rfl hc151) rfl ?_
     refine JL.pick_f (b := (!y147)) rfl hc151 .none rfl ?_
     obtain rfl := Option.some.inj hF
     exact hJ150 _ ⟨rfl, rfl, rfl, rfl⟩
   ·rintro f ⟨hf1, hf3, hf4, hf26⟩
    refine (JL.norm (i := 1) hf1 (JL.norm (i := 3) hf3 (JL.norm (i := 4) hf4 (JL.norm (i := 26) hf26 ?_))))
    refine JL.move .none rfl ?_
    obtain ⟨p154, hp154, hF⟩ := bind_some hF
    refine JL.cut 5 (fun f => f 1 = .pointer (some ⟨b1, 0, none⟩) ∧ f 3 = .int .i64 i_136 ∧ f 4 = .pointer (some ⟨b146, 0, none⟩) ∧ f 32 = .bool p154) ?_ ?_
    ·intro hJ155
     rcases ite_some hp154 with ⟨hc156, hF⟩ | ⟨hc156, hF⟩
     ·skip
      refine JL.skip (.bool rfl rfl rfl hc156) rfl ?_
      refine JL.skip (.bool rfl rfl rfl hc156) rfl ?_
      refine JL.skip (.bool rfl rfl rfl hc156) rfl ?_
      refine JL.skip (.bool rfl rfl rfl hc156) rfl ?_
      refine JL.pick_t (b := p149) rfl hc156 .none rfl ?_
      obtain rfl := Option.some.inj hF
      exact hJ155 _ ⟨rfl, rfl, rfl, rfl⟩
     ·skip
      refine JL.fieldAddr fo_68_2 rfl (.some rfl rfl rfl hc156) rfl ?_
      refine JL.loadOwn 0 az_3 rfl rfl rfl (.some rfl rfl rfl hc156) rfl ?_
      obtain ⟨y157, hy157, hF⟩ := bind_some hF
      refine JL.callS (c_ref01_Within n H137 y141.Base 0 2000 y157 hy157) rfl en_66 (.some rfl rfl rfl hc156) rfl ?_
      refine JL.not rfl (.some rfl rfl rfl hc156) rfl ?_
      refine JL.pick_f (b := p149) rfl hc156 .none rfl ?_
      obtain rfl := Option.some.inj hF
      exact hJ155 _ ⟨rfl, rfl, rfl, rfl⟩
    ·rintro f ⟨hf1, hf3, hf4, hf32⟩
     refine (JL.norm (i := 1) hf1 (JL.norm (i := 3) hf3 (JL.norm (i := 4) hf4 (JL.norm (i := 32) hf32 ?_))))
     refine JL.move .none rfl ?_
     obtain ⟨p159, hp159, hF⟩ := bind_some hF
     refine JL.cut 5 (fun f => f 1 = .pointer (some ⟨b1, 0, none⟩) ∧ f 3 = .int .i64 i_136 ∧ f 38 = .bool p159) ?_ ?_
     ·intro hJ160
      rcases ite_some hp159 with ⟨hc161, hF⟩ | ⟨hc161, hF⟩
      ·skip
       refine JL.skip (.bool rfl rfl rfl hc161) rfl ?_
       refine JL.skip (.bool rfl rfl rfl hc161) rfl ?_
       refine JL.skip (.bool rfl rfl rfl hc161) rfl ?_
       refine JL.skip (.bool rfl rfl rfl hc161) rfl ?_
       refine JL.pick_t (b := p154) rfl hc161 .none rfl ?_
       obtain rfl := Option.some.inj hF
       exact hJ160 _ ⟨rfl, rfl, rfl⟩
      ·skip
       refine JL.fieldAddr fo_68_3 rfl (.some rfl rfl rfl hc161) rfl ?_
       refine JL.loadOwn 0 az_51 rfl rfl rfl (.some rfl rfl rfl hc161) rfl ?_
       obtain ⟨y162, hy162, hF⟩ := bind_some hF
       refine JL.callS (c_ref01_isShare n H137 y141.Gear y162 hy162) rfl en_67 (.some rfl rfl rfl hc161) rfl ?_
       refine JL.not rfl (.some rfl rfl rfl hc161) rfl ?_
       refine JL.pick_f (b := p154) rfl hc161 .none rfl ?_
       obtain rfl := Option.some.inj hF
       exact hJ160 _ ⟨rfl, rfl, rfl⟩
     ·rintro f ⟨hf1, hf3, hf38⟩
      refine (JL.norm (i := 1) hf1 (JL.norm (i := 3) hf3 (JL.norm (i := 38) hf38 ?_)))
      refine JL.done hQ (JQ.go ?_)
      rcases ite_some hF with ⟨hc163, hF⟩ | ⟨hc163, hF⟩
      ·refine JC.cond_t (b := p159) rfl hc163 ?_
       refine JC.seq (JC.region (by rfl) ?_)
       intro hQ
       refine JL.assign .none rfl ?_
       refine JL.done hQ (JQ.go (JC.ret (JQ.ret_block (JQ.ret_then (JQ.ret_then (JQ.ret_block (JQ.ret_join (JQ.ret_then ?_))))))))
       obtain rfl := Option.some.inj hF
       have ehr138 := hr138 _ rfl
       subst ehr138
       have hF := hKr83
       try dsimp only at hF
       obtain rfl := Option.some.inj hF
       exact JQ.outS rfl (.tmp .nil) rfl
      ·refine JC.cond_f (b := p159) rfl hc163 ?_
       refine JC.skip (JQ.normal_block (JQ.go (JC.region (by rfl) ?_)))
       intro hQ
       refine JL.move .none rfl ?_
       refine JL.bin rfl rfl rfl .none rfl ?_
       refine JL.assign .none rfl ?_
       refine JL.done hQ ?_
       obtain rfl := Option.some.inj hF
       refine JQ.mask [false, true] [] ?_
       exact JQ.next rfl ⟨rfl, rfl, rfl, rfl, hs137⟩
  ·refine JC.cond_f (b := decide (i_136 < (f_.Sections.length : Int))) rfl hc140 ?_
   refine JC.exit (JQ.exit_then (JQ.exit_then (JQ.exit_block ?_)))
   obtain rfl := Option.some.inj hF
   have ehr138 := hr138 _ rfl
   subst ehr138
   exact JQ.join () ⟨rfl, rfl, rfl, hs137, rfl⟩
 ·rintro _ H82 f bs gs ⟨hf1, rfl, rfl, hs82, rfl⟩
  have hF := hKr83
  try dsimp only at hF
  refine (JQ.norm (i := 1) hf1 ?_)
  refine JQ.go (JC.seq (JC.seq (JC.region (by rfl) ?_)))
  intro hQ
  refine JL.fieldAddr fo_53_0 rfl .none rfl ?_
  refine JL.loadOwn 0 az_49 rfl rfl rfl .none rfl ?_
  refine JL.lenSL (R := R_Section) ul_49 (SL.mono R_Section_mono hs82 hf__0) .none rfl ?_
  obtain ⟨y164, hy164, hF⟩ := bind_some hF
  refine JL.callS (c_ref01_Within n H82 (f_.Sections.length : Int) 1 3 y164 hy164) rfl en_66 .none rfl ?_
  refine JL.not rfl .none rfl ?_
  refine JL.move .none rfl ?_
  obtain ⟨p166, hp166, hF⟩ := bind_some hF
  refine JL.cut 7 (fun f => f 1 = .pointer (some ⟨b1, 0, none⟩) ∧ f 51 = .bool p166) ?_ ?_
  ·intro hJ167
   rcases ite_some hp166 with ⟨hc168, hF⟩ | ⟨hc168, hF⟩
   ·skip
    refine JL.skip (.bool rfl rfl rfl hc168) rfl ?_
    refine JL.skip (.bool rfl rfl rfl hc168) rfl ?_
    refine JL.skip (.bool rfl rfl rfl hc168) rfl ?_
    refine JL.skip (.bool rfl rfl rfl hc168) rfl ?_
    refine JL.skip (.bool rfl rfl rfl hc168) rfl ?_
    refine JL.skip (.bool rfl rfl rfl hc168) rfl ?_
    refine JL.pick_t (b := (!y164)) rfl hc168 .none rfl ?_
    obtain rfl := Option.some.inj hF
    exact hJ167 _ ⟨rfl, rfl⟩
   ·skip
    refine JL.fieldAddr fo_53_1 rfl (.some rfl rfl rfl hc168) rfl ?_
    refine JL.loadOwn 0 az_3 rfl rfl rfl (.some rfl rfl rfl hc168) rfl ?_
    refine JL.fieldAddr fo_53_2 rfl (.some rfl rfl rfl hc168) rfl ?_
    refine JL.loadOwn 0 az_3 rfl rfl rfl (.some rfl rfl rfl hc168) rfl ?_
    obtain ⟨y169, hy169, hF⟩ := bind_some hF
    refine JL.callS (c_ref01_Within n H82 f_.Low 1 f_.High y169 hy169) rfl en_66 (.some rfl rfl rfl hc168) rfl ?_
    refine JL.not rfl (.some rfl rfl rfl hc168) rfl ?_
    refine JL.pick_f (b := (!y164)) rfl hc168 .none rfl ?_
    obtain rfl := Option.some.inj hF
    exact hJ167 _ ⟨rfl, rfl⟩
  ·rintro f ⟨hf1, hf51⟩
   refine (JL.norm (i := 1) hf1 (JL.norm (i := 51) hf51 ?_))
   refine JL.move .none rfl ?_
   refine JL.cut 4 (fun f => f 1 = .pointer (some ⟨b1, 0, none⟩) ∧ f 56 = .bool (p166 || (decide (2000 < f_.High)))) ?_ ?_
   ·intro hJ170
    rcases bcases p166 with hc171 | hc171
    ·skip
     refine JL.skip (.bool rfl rfl rfl hc171) rfl ?_
     refine JL.skip (.bool rfl rfl rfl hc171) rfl ?_
     refine JL.skip (.bool rfl rfl rfl hc171) rfl ?_
     refine JL.pick_t (b := p166) rfl hc171 .none rfl ?_
     exact hJ170 _ ⟨rfl, or_t hc171 rfl⟩
    ·skip
     refine JL.fieldAddr fo_53_2 rfl (.some rfl rfl rfl hc171) rfl ?_
     refine JL.loadOwn 0 az_3 rfl rfl rfl (.some rfl rfl rfl hc171) rfl ?_
     refine JL.bin rfl rfl rfl (.some rfl rfl rfl hc171) rfl ?_
     refine JL.pick_f (b := p166) rfl hc171 .none rfl ?_
     exact hJ170 _ ⟨rfl, or_f hc171 rfl⟩
   ·rintro f ⟨hf1, hf56⟩
    refine (JL.norm (i := 1) hf1 (JL.norm (i := 56) hf56 ?_))
    refine JL.move .none rfl ?_
    refine JL.cut 7 (fun f => f 1 = .pointer (some ⟨b1, 0, none⟩) ∧ f 64 = .bool ((p166 || (decide (2000 < f_.High))) || (decide (200 < (w64 (f_.High - f_.Low)))))) ?_ ?_
    ·intro hJ172
     rcases bcases (p166 || (decide (2000 < f_.High))) with hc173 | hc173
     ·skip
      refine JL.skip (.bool rfl rfl rfl hc173) rfl ?_
      refine JL.skip (.bool rfl rfl rfl hc173) rfl ?_
      refine JL.skip (.bool rfl rfl rfl hc173) rfl ?_
      refine JL.skip (.bool rfl rfl rfl hc173) rfl ?_
      refine JL.skip (.bool rfl rfl rfl hc173) rfl ?_
      refine JL.skip (.bool rfl rfl rfl hc173) rfl ?_
      refine JL.pick_t (b := (p166 || (decide (2000 < f_.High)))) rfl hc173 .none rfl ?_
      exact hJ172 _ ⟨rfl, or_t hc173 rfl⟩
     ·skip
      refine JL.fieldAddr fo_53_2 rfl (.some rfl rfl rfl hc173) rfl ?_
      refine JL.loadOwn 0 az_3 rfl rfl rfl (.some rfl rfl rfl hc173) rfl ?_
      refine JL.fieldAddr fo_53_1 rfl (.some rfl rfl rfl hc173) rfl ?_
      refine JL.loadOwn 0 az_3 rfl rfl rfl (.some rfl rfl rfl hc173) rfl ?_
      refine JL.bin rfl rfl rfl (.some rfl rfl rfl hc173) rfl ?_
      refine JL.bin rfl rfl rfl (.some rfl rfl rfl hc173) rfl ?_
      refine JL.pick_f (b := (p166 || (decide (2000 < f_.High)))) rfl hc173 .none rfl ?_
      exact hJ172 _ ⟨rfl, or_f hc173 rfl⟩
    ·rintro f ⟨hf1, hf64⟩
     refine (JL.norm (i := 1) hf1 (JL.norm (i := 64) hf64 ?_))
     refine JL.move .none rfl ?_
     obtain ⟨p175, hp175, hF⟩ := bind_some hF
     refine JL.cut 5 (fun f => f 1 = .pointer (some ⟨b1, 0, none⟩) ∧ f 70 = .bool p175) ?_ ?_
     ·intro hJ176
      rcases ite_some hp175 with ⟨hc177, hF⟩ | ⟨hc177, hF⟩
      ·skip
       refine JL.skip (.bool rfl rfl rfl hc177) rfl ?_
       refine JL.skip (.bool rfl rfl rfl hc177) rfl ?_
       refine JL.skip (.bool rfl rfl rfl hc177) rfl ?_
       refine JL.skip (.bool rfl rfl rfl hc177) rfl ?_
       refine JL.pick_t (b := ((p166 || (decide (2000 < f_.High))) || (decide (200 < (w64 (f_.High - f_.Low)))))) rfl hc177 .none rfl ?_
       obtain rfl := Option.some.inj hF
       exact hJ176 _ ⟨rfl, rfl⟩
      ·skip
       refine JL.fieldAddr fo_53_3 rfl (.some rfl rfl rfl hc177) rfl ?_
       refine JL.loadOwn 0 az_51 rfl rfl rfl (.some rfl rfl rfl hc177) rfl ?_
       obtain ⟨y178, hy178, hF⟩ := bind_some hF
       refine JL.callS (c_ref01_isShare n H82 f_.Ease y178 hy178) rfl en_67 (.some rfl rfl rfl hc177) rfl ?_
       refine JL.not rfl (.some rfl rfl rfl hc177) rfl ?_
       refine JL.pick_f (b := ((p166 || (decide (2000 < f_.High))) || (decide (200 < (w64 (f_.High - f_.Low)))))) rfl hc177 .none rfl ?_
       obtain rfl := Option.some.inj hF
       exact hJ176 _ ⟨rfl, rfl⟩
     ·rintro f ⟨hf1, hf70⟩
      refine (JL.norm (i := 1) hf1 (JL.norm (i := 70) hf70 ?_))
      refine JL.move .none rfl ?_
      obtain ⟨p180, hp180, hF⟩ := bind_some hF
      refine JL.cut 5 (fun f => f 1 = .pointer (some ⟨b1, 0, none⟩) ∧ f 76 = .bool p180) ?_ ?_
      ·intro hJ181
       rcases ite_some hp180 with ⟨hc182, hF⟩ | ⟨hc182, hF⟩
       ·skip
        refine JL.skip (.bool rfl rfl rfl hc182) rfl ?_
        refine JL.skip (.bool rfl rfl rfl hc182) rfl ?_
        refine JL.skip (.bool rfl rfl rfl hc182) rfl ?_
        refine JL.skip (.bool rfl rfl rfl hc182) rfl ?_
        refine JL.pick_t (b := p175) rfl hc182 .none rfl ?_
        obtain rfl := Option.some.inj hF
        exact hJ181 _ ⟨rfl, rfl⟩
       ·skip
        refine JL.fieldAddr fo_53_4 rfl (.some rfl rfl rfl hc182) rfl ?_
        refine JL.loadOwn 0 az_3 rfl rfl rfl (.some rfl rfl rfl hc182) rfl ?_
        obtain ⟨y183, hy183, hF⟩ := bind_some hF
        refine JL.callS (c_ref01_Within n H82 f_.Rod 0 4000 y183 hy183) rfl en_66 (.some rfl rfl rfl hc182) rfl ?_
        refine JL.not rfl (.some rfl rfl rfl hc182) rfl ?_
        refine JL.pick_f (b := p175) rfl hc182 .none rfl ?_
        obtain rfl := Option.some.inj hF
        exact hJ181 _ ⟨rfl, rfl⟩
      ·rintro f ⟨hf1, hf76⟩
       refine (JL.norm (i := 1) hf1 (JL.norm (i := 76) hf76 ?_))
       refine JL.move .none rfl ?_
       obtain ⟨p185, hp185, hF⟩ := bind_some hF
       refine JL.cut 5 (fun f => f 82 = .bool p185) ?_ ?_
       ·intro hJ186
        rcases ite_some hp185 with ⟨hc187, hF⟩ | ⟨hc187, hF⟩
        ·skip
         refine JL.skip (.bool rfl rfl rfl hc187) rfl ?_
         refine JL.skip (.bool rfl rfl rfl hc187) rfl ?_
         refine JL.skip (.bool rfl rfl rfl hc187) rfl ?_
         refine JL.skip (.bool rfl rfl rfl hc187) rfl ?_
         refine JL.pick_t (b := p180) rfl hc187 .none rfl ?_
         obtain rfl := Option.some.inj hF
         exact hJ186 _ (rfl)
        ·skip
         refine JL.fieldAddr fo_53_5 rfl (.some rfl rfl rfl hc187) rfl ?_
         refine JL.loadOwn 0 az_3 rfl rfl rfl (.some rfl rfl rfl hc187) rfl ?_
         obtain ⟨y188, hy188, hF⟩ := bind_some hF
         refine JL.callS (c_ref01_Within n H82 f_.Case 0 4000 y188 hy188) rfl en_66 (.some rfl rfl rfl hc187) rfl ?_
         refine JL.not rfl (.some rfl rfl rfl hc187) rfl ?_
         refine JL.pick_f (b := p180) rfl hc187 .none rfl ?_
         obtain rfl := Option.some.inj hF
         exact hJ186 _ (rfl)
       ·rintro f hf82
        refine (JL.norm (i := 82) hf82 ?_)
        refine JL.done hQ (JQ.go ?_)
        rcases ite_some hF with ⟨hc189, hF⟩ | ⟨hc189, hF⟩
        ·refine JC.cond_t (b := p185) rfl hc189 ?_
         refine JC.seq (JC.region (by rfl) ?_)
         intro hQ
         refine JL.assign .none rfl ?_
         refine JL.done hQ (JQ.go (JC.ret (JQ.ret_then ?_)))
         obtain rfl := Option.some.inj hF
         exact JQ.outS rfl (.tmp .nil) rfl
        ·refine JC.cond_f (b := p185) rfl hc189 ?_
         refine JC.skip (JQ.go (JC.seq (JC.region (by rfl) ?_)))
         intro hQ
         refine JL.assign .none rfl ?_
         refine JL.done hQ (JQ.go (JC.ret ?_))
         obtain rfl := Option.some.inj hF
         exact JQ.outS rfl (.tmp .nil) rfl
-- 82 ferrule/ferruleref05.within
def F_ref05_within (n : Nat) (n_ : Int) (low : Int) (high : Int) : Option Bool :=
 (F_ref01_Within n n_ low high).bind fun y1 => some y1
theorem c_ref05_within (n : Nat) (H : Hp) (n_ : Int) (low : Int) (high : Int) (y : Bool) (hF : F_ref05_within n n_ low high = some y) : SC Try.prog 82 [.int .i64 n_, .int .i64 low, .int .i64 high] (.bool y) H := by
 rw [F_ref05_within] at hF
 refine SC.of (N := 11) Try.func82 rfl rfl rfl fun w => ?_
 refine JC.seq (JC.region (by rfl) ?_)
 intro hQ
 refine JL.assign .none rfl ?_
 refine JL.done hQ (JQ.go (JC.seq (JC.region (by rfl) ?_)))
 intro hQ
 refine JL.move .none rfl ?_
 refine JL.move .none rfl ?_
 refine JL.move .none rfl ?_
 obtain ⟨y1, hy1, hF⟩ := bind_some hF
 refine JL.callS (c_ref01_Within n H n_ low high y1 hy1) rfl en_66 .none rfl ?_
 refine JL.assign .none rfl ?_
 refine JL.done hQ (JQ.go (JC.ret ?_))
 obtain rfl := Option.some.inj hF
 exact JQ.outS rfl (.tmp .nil) rfl
end Go.Proofs.Yteihdclpiekmaaa
end
