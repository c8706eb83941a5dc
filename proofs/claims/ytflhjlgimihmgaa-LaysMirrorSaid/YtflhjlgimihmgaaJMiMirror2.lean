/-
  A part of the proof of MiMirror: the texts EngLA, EngLB, EngLC, EngLD, EngLE, EngLF, MiGenT, MiMan.
-/
import Derived.Test.YtflhjlgimihmgaaJMiMirror1
import Derived.Lib.AppendZeros
import Derived.Test.YtflhjlgimihmgaaRows
section
set_option maxRecDepth 100000
set_option maxHeartbeats 40000000
namespace Go.Dec
open Go Go.RowKit
/-- an append of something onto an own row: in its place (nothing else is turned), or in a new block (nothing that was there is turned) -/
theorem run_append_keep {P : Program} (w : World) (base : Nat) (t ty e : TypeId) (i : TypeInfo) (z : Value) (size bytes : Nat) (ht : P.underlying t = some (.slice e)) (hi : P.info? e = some i) (hz : i.zero = some z)
    (hsize : i.size = size) (hby : i.bytes = bytes) (hzs : z.cells.size = size)
    (v : Value) (n : Nat) (xs : List Value) (hown : w.ownsRow base e size v n xs)
    (a : Addr) (m c : Nat) (news : List Value) (hl : news.length = m * size) (hnews : ∀ j u, news[j]? = some u → w.cell? (a.add j) = some u) (h1 : ∀ u ∈ news, u.oneCell' = true)
    (h63 : n + m ≤ maxLen) (hbytes : (n + m) * bytes ≤ 140737488355328) (hbase : base ≤ w.heap.size) (hm : 0 < m) :
    ∃ v' w', (Builtin.append_ #[t, t] ty #[v, .slice (some a) m c]).run P w = .ok v' w' ∧ w'.ownsRow base e size v' (n + m) (xs ++ news) ∧
      ((w.grownBy w' v.ownBlock ∧ ∃ g cap, v = .slice (some ⟨g, 0, none⟩) n cap ∧ v' = .slice (some ⟨g, 0, none⟩) (n + m) cap) ∨ (w.grownBy w' none ∧ v'.ownBlock = some w.heap.size)) := by
  subst hsize
  subst hby
  have hsmall : n + m ≤ 9223372036854775807 := by simp only [maxLen] at h63; omega
  have hlen : (xs ++ news).length = (n + m) * i.size := by rw [List.length_append, hown.1, hl, Nat.add_mul]
  have grown : ∀ (old : Nat), old < n + m →
      (w.drew.alloc (.cells (xs.toArray ++ news.toArray ++ Builtin.zeroCells z.cells (grownCap w (n + m) old e - (n + m))) e)).ownsRow base e i.size
        (.slice (some ⟨w.heap.size, 0, none⟩) (n + m) (grownCap w (n + m) old e)) (n + m) (xs ++ news) ∧
      w.grownBy (w.drew.alloc (.cells (xs.toArray ++ news.toArray ++ Builtin.zeroCells z.cells (grownCap w (n + m) old e - (n + m))) e)) none := by
    intro old ho
    have hge := grownCap_ge w (n + m) old e
    have hcm : grownCap w (n + m) old e ≤ maxLen := grownCap_le_maxLen w (n + m) old e h63
    refine ⟨⟨hlen, .inr ⟨w.heap.size, _, _, rfl, hbase, heap_alloc_new w.drew _, hge, hcm, ?_, ?_⟩⟩, ⟨rfl, rfl, rfl, by simp, fun k hk _ => heap_alloc_old w.drew _ hk⟩⟩
    · simp only [Array.size_append, List.size_toArray, size_zeroCells, hzs, hown.1, hl, ← Nat.add_mul]
      congr 1
      omega
    · simp only [Array.toList_append, List.append_assoc]
      rw [← List.append_assoc, ← hlen]
      exact List.take_left
  rcases hown.2 with ⟨rfl, rfl⟩ | ⟨g, cap, cur, rfl, hbg, hg, hnc, hcm, hcs, htake⟩
  · have hx : xs = [] := List.eq_nil_of_length_eq_zero (by simpa using hown.1)
    subst hx
    have hr := run_append_nil (P := P) w t ty e i z ht hi hz a m c news hl hnews (by omega) (by omega) (by have hb := hbytes; simp only [Nat.zero_add] at hb; omega)
    have hgr := grown 0 (by omega)
    simp only [Nat.zero_add, List.nil_append, Array.empty_append] at hgr ⊢
    exact ⟨_, _, hr, hgr.1, .inr ⟨hgr.2, rfl⟩⟩
  · by_cases hroom : n + m ≤ cap
    · have hfit : n * i.size + news.length ≤ cur.size := by rw [hl, hcs, ← Nat.add_mul]; exact Nat.mul_le_mul_right _ hroom
      have hr := run_append_room (P := P) w t ty e i ht hi g n cap cur hg a m c news hl hnews h1 hroom hfit
      refine ⟨_, _, hr, ⟨hlen, .inr ⟨g, cap, _, rfl, hbg, setRow_heap w g cur _ e _ hg, hroom, hcm, ?_, ?_⟩⟩, .inl ⟨⟨rfl, rfl, rfl, by simp, fun k _ hk => setRow_other w g k _ (fun e => hk (by simp [Value.ownBlock, e]))⟩, g, cap, rfl, rfl⟩⟩
      · simp only [List.size_toArray, List.length_append, List.length_take, List.length_drop, Array.length_toList]
        omega
      · rw [htake, ← hlen]
        exact List.take_left
    · have holds : ∀ j u, xs[j]? = some u → w.cell? ((⟨g, 0, none⟩ : Addr).add j) = some u := hown.cells (g := g) rfl
      have hr := run_append_grow (P := P) w t ty e i z ht hi hz ⟨g, 0, none⟩ n cap xs hown.1 holds a m c news hl hnews (by omega) (by omega) (growslice_fits (by omega) hbytes)
      have hgr := grown cap (by omega)
      exact ⟨_, _, hr, hgr.1, .inr ⟨hgr.2, rfl⟩⟩
/-- what stands may be read as what stood before: from the row q' (and the rows gx) back to the row q -/
def Back (q q' : GS) (gx : List GS) : Prop := ∀ B H bs gs w, St B H bs (q' :: (gx ++ gs)) w → St B H bs (q :: gs) w
theorem Back.refl (q : GS) : Back q q [] := fun _ _ _ _ _ h => h
theorem Back.trans {q q1 q2 : GS} {gx gy : List GS} (h : Back q q1 gx) (k : Back q1 q2 gy) : Back q q2 (gy ++ gx) := fun B H bs gs w hs =>
  h B H bs gs w (k B H bs (gx ++ gs) w (by rw [List.append_assoc] at hs; exact hs))
section
variable {B : Bs} {H : Hp} {bs : List (Nat × Obj)} {gs : List GS} {w w' : World}
/-- a row cut shorter -/
theorem St.cut {g cap n k sz : Nat} {e : TypeId} {xs ys : List Value} (hs : St B H bs (⟨.slice (some ⟨g, 0, none⟩) (n + k) cap, e, sz, n + k, xs ++ ys⟩ :: gs) w) (hx : xs.length = n * sz) :
    St B H bs (⟨.slice (some ⟨g, 0, none⟩) n cap, e, sz, n, xs⟩ :: gs) w := by
  refine ⟨hs.below, hs.hle, hs.ext, hs.own, hs.nodup, fun r hr => ?_, fun r hr => ?_, ?_⟩
  · rcases List.mem_cons.1 hr with rfl | hr
    · obtain ⟨_, h2⟩ := hs.row _ List.mem_cons_self
      simp only at h2
      rcases h2 with ⟨h0, _⟩ | ⟨g', cap', cur, hv, hg, hh, hn, hcap, hsz, htake⟩
      · cases h0
      · cases hv
        refine ⟨hx, .inr ⟨g, cap, cur, rfl, hg, hh, by simp only; omega, hcap, hsz, ?_⟩⟩
        have h3 : (cur.toList.take ((n + k) * sz)).take (n * sz) = (xs ++ ys).take (n * sz) := by rw [htake]
        rw [List.take_take, Nat.min_eq_left (Nat.mul_le_mul_right _ (by omega))] at h3
        rw [h3, ← hx]
        exact List.take_left
    · exact hs.row r (List.mem_cons_of_mem _ hr)
  · rcases List.mem_cons.1 hr with rfl | hr
    · exact fun b hb => hs.rfresh (⟨.slice (some ⟨g, 0, none⟩) (n + k) cap, e, sz, n + k, xs ++ ys⟩ : GS) List.mem_cons_self b hb
    · exact hs.rfresh r (List.mem_cons_of_mem _ hr)
  · have := List.pairwise_cons.1 hs.rdisj
    exact List.pairwise_cons.2 ⟨fun r hr b hb => this.1 r hr b hb, this.2⟩
theorem Back.cut {g cap n k sz : Nat} {e : TypeId} {xs ys : List Value} (hx : xs.length = n * sz) : Back ⟨.slice (some ⟨g, 0, none⟩) n cap, e, sz, n, xs⟩ ⟨.slice (some ⟨g, 0, none⟩) (n + k) cap, e, sz, n + k, xs ++ ys⟩ [] := fun _ _ _ _ _ h => h.cut hx
theorem Back.drop (q q' : GS) : Back q q' [q] := fun _ _ _ _ _ h => h.sub (List.Sublist.refl _) (List.sublist_cons_self _ _)
/-- one more row, in a new block -/
theorem St.addRow (hs : St B H bs gs w) (hg : w.grownBy w' none) {v' : Value} {n' sz : Nat} {e : TypeId} {xs' : List Value} (hown : w'.ownsRow B.w.heap.size e sz v' n' xs') (hat : v'.ownBlock = some w.heap.size) :
    St B H bs (⟨v', e, sz, n', xs'⟩ :: gs) w' := by
  have k : St B H bs gs w' := hs.kept ⟨hg.os, hg.tape, hg.output, hg.size, fun k hk => hg.block k hk (by simp)⟩
  refine ⟨k.below, k.hle, k.ext, k.own, k.nodup, fun r hr => ?_, fun r hr => ?_, List.pairwise_cons.2 ⟨fun r hr b hb e2 => ?_, k.rdisj⟩⟩
  · rcases List.mem_cons.1 hr with rfl | hr
    · exact hown
    · exact k.row r hr
  · rcases List.mem_cons.1 hr with rfl | hr
    · intro b hb
      rw [hat] at hb
      cases hb
      refine ⟨?_, fun x hx e => ?_⟩
      · cases hH : H w.heap.size with
        | none => rfl
        | some o' => exact absurd (hs.hle.lt hH) (Nat.lt_irrefl _)
      · have := hs.own_lt hx; omega
    · exact k.rfresh r hr
  · rw [hat] at hb
    cases hb
    have := ((hs.row r hr).lt _ e2).2
    omega
end
section
variable {q : Md} {P : Program} {ro : Option Nat} {N : Nat} {ds : List Deferred} {B : Bs} {H : Hp} {ops : List Oper} {Q : Exit → Act → World → Prop} {rest : List Oper} {f : Nat → Value} {bs : List (Nat × Obj)} {gs : List GS}
variable {d : Nat} {t : TypeId} {p : String} {af : Array Edge} {g : Option (Nat × Bool)}
/-- an append onto the first own row, of a literal: the row that was there can be had back -/
theorem JL.appendK {α : Type} {R : Rl α} {tx e : TypeId} {sz by_ : Nat} {x y : Operand} {gq : GS} {l m out : List α} (i : Nat) {b n c : Nat} {cl : List Value} {eb : TypeId} (hA : apT P tx = some (e, sz, by_)) (hq : gq.e = e ∧ gq.sz = sz) (hx : ev f x = gq.v)
    (hch : CH H sz R gq.xs l) (hn : gq.n = l.length) (hy : ev f y = .slice (some ⟨b, 0, none⟩) n c) (hi : bs[i]? = some (b, .cells cl.toArray eb)) (hsrc : CH H sz R cl m) (hm : m.length = n) (h0 : 0 < n) (h1 : AllOne cl) (hlim : lim (l ++ m) = some out) (hw : Want ops f g) (hd : Nat.blt d N = true)
    (h : ∀ v' xs' gx, CH H sz R xs' out → Back gq ⟨v', e, sz, out.length, xs'⟩ gx → JL .plain P N ds B H ops Q rest (upd f d v') bs (⟨v', e, sz, out.length, xs'⟩ :: (gx ++ gs))) : JL .plain P N ds B H ops Q (⟨some d, .call ⟨.builtin .append, #[x, y], #[tx, tx]⟩, t, p, af, g⟩ :: rest) f bs (gq :: gs) :=
  .step hw fun a w ha hs => by
    obtain ⟨rfl, hl⟩ := lim_some hlim
    obtain ⟨ti, z, hu, hti, hz, hsz, hby, hzs, hpos, hb⟩ := apT_spec hA
    obtain ⟨gv, ge, gsz, gn, gx⟩ := gq
    obtain ⟨rfl, rfl⟩ := hq
    simp only at hx hch hn
    subst hn
    have hnews : ∀ j u, cl[j]? = some u → w.cell? ((⟨b, 0, none⟩ : Addr).add j) = some u := fun j u hj => by rw [Addr.add_mid]; exact hs.has hi j u hj
    have hlen : l.length + n ≤ 4294967296 := by rw [← hm]; simpa using hl
    obtain ⟨v', w', hr, ho, hor⟩ := run_append_keep (P := P) w B.w.heap.size tx t ge ti z gsz by_ hu hti hz hsz hby hzs gv l.length gx (hs.row _ List.mem_cons_self) ⟨b, 0, none⟩ n c cl (by rw [hsrc.1, hm]) hnews h1 (by simp only [maxLen]; omega) (Nat.le_trans (Nat.mul_le_mul hlen hb) (by decide)) hs.below.size h0
    unfold Oper.wp
    have hr' : (execOp (ev f) ⟨some d, .call ⟨.builtin .append, #[x, y], #[tx, tx]⟩, t, p, af, g⟩).run P w = .ok (.value v') w' := by
      simp [execOp, resolve, invoke, builtin, hx, hy, hr]
    rw [ha.eval, hr']
    have hch' : CH H gsz R (gx ++ cl) (l ++ m) := hch.append hsrc
    have hout : (l ++ m).length = l.length + n := by rw [List.length_append, hm]
    rw [hout] at h
    rcases hor with ⟨hg, gb, cap, rfl, rfl⟩ | ⟨hg, hat⟩
    · exact h _ _ [] hch' (Back.cut hch.1) _ _ (ha.put hd _) (hs.regrow (j := 0) rfl hg ho (.inl rfl))
    · exact h _ _ [_] hch' (Back.drop _ _) _ _ (ha.put hd _) (hs.addRow hg ho hat)
/-- the row as it was before -/
theorem JL.back {q0 q1 : GS} {gx : List GS} {l : List Oper} (hb : Back q0 q1 gx) (h : JL .plain P N ds B H ops Q l f bs (q0 :: gs)) : JL .plain P N ds B H ops Q l f bs (q1 :: (gx ++ gs)) := fun a w ha hs => h a w ha (hb _ _ _ _ _ hs)
theorem JC.back {c : Code} {q0 q1 : GS} {gx : List GS} (hb : Back q0 q1 gx) (h : JC P ro N ds B H c Q f bs (q0 :: gs)) : JC P ro N ds B H c Q f bs (q1 :: (gx ++ gs)) := fun hQ a w ha hs => h hQ a w ha (hb _ _ _ _ _ hs)
theorem JC.permB {c : Code} {bs' : List (Nat × Obj)} (hp : bs.Perm bs') (h : JC P ro N ds B H c Q f bs' gs) : JC P ro N ds B H c Q f bs gs := fun hQ a w ha hs => h hQ a w ha (hs.perm hp)
theorem JL.permB {l : List Oper} {bs' : List (Nat × Obj)} (hp : bs.Perm bs') (h : JL .plain P N ds B H ops Q l f bs' gs) : JL .plain P N ds B H ops Q l f bs gs := fun a w ha hs => h a w ha (hs.perm hp)
abbrev Kw := Value → Hp → List (Nat × Obj) → List GS → Prop
abbrev RetW (B : Bs) (K : Kw) : Ending → World → Prop := fun en w' => ∃ v H' bs' gs', en = .returned v ∧ St B H' bs' gs' w' ∧ K v H' bs' gs'
theorem calls_of {k : Nat} {fn : Func} {c : Code} {vs : List Value} {K : Kw} (hf : P.funcs[k]? = some fn) (hN : fn.ntmps = N) (hb : fn.body = some c) (hn : Nat.ble vs.length N = true) {w : World} (hs : St B H bs gs w)
    (h : JC P none N [] B H c (bodyPost P fn (RetW B K)) (frame0 vs) bs gs) : Calls P k vs.toArray w (RetW B K) := by
  subst hN
  have hn := Nat.le_of_ble_eq_true hn
  exact (callsIn_wide (n := 0)).1 (callsIn_of_wp hf hb trivial (h (noOut_body (fun w' hq => by obtain ⟨_, _, _, _, h, _⟩ := hq; cases h) (fun c w' hq => by obtain ⟨_, _, _, _, h, _⟩ := hq; cases h)) _ w (fr_start hn) hs))
theorem JQ.outW {fn : Func} {rs : List ResultVar} {vs : List Value} {K : Kw} (hr : fn.results = rs.toArray) (h : RV P f bs rs vs) (hres : K (resw vs) H bs gs) : JQ N [] B H .ret (bodyPost P fn (RetW B K)) f bs gs := fun _ a w ha hs =>
  ⟨ha.defers, _, h.results hr ha hs, _, H, bs, gs, rfl, hs, hres⟩
theorem JL.callW {kf : Nat} {l : List Operand} {tt : Array TypeId} {vs : List Value} {K : Kw} (hc : ∀ w, St B H bs gs w → Calls P kf vs.toArray w (RetW B K)) (hvs : l.map (ev f) = vs) (he : Ent P kf) (hw : Want ops f g) (hd : Nat.blt d N = true)
    (h : ∀ v H' bs' gs', K v H' bs' gs' → JL .plain P N ds B H' ops Q rest (upd f d v) bs' gs') : JL .plain P N ds B H ops Q (⟨some d, .call ⟨.value (.func kf), l.toArray, tt⟩, t, p, af, g⟩ :: rest) f bs gs :=
  .step hw fun a w ha hs => by
    unfold Oper.wp
    rw [ha.eval, run_callF hvs he, Oper.upon_enter]
    refine (hc w hs).mono fun e w' => ?_
    rintro ⟨v, H', bs', gs', rfl, hs', hk⟩
    exact h v H' bs' gs' hk _ _ (ha.put hd v) hs'
section
variable {a0 a1 a2 a3 a4 a5 v : Value} {kd : IntKind} {tk : List Int}
theorem loadw_ama (h : tk.length = 12) : loadw (true, 12) ([a0, a1, a2, a3, a4, a5] ++ (av kd tk ++ [v])) 6 = some (.agg (av kd tk).toArray) := by
  have e : Nat.ble (6 + 12) ([a0, a1, a2, a3, a4, a5] ++ (av kd tk ++ [v])).length = true := Nat.ble_eq_true_of_le (by simp [av, h])
  have e2 : ((([a0, a1, a2, a3, a4, a5] ++ (av kd tk ++ [v])).drop 6).take 12) = av kd tk := by
    have : 12 = (av kd tk).length := by simp [av, h]
    rw [show ([a0, a1, a2, a3, a4, a5] ++ (av kd tk ++ [v])).drop 6 = av kd tk ++ [v] from rfl, this]
    exact List.take_left
  simp only [loadw, e, cond_true, e2]
theorem loadw_amb (h : tk.length = 12) : loadw (false, 1) ([a0, a1, a2, a3, a4, a5] ++ (av kd tk ++ [v])) 18 = some v := by
  simp only [loadw]
  rw [List.getElem?_append_right (by simp), List.getElem?_append_right (by simp [av, h])]
  simp [av, h]
theorem loadw_amc (h : tk.length = 12) : loadw (true, 19) ([a0, a1, a2, a3, a4, a5] ++ (av kd tk ++ [v])) 0 = some (.agg ([a0, a1, a2, a3, a4, a5] ++ (av kd tk ++ [v])).toArray) := by
  have hl : ([a0, a1, a2, a3, a4, a5] ++ (av kd tk ++ [v])).length = 19 := by simp [av, h]
  have e : Nat.ble (0 + 19) ([a0, a1, a2, a3, a4, a5] ++ (av kd tk ++ [v])).length = true := Nat.ble_eq_true_of_le (by omega)
  have e2 : ((([a0, a1, a2, a3, a4, a5] ++ (av kd tk ++ [v])).drop 0).take 19) = [a0, a1, a2, a3, a4, a5] ++ (av kd tk ++ [v]) := by rw [List.drop_zero]; exact List.take_of_length_le (by omega)
  simp only [loadw, e, cond_true, e2]
theorem am_len (h : tk.length = 12) : ([a0, a1, a2, a3, a4, a5] ++ (av kd tk ++ [v])).length = 19 := by simp [av, h]
/-- the array is stored -/
theorem JL.storeAma {tx e : TypeId} {x y : Operand} (i : Nat) {b : Nat} {tk' : List Int} (hz : aggsz P tx = some (true, 12)) (hx : ev f x = .pointer (some ⟨b, 6, none⟩)) (hy : ev f y = .agg (av kd tk').toArray) (hi : bs[i]? = some (b, .cells ([a0, a1, a2, a3, a4, a5] ++ (av kd tk ++ [v])).toArray e)) (hl : tk.length = 12) (hl' : tk'.length = 12) (hw : Want ops f g)
    (h : JL .plain P N ds B H ops Q rest f (bs.set i (b, .cells ([a0, a1, a2, a3, a4, a5] ++ (av kd tk' ++ [v])).toArray e)) gs) : JL .plain P N ds B H ops Q (⟨none, .store tx x y, t, p, af, g⟩ :: rest) f bs gs := by
  refine JL.storeOwn i (cs := av kd tk') (l := [a0, a1, a2, a3, a4, a5] ++ (av kd tk ++ [v])) hz hx (by rw [hy]; simp [vcells]) (by simpa [av] using hl') av_one hi (Nat.ble_eq_true_of_le (by rw [am_len hl]; decide)) hw ?_
  have e : putC ([a0, a1, a2, a3, a4, a5] ++ (av kd tk ++ [v])) 6 (av kd tk') = [a0, a1, a2, a3, a4, a5] ++ (av kd tk' ++ [v]) := by
    have h1 : ([a0, a1, a2, a3, a4, a5] ++ (av kd tk ++ [v])).take 6 = [a0, a1, a2, a3, a4, a5] := rfl
    have h2 : ([a0, a1, a2, a3, a4, a5] ++ (av kd tk ++ [v])).drop (6 + (av kd tk').length) = [v] := by
      have h3 : 6 + (av kd tk').length = 6 + (av kd tk).length := by simp [av, hl, hl']
      rw [h3, ← List.drop_drop, show ([a0, a1, a2, a3, a4, a5] ++ (av kd tk ++ [v])).drop 6 = av kd tk ++ [v] from rfl]
      exact List.drop_left
    simp only [putC, h1, h2, List.append_assoc]
  rw [e]; exact h
/-- the cell behind it is stored -/
theorem JL.storeAmb {tx e : TypeId} {x y : Operand} (i : Nat) {b : Nat} {v' : Value} (hz : aggsz P tx = some (false, 1)) (hx : ev f x = .pointer (some ⟨b, 18, none⟩)) (hy : ev f y = v') (h1 : vcells v' = [v'] ∧ v'.oneCell' = true) (hi : bs[i]? = some (b, .cells ([a0, a1, a2, a3, a4, a5] ++ (av kd tk ++ [v])).toArray e)) (hl : tk.length = 12) (hw : Want ops f g)
    (h : JL .plain P N ds B H ops Q rest f (bs.set i (b, .cells ([a0, a1, a2, a3, a4, a5] ++ (av kd tk ++ [v'])).toArray e)) gs) : JL .plain P N ds B H ops Q (⟨none, .store tx x y, t, p, af, g⟩ :: rest) f bs gs := by
  refine JL.storeAt i (l := [a0, a1, a2, a3, a4, a5] ++ (av kd tk ++ [v])) hz hx hy h1 hi (by rw [am_len hl]; decide) ?_ hw h
  have h12 : (av kd tk).length = 12 := by simp [av, hl]
  rw [List.set_append_right _ _ (by simp), List.set_append_right _ _ (by simp [h12])]
  simp [h12]
/-- all is stored -/
theorem JL.storeAmc {tx e : TypeId} {x y : Operand} (i : Nat) {b : Nat} {l : List Value} (hz : aggsz P tx = some (true, 19)) (hx : ev f x = .pointer (some ⟨b, 0, none⟩)) (hy : ev f y = .agg ([a0, a1, a2, a3, a4, a5] ++ (av kd tk ++ [v])).toArray) (hl : tk.length = 12) (h1 : AllOne [a0, a1, a2, a3, a4, a5, v]) (hi : bs[i]? = some (b, .cells l.toArray e)) (hl' : l.length = 19) (hw : Want ops f g)
    (h : JL .plain P N ds B H ops Q rest f (bs.set i (b, .cells ([a0, a1, a2, a3, a4, a5] ++ (av kd tk ++ [v])).toArray e)) gs) : JL .plain P N ds B H ops Q (⟨none, .store tx x y, t, p, af, g⟩ :: rest) f bs gs := by
  refine JL.storeOwn i (cs := [a0, a1, a2, a3, a4, a5] ++ (av kd tk ++ [v])) hz hx (by rw [hy]; simp [vcells]) (am_len hl) (fun u hu => ?_) hi (Nat.ble_eq_true_of_le (by omega)) hw ?_
  · rcases List.mem_append.1 hu with hu | hu
    · exact h1 u (by simp only [List.mem_cons, List.not_mem_nil, or_false] at hu ⊢; rcases hu with rfl | rfl | rfl | rfl | rfl | rfl <;> simp)
    · rcases List.mem_append.1 hu with hu | hu
      · exact av_one u hu
      · exact h1 u (by simp only [List.mem_cons, List.not_mem_nil, or_false] at hu ⊢; simp [hu])
  · rw [putC_all (by rw [hl', am_len hl])]; exact h
end
end
end Go.Dec
end
section
set_option maxRecDepth 100000
set_option maxHeartbeats 40000000
namespace Go.Dec
open Go Go.RowKit
/-- what yield does -/
def YS2 {α σ ρ : Type} (P : Program) (B : Bs) (l : Nat) (V : Hp → List (Nat × Obj) → Value × Value → α → Prop) (A : Own1 σ) (Ax : Own1 ρ) (step : σ → α → Option (σ ⊕ ρ)) : Prop :=
  ∀ s x y v own tl H fr gs w, A s H fr gs → step s x = some y → V H own v x → St B H (own ++ tl ++ fr) gs w → YieldAt (FR none) 0 P l #[v.1, v.2] w (After B H A Ax (own ++ tl) y)
/-- what an iterator does: F runs the caller's step over what is yielded -/
def IT2 {α : Type} (P : Program) (k : Nat) (caps : List Value) (H0 : Hp) (V : Hp → List (Nat × Obj) → Value × Value → α → Prop) (F : ∀ (σ ρ : Type), (σ → α → Option (σ ⊕ ρ)) → σ → Option (σ ⊕ ρ)) : Prop :=
  ∀ (σ ρ : Type) (B : Bs) (A : Own1 σ) (Ax : Own1 ρ) (step : σ → α → Option (σ ⊕ ρ)) (l : Nat) (s0 : σ) (y : σ ⊕ ρ), F σ ρ step s0 = some y → YS2 P B l V A Ax step →
    ∀ H fr gs w, HSub H0 H → A s0 H fr gs → St B H fr gs w →
      CallsIn (FR none) 0 P k (#[.func (.yield l) #[] #[]] ++ caps.toArray) w fun e w' => ∃ v H' fr' gs', e = .returned v ∧ HSub H H' ∧ St B H' fr' gs' w' ∧ OneOf A Ax y H' fr' gs'
def VPlain2 {α : Type} (enc : α → Value × Value) : Hp → List (Nat × Obj) → Value × Value → α → Prop := fun _ own v x => own = [] ∧ v = enc x
section
variable {P : Program} {ro : Option Nat} {N : Nat} {ds : List Deferred} {B : Bs} {H : Hp} {Q : Exit → Act → World → Prop} {f : Nat → Value} {bs : List (Nat × Obj)} {gs : List GS}
/-- for p := range g -/
theorem JC.rangeFunc2 {α σ ρ : Type} {g : Operand} {pr pr2 : Tmp} {assign body : Code} {k : Nat} {caps : List Value} {V : Hp → List (Nat × Obj) → Value × Value → α → Prop} {F : ∀ (σ ρ : Type), (σ → α → Option (σ ⊕ ρ)) → σ → Option (σ ⊕ ρ)}
    {step : σ → α → Option (σ ⊕ ρ)} {s0 : σ} {y : σ ⊕ ρ} (hg : ev f g = .func (.func k) #[] caps.toArray) (he : Ent P k) (hit : IT2 P k caps H V F) (hp : Nat.blt pr N = true) (hp2 : Nat.blt pr2 N = true)
    (hF : F σ ρ step s0 = some y) (A : Own1 σ) (Ax : ρ → Code → Hp → List (Nat × Obj) → List GS → Prop) (h0 : A s0 H bs gs)
    (hbody : ∀ l s x y v own T H' fr gs', A s H' fr gs' → step s x = some y → V H' own v x → HSub H H' →
      JC P (some l) N [] B H' assign (Exit.then (AP P l N B (fun T' => RQ B H' A Ax (own ++ T') y) body T) NoX) (upd (upd f pr v.1) pr2 v.2) (fr ++ (own ++ T)) gs')
    (hdone : ∀ D s H' fr gs', y = .inl s → A s H' fr gs' → HSub H H' → JQ N (⟨.collected D, #[]⟩ :: ds) B H' .normal Q f (fr ++ [(D, .deferred (some []))]) gs')
    (hstop : ∀ D r c H' fr gs', y = .inr r → Ax r c H' fr gs' → HSub H H' → JC P none N (⟨.collected D, #[]⟩ :: ds) B H' c Q f (fr ++ [(D, .deferred (some []))]) gs') :
    JC P none N ds B H (.rangeFunc g #[pr, pr2] assign body) Q f bs gs := fun hQ a w ha hs => by
  refine wpIn_rangeFunc ?_
  intro fn hfn
  have eg : ∀ args w, (callFunc k args).run P w = .ok (.enter k args) w := he
  obtain ⟨rec, hrec⟩ : ∃ rec : LoopState → Option Code → Loop, rec = fun st pe => { state := st, pending := pe, fn, tmps := a.tmps, params := #[pr, pr2], assign, body, defers := w.heap.size } := ⟨_, rfl⟩
  obtain ⟨W1, hW1⟩ : ∃ W1, (w.alloc (.deferred (some []))).alloc (.loop (rec .ready none)) = W1 := ⟨_, rfl⟩
  obtain ⟨l, hl⟩ : ∃ l, l = w.heap.size + 1 := ⟨_, rfl⟩
  obtain ⟨D, hD⟩ : ∃ D, D = w.heap.size := ⟨_, rfl⟩
  have hs1 : St B H (bs ++ [(l, .loop (rec .ready none)), (D, .deferred (some []))]) gs W1 := by
    have h1 := (hs.alloc (.deferred (some []))).alloc (.loop (rec .ready none))
    rw [hW1] at h1
    refine h1.perm ?_
    have : (w.alloc (.deferred (some []))).heap.size = l := by rw [hl]; simp
    rw [this, ← hD]
    exact (List.perm_append_comm (l₁ := [(l, Obj.loop (rec .ready none)), (D, .deferred (some []))]) (l₂ := bs))
  have fin : ∀ (st : LoopState) (pe : Option Code) {H' : Hp} {gs' : List GS} {fc : List (Nat × Obj)} {W : World}, st ≠ .busy → St B H' (fc ++ [(l, .loop (rec st pe)), (D, .deferred (some []))]) gs' W →
      ∃ W', (Instr.endLoop l).run P W = .ok pe W' ∧ St B H' (fc ++ [(D, .deferred (some []))]) gs' W' := fun st pe H' gs' fc W hne hW => by
    have hL := (hW.own (l, .loop (rec st pe)) (by simp)).1
    refine ⟨_, ?_, (hW.putL (.loop { rec st pe with state := .exhausted })).sub (bs' := fc ++ [(D, .deferred (some []))]) ?_ (List.Sublist.refl _)⟩
    · have := run_endLoop (P := P) hL (by rw [hrec]; exact hne)
      rw [hrec] at this ⊢
      exact this
    · exact (List.Sublist.refl fc).append (by simp)
  refine ⟨w.heap.size + 1, [{ target := .collected w.heap.size, args := #[] }], W1, { target := .fn (.func k) caps.toArray, args := #[.func (.yield (w.heap.size + 1)) #[] #[]] }, W1, k,
    #[.func (.yield (w.heap.size + 1)) #[] #[]] ++ caps.toArray, W1, ?_, ?_, ?_, ?_, fun h => by simp [FR] at h, ?_⟩
  · rw [← hW1, hrec]; exact run_enterLoop_outer _ _ _ _ _
  · simp only [resolve, ha.eval, hg]
    simp [go_sem, ev]
  · intro f' hf'; exact trivial
  · simp [invoke, go_sem, eg]
  · rw [← hl, ← hD]
    refine (hit σ ρ B (fun s H' fr gs' => ∃ fc, fr = fc ++ [(l, .loop (rec .ready none)), (D, .deferred (some []))] ∧ A s H' fc gs' ∧ HSub H H')
      (fun r H' fr gs' => ∃ fc c, fr = fc ++ [(l, .loop (rec .done (some c))), (D, .deferred (some []))] ∧ Ax r c H' fc gs' ∧ HSub H H') step l s0 y hF ?_ H _ gs W1 (HSub.refl _) ⟨bs, rfl, h0, HSub.refl _⟩ hs1).mono ?_
    · -- one round
      rintro s x y v own tl H' fr gs' W ⟨fc, rfl, hA, hsub⟩ hst hV hW
      have hP : St B H' (fc ++ (own ++ (tl ++ [(l, .loop (rec .ready none)), (D, .deferred (some []))]))) gs' W := hW.perm (by
        have := (List.perm_append_comm (l₁ := own ++ tl) (l₂ := fc)).append_right [(l, Obj.loop (rec .ready none)), (D, .deferred (some []))]
        simpa using this)
      have hL := (hP.own (l, .loop (rec .ready none)) (by simp)).1
      have hy := run_yield (P := P) (args := #[v.1, v.2]) hL (by rw [hrec]; rfl)
      rw [hrec] at hy
      refine ⟨fn, _, assign, body, hy, roundIn_of_wpIn hfn ?_⟩
      have ha' : Fr N [] { tmps := (#[pr, pr2].zip #[v.1, v.2]).foldl (fun tmps (t, a) => tmps.setIfInBounds t a) a.tmps, defers := [] } (upd (upd f pr v.1) pr2 v.2) := by
        have := Fr.put (ds := ds) (Fr.put (ds := ds) ha hp v.1) hp2 v.2
        refine ⟨?_, rfl, ?_⟩
        · have := this.size; simpa [Act.put] using this
        · intro i; have := this.get i; simpa [Act.put] using this
      refine wpIn_mono (hbody l s x y v own _ H' fc gs' hA hst hV hsub noOut_AP _ W ha' hP) ?_
      intro e a1 w1 hq
      cases e with
      | normal =>
        obtain ⟨H1, f1, bs1, gs1, ha1, hs1, hJ⟩ := hq
        rw [← List.append_assoc] at hs1
        have hL1 := (hs1.own (l, .loop (rec .ready none)) (by simp)).1
        refine ⟨_, run_beginRound hL1 (by rw [hrec]), ?_⟩
        have hs2 := hs1.putL (.loop { rec .ready none with state := .busy })
        rw [List.append_assoc] at hs2
        refine wpIn_mono (hJ _ noOut_RQ a1 _ ha1 hs2) ?_
        have fin2 : ∀ (jump : Option Code) {H'' : Hp} {gs'' : List GS} {fr'' : List (Nat × Obj)} {W3 : World}, St B H'' (fr'' ++ (own ++ (tl ++ [(l, .loop { rec .ready none with state := .busy }), (D, .deferred (some []))]))) gs'' W3 →
            ∃ W4, (Instr.endRound l jump).run P W3 = .ok (.bool jump.isNone) W4 ∧ St B H'' (own ++ tl ++ (fr'' ++ [(l, .loop (rec (if jump.isNone then .ready else .done) jump)), (D, .deferred (some []))])) gs'' W4 := fun jump H'' gs'' fr'' W3 h3 => by
          rw [← List.append_assoc, ← List.append_assoc] at h3
          have hL3 := (h3.own (l, .loop { rec .ready none with state := .busy }) (by simp)).1
          have hr := run_endRound (P := P) jump hL3
          refine ⟨_, hr, ?_⟩
          have h4 := h3.putL (.loop { ({ rec .ready none with state := .busy } : Loop) with state := if jump.isNone then .ready else .done, pending := jump })
          have e4 : ({ ({ rec .ready none with state := .busy } : Loop) with state := if jump.isNone then .ready else .done, pending := jump } : Loop) = rec (if jump.isNone then .ready else .done) jump := by rw [hrec]
          rw [e4] at h4 ⊢
          refine h4.perm ?_
          have := (List.perm_append_comm (l₁ := fr'') (l₂ := own ++ tl)).append_right [(l, Obj.loop (rec (if jump.isNone then .ready else .done) jump)), (D, .deferred (some []))]
          simpa using this
        intro e a3 W3 hp3
        cases e with
        | normal =>
          obtain ⟨s', rfl, H'', fr'', gs'', k1, k2, k3⟩ := hp3
          obtain ⟨W4, r1, r2⟩ := fin2 none k3
          exact ⟨_, _, r1, H'', _, gs'', k1, r2, rfl, fr'', rfl, k2, hsub.trans k1⟩
        | ret =>
          obtain ⟨r, rfl, H'', fr'', gs'', k1, k2, k3⟩ := hp3
          obtain ⟨W4, r1, r2⟩ := fin2 (some .ret) k3
          exact ⟨_, _, r1, H'', _, gs'', k1, r2, rfl, fr'', _, rfl, k2, hsub.trans k1⟩
        | exit id =>
          obtain ⟨r, rfl, H'', fr'', gs'', k1, k2, k3⟩ := hp3
          obtain ⟨W4, r1, r2⟩ := fin2 (some (.exit id)) k3
          exact ⟨_, _, r1, H'', _, gs'', k1, r2, rfl, fr'', _, rfl, k2, hsub.trans k1⟩
        | goto t =>
          obtain ⟨r, rfl, H'', fr'', gs'', k1, k2, k3⟩ := hp3
          obtain ⟨W4, r1, r2⟩ := fin2 (some (.goto t)) k3
          exact ⟨_, _, r1, H'', _, gs'', k1, r2, rfl, fr'', _, rfl, k2, hsub.trans k1⟩
        | panic ch => exact hp3.elim
        | outgrown => exact hp3.elim
      | exit id => exact hq.elim
      | goto t => exact hq.elim
      | ret => exact hq.elim
      | panic ch => exact hq.elim
      | outgrown => exact hq.elim
    · -- behind the iterator
      rintro e W2 ⟨v, H', fr', gs', rfl, hsub, hW, hy⟩
      have ha2 : Fr N (⟨.collected D, #[]⟩ :: ds) { a with defers := [⟨.collected D, #[]⟩] ++ a.defers } f := ⟨ha.size, by simp [ha.defers], ha.get⟩
      cases y with
      | inl s =>
        obtain ⟨fc, rfl, hA, _⟩ := hy
        obtain ⟨W', r1, r2⟩ := fin .ready none (by simp) hW
        exact ⟨none, W', r1, hdone D s H' fc gs' rfl hA hsub hQ _ W' ha2 r2⟩
      | inr r =>
        obtain ⟨fc, c, rfl, hA, _⟩ := hy
        obtain ⟨W', r1, r2⟩ := fin .done (some c) (by simp) hW
        exact ⟨some c, W', r1, hstop D r c H' fc gs' rfl hA hsub hQ _ W' ha2 r2⟩
/-- the call of yield itself -/
theorem JL.atYield2 {σ ρ : Type} {l : List Oper} {m n lY d : Nat} {x z z2 : Operand} {tt : Array TypeId} {t : TypeId} {p : String} {af : Array Edge} {post : List Oper} {A : Own1 σ} {Ax : Own1 ρ} {tl : List (Nat × Obj)} {y : σ ⊕ ρ}
    (hQ : NoOut Q) (hnd : noDefer l = true) (hl : l.drop m = ⟨some d, .call { callee := .value x, args := #[z, z2], argTypes := tt }, t, p, af, none⟩ :: post) (hn : l.length - m = n)
    (hx : ev f x = .func (.yield lY) #[] #[]) (hd : Nat.blt d N = true) (hy : ∀ w, St B H bs gs w → YieldAt (FR none) 0 P lY #[ev f z, ev f z2] w (After B H A Ax tl y))
    (hgo : ∀ s H' fr gs', y = .inl s → HSub H H' → A s H' fr gs' → JL .plain P N ds B H' l Q post (upd f d (.bool true)) (tl ++ fr) gs')
    (hstop : ∀ r H' fr gs', y = .inr r → HSub H H' → Ax r H' fr gs' → JL .plain P N ds B H' l Q post (upd f d (.bool false)) (tl ++ fr) gs') :
    JL .plain P N ds B H l (YQ P Q l m n) [] f bs gs := .nil fun a w ha hs => by
  have hlen : l.length - m = post.length + 1 := by rw [← List.length_drop, hl]; rfl
  show wpOpsIn (FR none) 0 P l.toArray Q (List.range' m n) a w
  rw [← hn, hlen, List.range'_succ]
  have hget : ∀ j, l[m + j]? = (l.drop m)[j]? := fun j => by rw [List.getElem?_drop]
  have h0 : l.toArray[m]? = some ⟨some d, .call { callee := .value x, args := #[z, z2], argTypes := tt }, t, p, af, none⟩ := by
    have := hget 0; rw [hl] at this; simpa using this
  unfold wpOpsIn
  simp only [h0]
  have hw : Region.wanted ⟨some d, .call { callee := .value x, args := #[z, z2], argTypes := tt }, t, p, af, none⟩ (yielded l.toArray a.tmps) = true := by simp [Region.wanted]
  rw [if_pos hw]
  refine ⟨fun _ _ => trivial, ?_⟩
  obtain ⟨fn, tmps, assign, body, hrun, hround⟩ := hy w hs
  have hexec : (execOp a.eval ⟨some d, .call { callee := .value x, args := #[z, z2], argTypes := tt }, t, p, af, none⟩).run P w = .ok (.round lY fn tmps assign body) w := by
    rw [ha.eval]
    simp [execOp, hx, hrun, resolve, invoke, go_sem]
  rw [Oper.semAt_eq _ _ _ (by intro c; simp), hexec, Oper.uponIn_round]
  refine ⟨fun h => by simp [FR] at h, hround.mono ?_⟩
  intro e w'' hr
  have hrest : ∀ {v : Value} {H' : Hp} {bs' : List (Nat × Obj)} {gs' : List GS}, St B H' bs' gs' w'' → JL .plain P N ds B H' l Q post (upd f d v) bs' gs' → wpOpsIn (FR none) 0 P l.toArray Q (List.range' (m + 1) post.length) (a.put (some d) v) w'' := fun h1 h2 =>
    wpOpsIn_of_wpOps hnd hQ _ _ _ (wpOps_of_wpList post (m + 1) (fun j hj => by
      have := hget (j + 1)
      rw [hl] at this
      rw [Nat.add_assoc, Nat.add_comm 1 j]
      simpa using this.symm) _ _ (h2 _ _ (ha.put hd _) h1))
  cases e with
  | returned v =>
    obtain ⟨H', fr, gs', k1, k2, k3⟩ := hr
    cases y with
    | inl s => obtain ⟨rfl, k4⟩ := k3; exact hrest k2 (hgo s H' fr gs' rfl k1 k4)
    | inr r => obtain ⟨rfl, k4⟩ := k3; exact hrest k2 (hstop r H' fr gs' rfl k1 k4)
  | panicked c => exact hr.elim
  | outgrown => exact hr.elim
end
section
variable {P : Program}
/-- an iterator's contract out of its body -/
theorem IT2.of {α : Type} {k N : Nat} {fn : Func} {c : Code} {caps : List Value} {H0 : Hp} {V : Hp → List (Nat × Obj) → Value × Value → α → Prop} {F : ∀ (σ ρ : Type), (σ → α → Option (σ ⊕ ρ)) → σ → Option (σ ⊕ ρ)}
    (hf : P.funcs[k]? = some fn) (hN : fn.ntmps = N) (hb : fn.body = some c) (hn : Nat.ble (caps.length + 1) N = true) (hres : fn.results = #[])
    (h : ∀ (σ ρ : Type) (B : Bs) (A : Own1 σ) (Ax : Own1 ρ) (step : σ → α → Option (σ ⊕ ρ)) (l : Nat) (s0 : σ) (y : σ ⊕ ρ), F σ ρ step s0 = some y → YS2 P B l V A Ax step →
      ∀ H fr gs (Q : Exit → Act → World → Prop), HSub H0 H → A s0 H fr gs →
        (∀ H' f' X fr' gs', HSub H H' → OneOf A Ax y H' fr' gs' → JQ N [] B H' .ret Q f' (X ++ fr') gs' ∧ JQ N [] B H' .normal Q f' (X ++ fr') gs') →
        JC P none N [] B H c Q (frame0 (.func (.yield l) #[] #[] :: caps)) fr gs) : IT2 P k caps H0 V F := by
  intro σ ρ B A Ax step l s0 y hF hY H fr gs w hsub hA hs
  subst hN
  have hn := Nat.le_of_ble_eq_true hn
  have hargs : (#[Value.func (.yield l) #[] #[]] ++ caps.toArray) = (Value.func (.yield l) #[] #[] :: caps).toArray := by simp
  rw [hargs]
  refine callsIn_of_wp hf hb trivial (h σ ρ B A Ax step l s0 y hF hY H fr gs _ hsub hA ?_ (noOut_body (fun w' hq => by obtain ⟨_, _, _, _, h, _⟩ := hq; cases h) (fun c w' hq => by obtain ⟨_, _, _, _, h, _⟩ := hq; cases h)) _ w (fr_start (by simpa using hn)) hs)
  intro H' f' X fr' gs' k1 k2
  have out : ∀ a w, Fr fn.ntmps [] a f' → St B H' (X ++ fr') gs' w → a.defers = [] ∧ ∃ v, (results fn a.tmps).run P w = .ok v w ∧ ∃ v' H' fr' gs', Ending.returned v = .returned v' ∧ HSub H H' ∧ St B H' fr' gs' w ∧ OneOf A Ax y H' fr' gs' := fun a w ha hs' =>
    ⟨ha.defers, _, RV.results (P := P) (rs := []) (by rw [hres]) .nil ha hs', _, H', fr', gs', rfl, k1, hs'.sub (List.sublist_append_right ..) (List.Sublist.refl _), k2⟩
  exact ⟨fun _ a w ha hs' => out a w ha hs', fun _ a w ha hs' => out a w ha hs'⟩
end
def lenck (n : Nat) (l : List Int) : Option Unit := if l.length = n then some () else none
theorem lenck_some {n : Nat} {l : List Int} {u : Unit} (h : lenck n l = some u) : l.length = n := by
  unfold lenck at h
  split at h
  · assumption
  · cases h
section
variable {P : Program} {N : Nat} {ds : List Deferred} {B : Bs} {H : Hp} {ops : List Oper} {Q : Exit → Act → World → Prop} {rest : List Oper} {f : Nat → Value} {bs : List (Nat × Obj)} {gs : List GS}
theorem JL.takeG (n : Nat) (h : JL .plain P N ds B H ops Q rest f bs (gs.take n)) : JL .plain P N ds B H ops Q rest f bs gs := fun a w ha hs => h a w ha (hs.sub (List.Sublist.refl _) (List.take_sublist n gs))
theorem JQ.assocG {e : Exit} {q0 : GS} {a b c : List GS} (h : JQ N ds B H e Q f bs (q0 :: ((a ++ b) ++ c))) : JQ N ds B H e Q f bs (q0 :: (a ++ (b ++ c))) := by
  rw [List.append_assoc] at h; exact h
end
theorem len12 {l : List Int} (h : l.length = 12) : ∃ t0 t1 t2 t3 t4 t5 t6 t7 t8 t9 t10 t11, l = [t0, t1, t2, t3, t4, t5, t6, t7, t8, t9, t10, t11] := by
  match l, h with
  | [t0, t1, t2, t3, t4, t5, t6, t7, t8, t9, t10, t11], _ => exact ⟨t0, t1, t2, t3, t4, t5, t6, t7, t8, t9, t10, t11, rfl⟩
section
variable {q : Md} {P : Program} {N : Nat} {ds : List Deferred} {B : Bs} {H : Hp} {ops : List Oper} {Q : Exit → Act → World → Prop} {rest : List Oper} {f : Nat → Value} {bs : List (Nat × Obj)} {gs : List GS}
variable {d : Nat} {t : TypeId} {p : String} {af : Array Edge} {g : Option (Nat × Bool)}
theorem JL.buildAm {kd : IntKind} {tk : List Int} {t' : TypeId} {parts : List (Nat × Operand)} {A : List Value} {v v0 v1 : Value} (hl : tk.length = 12) (hp : parts.map (fun (i, x) => (i, ev f x)) = [(0, v0), (1, v1), (2, .agg (av kd tk).toArray)])
    (hb : ∀ t0 t1 t2 t3 t4 t5 t6 t7 t8 t9 t10 t11, P.built t' [(0, v0), (1, v1), (2, .agg (av kd [t0, t1, t2, t3, t4, t5, t6, t7, t8, t9, t10, t11]).toArray)] = some (A ++ (av kd [t0, t1, t2, t3, t4, t5, t6, t7, t8, t9, t10, t11] ++ [v])).toArray) (hw : Want ops f g) (hd : Nat.blt d N = true)
    (h : JL q P N ds B H ops Q rest (upd f d (.agg (A ++ (av kd tk ++ [v])).toArray)) bs gs) : JL q P N ds B H ops Q (⟨some d, .build t' parts.toArray, t, p, af, g⟩ :: rest) f bs gs := by
  refine JL.build (l := A ++ (av kd tk ++ [v])) ?_ hw hd h
  rw [hp]
  obtain ⟨t0, t1, t2, t3, t4, t5, t6, t7, t8, t9, t10, t11, rfl⟩ := len12 hl
  exact hb ..
end
end Go.Dec
end
section
namespace Go.Dec
open Go Go.RowKit
def RK (k : IntKind) : Rl Int := fun _ cs x => cs = [.int k x]
theorem RK.mono {k : IntKind} : Mono (RK k) := fun _ _ _ _ _ h => h
theorem RK.one {k : IntKind} : ∀ (H : Hp) (cs : List Value) (x : Int), RK k H cs x → AllOne cs := by rintro H cs x rfl; exact one_cons rfl one_nil
/-- a byte of a string -/
def sidx (s : ByteArray) (i : Int) : Option Int := if 0 ≤ i then (s[i.toNat]?).map (fun b => (b.toNat : Int)) else none
def growck (i : Int) : Option Unit := if 0 ≤ i ∧ i ≤ 4294967296 then some () else none
theorem growck_some {i : Int} {u : Unit} (h : growck i = some u) : 0 ≤ i ∧ i ≤ 4294967296 := by
  unfold growck at h
  split at h
  · assumption
  · cases h
/-- a part of a list taken out -/
def delck {α : Type} (l : List α) (i j : Int) : Option (List α) := if 0 ≤ i ∧ i < j ∧ j ≤ l.length then some (l.take i.toNat ++ l.drop j.toNat) else none
section
variable {q : Md} {P : Program} {ro : Option Nat} {N : Nat} {ds : List Deferred} {B : Bs} {H : Hp} {ops : List Oper} {Q : Exit → Act → World → Prop} {rest : List Oper} {f : Nat → Value} {bs : List (Nat × Obj)} {gs : List GS}
variable {d : Nat} {t : TypeId} {p : String} {af : Array Edge} {g : Option (Nat × Bool)}
theorem JL.indexStr {tx : TypeId} {x ix : Operand} {k : IntKind} {i y : Int} {s : ByteArray} (ht : P.underlying tx = some .string) (hx : ev f x = .string s) (hi : ev f ix = .int k i) (hy : sidx s i = some y) (hw : Want ops f g) (hd : Nat.blt d N = true)
    (h : JL q P N ds B H ops Q rest (upd f d (.int .u8 y)) bs gs) : JL q P N ds B H ops Q (⟨some d, .index tx x ix, t, p, af, g⟩ :: rest) f bs gs :=
  .val hw hd (fun w _ => by
    unfold sidx at hy
    split at hy
    · rename_i h0
      cases hb : s[i.toNat]? with
      | none => rw [hb] at hy; cases hy
      | some b =>
        rw [hb] at hy
        simp only [Option.map_some, Option.some.injEq] at hy
        subst hy
        simp [execOp, hx, hi, Instr.index, asIntOf, run_underlying ht, h0, hb]
    · cases hy) h
theorem JL.conv {src dst : TypeId} {ud : TypeDesc} {x : Operand} {k k' : IntKind} {n : Int} (h1 : P.underlying src = some ud) (h2 : P.underlying dst = some (.int k')) (hx : ev f x = .int k n) (hw : Want ops f g) (hd : Nat.blt d N = true)
    (h : JL q P N ds B H ops Q rest (upd f d (.int k' (k'.wrap n))) bs gs) : JL q P N ds B H ops Q (⟨some d, .convert src dst x, t, p, af, g⟩ :: rest) f bs gs :=
  .val hw hd (fun w _ => by simp [execOp, hx, Go.convert, run_underlying h1, run_underlying h2, Conv.intToInt]) h
theorem slc0 {α : Type} {l m : List α} {i : Int} (h : slc l 0 i = some m) : 0 ≤ i ∧ i ≤ l.length ∧ m = l.take i.toNat ∧ m.length = i.toNat := by
  unfold slc at h
  split at h
  · rename_i hb
    simp only [Int.toNat_zero, List.drop_zero, Option.some.injEq] at h
    subst h
    exact ⟨hb.2.1, hb.2.2, rfl, by rw [List.length_take]; omega⟩
  · cases h
/-- the front of an array that is data -/
theorem JL.sliceArrF {kd : IntKind} {tx e : TypeId} {n : Nat} {x hi : Operand} {b : Nat} {i : Int} {k : IntKind} {l m : List Int} (ht : arrT P tx = some (e, n)) (hz : aggsz P e = some (false, 1)) (hx : ev f x = .pointer (some ⟨b, 0, none⟩)) (hhi : ev f hi = .int k i) (hc : Cells H b 0 (av kd l)) (hl : l.length = n) (hn : Nat.ble n 65536 = true) (hm : slc l 0 i = some m) (hw : Want ops f g) (hd : Nat.blt d N = true)
    (h : ∀ v, SL H 1 (RK kd) v m → JL q P N ds B H ops Q rest (upd f d v) bs gs) : JL q P N ds B H ops Q (⟨some d, .slice tx x none (some hi) none, t, p, af, g⟩ :: rest) f bs gs := by
  obtain ⟨h0, h1, rfl, hlen⟩ := slc0 hm
  have hn' := Nat.le_of_ble_eq_true hn
  refine .val (v := .slice (some ⟨b, 0, none⟩) i.toNat n) hw hd (fun w _ => ?_) (h _ ?_)
  · obtain ⟨_, h2, _⟩ := run_isAgg_of (w := w) hz
    unfold arrT at ht
    split at ht
    · rename_i n' e' hu
      simp only [Option.some.injEq, Prod.mk.injEq] at ht
      obtain ⟨rfl, rfl⟩ := ht
      have hu' : P.underlying tx = some (.array (P.arrayLen tx) (P.elem tx)) := by simp [Program.arrayLen, Program.elem, hu]
      have hin : i ≤ P.arrayLen tx := by simp [Program.arrayLen, hu]; omega
      have hr := run_sliceAt_array_h (P := P) w tx ⟨b, 0, none⟩ hu' k i h0 hin
      have he : P.elem tx = e' := by simp [Program.elem, hu]
      have ha : P.arrayLen tx = n' := by simp [Program.arrayLen, hu]
      rw [he, ha] at hr
      simp only [h2, Result.andThen_ok] at hr
      simp [execOp, hx, hhi, hr, slicedAt, Addr.add]
    · cases ht
  · refine ⟨_, n, by rw [hlen], ⟨by rw [hlen]; omega, by rw [hlen]; omega⟩, .inr ⟨b, 0, rfl, fun j y hy => ?_⟩⟩
    obtain ⟨c, e', fz, k1, k2⟩ := hc
    have hy' : l[j]? = some y := by
      rw [List.getElem?_take] at hy
      split at hy
      · exact hy
      · cases hy
    refine ⟨[.int kd y], ⟨c, e', fz, k1, fun t v hv => ?_⟩, rfl, rfl⟩
    have ht0 : t = 0 := by
      have := (List.getElem?_eq_some_iff.1 hv).1
      simp only [List.length_cons, List.length_nil] at this
      omega
    subst ht0
    simp only [List.getElem?_cons_zero, Option.some.injEq] at hv
    subst hv
    have := k2 j (.int kd y) (by simp [av, hy'])
    simpa using this
theorem elemT {tx e : TypeId} (hu : P.underlying tx = some (.slice e)) : P.underlying tx = some (.slice (P.elem tx)) ∧ P.elem tx = e := by simp [Program.elem, hu]
theorem JL.capSl {tx e : TypeId} {x : Operand} {a : Option Addr} {n c : Nat} (ht : P.underlying tx = some (.slice e)) (hx : ev f x = .slice a n c) (hw : Want ops f g) (hd : Nat.blt d N = true)
    (h : JL q P N ds B H ops Q rest (upd f d (.int .i64 c)) bs gs) : JL q P N ds B H ops Q (⟨some d, .call ⟨.builtin .cap, #[x], #[tx]⟩, t, p, af, g⟩ :: rest) f bs gs :=
  .val hw hd (fun w _ => by
    have := run_cap_slice (P := P) w tx t a n c (elemT ht).1
    simp [execOp, resolve, invoke, builtin, hx, this, goInt]) h
theorem JL.permG {l : List Oper} {gs' : List GS} (hp : gs.Perm gs') (h : JL .plain P N ds B H ops Q l f bs gs') : JL .plain P N ds B H ops Q l f bs gs := fun a w ha hs => h a w ha (hs.permG hp)
/-- a slice of a slice, whatever it holds -/
theorem JL.sliceH {tx e : TypeId} {sz : Nat} {x hi : Operand} {a : Option Addr} {n c : Nat} {k : IntKind} {i : Int} (ht : slT P tx = some (e, sz)) (hx : ev f x = .slice a n c) (hhi : ev f hi = .int k i) (h0 : 0 ≤ i) (h1 : i ≤ c) (hw : Want ops f g) (hd : Nat.blt d N = true)
    (h : JL q P N ds B H ops Q rest (upd f d (sliced a 0 i.toNat c sz)) bs gs) : JL q P N ds B H ops Q (⟨some d, .slice tx x none (some hi) none, t, p, af, g⟩ :: rest) f bs gs := by
  refine .val hw hd (fun w _ => ?_) h
  unfold slT at ht
  split at ht
  · rename_i e' hu
    split at ht
    · rename_i ti hti
      simp only [Option.some.injEq, Prod.mk.injEq] at ht
      obtain ⟨rfl, rfl⟩ := ht
      have hr := run_slice_h (P := P) w tx a n c (elemT hu).1 k i h0 h1
      rw [(elemT hu).2] at hr
      simp [execOp, hx, hhi, run_sliceAt_slice (P := P) w tx _ _ _ _ (elemT hu).1, hr, sizeOf, typeInfo, hti]
    · cases ht
  · cases ht
theorem JL.sliceL {tx e : TypeId} {sz : Nat} {x lo : Operand} {a : Option Addr} {n c : Nat} {k : IntKind} {i : Int} (ht : slT P tx = some (e, sz)) (hx : ev f x = .slice a n c) (hlo : ev f lo = .int k i) (h0 : 0 ≤ i) (h1 : i ≤ n) (hw : Want ops f g) (hd : Nat.blt d N = true)
    (h : JL q P N ds B H ops Q rest (upd f d (sliced a i.toNat n c sz)) bs gs) : JL q P N ds B H ops Q (⟨some d, .slice tx x (some lo) none none, t, p, af, g⟩ :: rest) f bs gs := by
  refine .val hw hd (fun w _ => ?_) h
  unfold slT at ht
  split at ht
  · rename_i e' hu
    split at ht
    · rename_i ti hti
      simp only [Option.some.injEq, Prod.mk.injEq] at ht
      obtain ⟨rfl, rfl⟩ := ht
      have hr := run_slice_l (P := P) w tx a n c (elemT hu).1 k i h0 h1
      rw [(elemT hu).2] at hr
      simp [execOp, hx, hlo, run_sliceAt_slice (P := P) w tx _ _ _ _ (elemT hu).1, hr, sizeOf, typeInfo, hti]
    · cases ht
  · cases ht
theorem JL.sliceLH {tx e : TypeId} {sz : Nat} {x lo hi : Operand} {a : Option Addr} {n c : Nat} {k k' : IntKind} {i j : Int} (ht : slT P tx = some (e, sz)) (hx : ev f x = .slice a n c) (hlo : ev f lo = .int k i) (hhi : ev f hi = .int k' j) (h0 : 0 ≤ i) (h1 : i ≤ j) (h2 : j ≤ c) (hw : Want ops f g) (hd : Nat.blt d N = true)
    (h : JL q P N ds B H ops Q rest (upd f d (sliced a i.toNat j.toNat c sz)) bs gs) : JL q P N ds B H ops Q (⟨some d, .slice tx x (some lo) (some hi) none, t, p, af, g⟩ :: rest) f bs gs := by
  refine .val hw hd (fun w _ => ?_) h
  unfold slT at ht
  split at ht
  · rename_i e' hu
    split at ht
    · rename_i ti hti
      simp only [Option.some.injEq, Prod.mk.injEq] at ht
      obtain ⟨rfl, rfl⟩ := ht
      have hr := run_slice_lh (P := P) w tx a n c (elemT hu).1 k k' i j h0 h1 h2
      rw [(elemT hu).2] at hr
      simp [execOp, hx, hlo, hhi, run_sliceAt_slice (P := P) w tx _ _ _ _ (elemT hu).1, hr, sizeOf, typeInfo, hti]
    · cases ht
  · cases ht
theorem JL.sliceLHM {tx e : TypeId} {sz : Nat} {x lo hi mx : Operand} {a : Option Addr} {n c : Nat} {k k' k2 : IntKind} {i j m : Int} (ht : slT P tx = some (e, sz)) (hx : ev f x = .slice a n c) (hlo : ev f lo = .int k i) (hhi : ev f hi = .int k' j) (hmx : ev f mx = .int k2 m) (h0 : 0 ≤ i) (h1 : i ≤ j) (h2 : j ≤ m) (h3 : m ≤ c) (hw : Want ops f g) (hd : Nat.blt d N = true)
    (h : JL q P N ds B H ops Q rest (upd f d (sliced a i.toNat j.toNat m.toNat sz)) bs gs) : JL q P N ds B H ops Q (⟨some d, .slice tx x (some lo) (some hi) (some mx), t, p, af, g⟩ :: rest) f bs gs := by
  refine .val hw hd (fun w _ => ?_) h
  unfold slT at ht
  split at ht
  · rename_i e' hu
    split at ht
    · rename_i ti hti
      simp only [Option.some.injEq, Prod.mk.injEq] at ht
      obtain ⟨rfl, rfl⟩ := ht
      have hr := run_slice_lhm (P := P) w tx a n c (elemT hu).1 k k' k2 i j m h0 h1 h2 h3
      rw [(elemT hu).2] at hr
      simp [execOp, hx, hlo, hhi, hmx, run_sliceAt_slice (P := P) w tx _ _ _ _ (elemT hu).1, hr, sizeOf, typeInfo, hti]
    · cases ht
  · cases ht
/-- a row of zeros is made by an append onto nothing -/
theorem JL.appendZ {tx tn e : TypeId} {sz by_ : Nat} {x y : Operand} {k kn : IntKind} {i : Int} (hA : apT P tx = some (e, sz, by_)) (htn : P.underlying tn = some (.int kn)) (hx : ev f x = .slice none 0 0) (hy : ev f y = .int k i) (h0 : 0 < i) (h1 : i ≤ 4294967296) (hw : Want ops f g) (hd : Nat.blt d N = true)
    (h : ∀ b cap xs, xs.length = i.toNat * sz → JL .plain P N ds B H ops Q rest (upd f d (.slice (some ⟨b, 0, none⟩) i.toNat cap)) bs (⟨.slice (some ⟨b, 0, none⟩) i.toNat cap, e, sz, i.toNat, xs⟩ :: gs)) : JL .plain P N ds B H ops Q (⟨some d, .call ⟨.builtin .append, #[x, y], #[tx, tn]⟩, t, p, af, g⟩ :: rest) f bs gs :=
  .step hw fun a w ha hs => by
    obtain ⟨ti, z, hu, hti, hz, hsz, hby, hzs, hpos, hb⟩ := apT_spec hA
    subst hsz
    subst hby
    have hi : (i.toNat : Int) = i := Int.toNat_of_nonneg (by omega)
    have hbyt : i.toNat * ti.bytes ≤ 140737488355328 := Nat.le_trans (Nat.mul_le_mul (show i.toNat ≤ 4294967296 by omega) hb) (by decide)
    have hr := Lib.run_append_nil_zeros (P := P) w tx tn t e ti z k kn hu htn hti hz i.toNat (by omega) hpos (by omega) (by omega)
    have h63 : i.toNat ≤ maxLen := by simp only [maxLen]; omega
    have hge := grownCap_ge w i.toNat 0 e
    have hcm := grownCap_le_maxLen w i.toNat 0 e h63
    have hlz : (Builtin.zeroCells z.cells i.toNat).size = i.toNat * ti.size := by rw [size_zeroCells, hzs]
    have hown : (w.drew.alloc (.cells (Builtin.zeroCells z.cells i.toNat ++ Builtin.zeroCells z.cells (grownCap w i.toNat 0 e - i.toNat)) e)).ownsRow B.w.heap.size e ti.size
        (.slice (some ⟨w.heap.size, 0, none⟩) i.toNat (grownCap w i.toNat 0 e)) i.toNat (Builtin.zeroCells z.cells i.toNat).toList := by
      refine ⟨by simpa using hlz, .inr ⟨w.heap.size, _, _, rfl, hs.below.size, heap_alloc_new w.drew _, hge, hcm, ?_, ?_⟩⟩
      · simp only [Array.size_append, size_zeroCells, hzs, ← Nat.add_mul]
        congr 1
        omega
      · simp only [Array.toList_append]
        have : i.toNat * ti.size = (Builtin.zeroCells z.cells i.toNat).toList.length := by simpa using hlz.symm
        rw [this]
        exact List.take_left
    unfold Oper.wp
    have hr' : (execOp (ev f) ⟨some d, .call ⟨.builtin .append, #[x, y], #[tx, tn]⟩, t, p, af, g⟩).run P w = .ok (.value (.slice (some ⟨w.heap.size, 0, none⟩) i.toNat (grownCap w i.toNat 0 e))) (w.drew.alloc (.cells (Builtin.zeroCells z.cells i.toNat ++ Builtin.zeroCells z.cells (grownCap w i.toNat 0 e - i.toNat)) e)) := by
      rw [hi] at hr
      simp [execOp, resolve, invoke, builtin, hx, hy, hr]
    rw [ha.eval, hr']
    have hst := hs.addRow (w' := w.drew.alloc (.cells (Builtin.zeroCells z.cells i.toNat ++ Builtin.zeroCells z.cells (grownCap w i.toNat 0 e - i.toNat)) e)) ⟨rfl, rfl, rfl, by simp, fun k hk _ => heap_alloc_old w.drew _ hk⟩ hown rfl
    exact h _ _ _ (by rw [Array.length_toList]; exact hlz) _ _ (ha.put hd _) hst
/-- the row is none of its elements -/
theorem JL.cutRow {gb cap n k' sz : Nat} {e : TypeId} {xs ys : List Value} {l : List Oper} (hx : xs.length = n * sz) (h : JL .plain P N ds B H ops Q l f bs (⟨.slice (some ⟨gb, 0, none⟩) n cap, e, sz, n, xs⟩ :: gs)) : JL .plain P N ds B H ops Q l f bs (⟨.slice (some ⟨gb, 0, none⟩) (n + k') cap, e, sz, n + k', xs ++ ys⟩ :: gs) := fun a w ha hs => h a w ha (hs.cut hx)
/-- an append of a row's own end onto its front -/
theorem JL.appendIn {tx e : TypeId} {sz by_ : Nat} {x y : Operand} {gb cap n i m c : Nat} {A : Addr} {j : Nat} {xs : List Value} (hA : apT P tx = some (e, sz, by_)) (hx : ev f x = .slice (some ⟨gb, 0, none⟩) i cap) (hy : ev f y = .slice (some A) m c) (hAj : m = 0 ∨ A = ⟨gb, j * sz, none⟩) (hi : i ≤ n) (hjm : j + m ≤ n) (him : i + m ≤ n) (h1 : AllOne xs) (hw : Want ops f g) (hd : Nat.blt d N = true)
    (h : JL .plain P N ds B H ops Q rest (upd f d (.slice (some ⟨gb, 0, none⟩) (i + m) cap)) bs (⟨.slice (some ⟨gb, 0, none⟩) (i + m) cap, e, sz, i + m, xs.take (i * sz) ++ (xs.drop (j * sz)).take (m * sz)⟩ :: gs)) :
    JL .plain P N ds B H ops Q (⟨some d, .call ⟨.builtin .append, #[x, y], #[tx, tx]⟩, t, p, af, g⟩ :: rest) f bs (⟨.slice (some ⟨gb, 0, none⟩) n cap, e, sz, n, xs⟩ :: gs) :=
  .step hw fun a w ha hs => by
    obtain ⟨ti, z, hu, hti, hz, hsz, hby, hzs, hpos, hb⟩ := apT_spec hA
    subst hsz
    obtain ⟨hxl, h2⟩ := hs.row _ List.mem_cons_self
    rcases h2 with ⟨h0, _⟩ | ⟨g', cap', cur, hv, hbg, hg, hnc, hcm, hcs, htake⟩
    · cases h0
    · cases hv
      simp only at hxl hg hnc hcs htake
      have hnews : ∀ t u, ((xs.drop (j * ti.size)).take (m * ti.size))[t]? = some u → w.cell? (A.add t) = some u := fun t u hu => by
        have hlt := (List.getElem?_eq_some_iff.1 hu).1
        rcases hAj with rfl | rfl
        · simp at hlt
        · rw [Addr.add_mid, cell_of_cells hg]
          have hmt : t < m * ti.size := by
            have := List.length_take_le (m * ti.size) (xs.drop (j * ti.size)); omega
          rw [List.getElem?_take, if_pos hmt, List.getElem?_drop, ← htake, List.getElem?_take] at hu
          split at hu
          · simpa using hu
          · cases hu
      have hjn : j * ti.size + m * ti.size ≤ n * ti.size := by rw [← Nat.add_mul]; exact Nat.mul_le_mul_right _ hjm
      have hlnews : ((xs.drop (j * ti.size)).take (m * ti.size)).length = m * ti.size := by simp; omega
      have hone : ∀ u ∈ (xs.drop (j * ti.size)).take (m * ti.size), u.oneCell' = true := fun u hu => h1 u (List.mem_of_mem_drop (List.mem_of_mem_take hu))
      have hcap : i + m ≤ cap := by omega
      have him' : i * ti.size + m * ti.size ≤ n * ti.size := by rw [← Nat.add_mul]; exact Nat.mul_le_mul_right _ him
      have hncs : n * ti.size ≤ cur.size := by rw [hcs]; exact Nat.mul_le_mul_right _ hnc
      have hfit : i * ti.size + ((xs.drop (j * ti.size)).take (m * ti.size)).length ≤ cur.size := by rw [hlnews]; omega
      have hr := run_append_room (P := P) w tx t e ti hu hti gb i cap cur hg A m c _ hlnews hnews hone hcap hfit
      unfold Oper.wp
      have hr' : (execOp (ev f) ⟨some d, .call ⟨.builtin .append, #[x, y], #[tx, tx]⟩, t, p, af, g⟩).run P w = .ok (.value (.slice (some ⟨gb, 0, none⟩) (i + m) cap)) (w.setRow gb (cur.toList.take (i * ti.size) ++ ((xs.drop (j * ti.size)).take (m * ti.size)) ++ cur.toList.drop (i * ti.size + ((xs.drop (j * ti.size)).take (m * ti.size)).length)).toArray) := by
        simp [execOp, resolve, invoke, builtin, hx, hy, hr]
      rw [ha.eval, hr']
      have htk : cur.toList.take (i * ti.size) = xs.take (i * ti.size) := by
        rw [← htake, List.take_take, Nat.min_eq_left (by rw [← Nat.add_mul] at him'; exact Nat.mul_le_mul_right _ hi)]
      have hlt : (xs.take (i * ti.size) ++ (xs.drop (j * ti.size)).take (m * ti.size)).length = (i + m) * ti.size := by rw [List.length_append, hlnews, List.length_take, Nat.add_mul]; omega
      generalize hcur : (cur.toList.take (i * ti.size) ++ ((xs.drop (j * ti.size)).take (m * ti.size)) ++ cur.toList.drop (i * ti.size + ((xs.drop (j * ti.size)).take (m * ti.size)).length)) = new
      have hst := hs.regrow (j := 0) (q := ⟨.slice (some ⟨gb, 0, none⟩) n cap, e, ti.size, n, xs⟩) (w' := w.setRow gb new.toArray) (v' := .slice (some ⟨gb, 0, none⟩) (i + m) cap) (n' := i + m) (xs' := xs.take (i * ti.size) ++ (xs.drop (j * ti.size)).take (m * ti.size)) rfl
        ⟨rfl, rfl, rfl, by simp, fun k _ hk => setRow_other w gb k _ (fun e => hk (by simp [Value.ownBlock, e]))⟩ ⟨hlt, .inr ⟨gb, cap, _, rfl, hbg, setRow_heap w gb cur _ e _ hg, hcap, hcm, ?_, ?_⟩⟩ (.inl rfl)
      · exact h _ _ (ha.put hd _) hst
      · rw [← hcur]
        simp only [List.size_toArray, List.length_append, List.length_take, List.length_drop, Array.length_toList, hlnews]
        omega
      · rw [← hcur, htk]
        simp only
        rw [← hlt]
        exact List.take_left
/-- what lies behind a row is cleared -/
theorem JL.clearTail {tx e : TypeId} {sz by_ : Nat} {x : Operand} {gb cap n m c : Nat} {xs zs : List Value} (hA : apT P tx = some (e, sz, by_)) (hz : zeroL P e = some zs) (hz1 : AllOne zs) (hx : ev f x = .slice (some ⟨gb, n * sz, none⟩) m c) (hm : 0 < m) (hcap : n + m ≤ cap) (hw : Want ops f g)
    (h : JL .plain P N ds B H ops Q rest f bs (⟨.slice (some ⟨gb, 0, none⟩) n cap, e, sz, n, xs⟩ :: gs)) :
    JL .plain P N ds B H ops Q (⟨none, .call ⟨.builtin .clear, #[x], #[tx]⟩, t, p, af, g⟩ :: rest) f bs (⟨.slice (some ⟨gb, 0, none⟩) n cap, e, sz, n, xs⟩ :: gs) :=
  .step hw fun a w ha hs => by
    obtain ⟨ti, z, hu, hti, hzz, hsz, hby, hzs, hpos, hb⟩ := apT_spec hA
    subst hsz
    obtain ⟨hxl, h2⟩ := hs.row _ List.mem_cons_self
    rcases h2 with ⟨h0, _⟩ | ⟨g', cap', cur, hv, hbg, hg, hnc, hcm, hcs, htake⟩
    · cases h0
    · cases hv
      simp only at hxl hg hnc hcs htake
      have hzv : ∀ w, (zeroValue e).run P w = .ok z w := fun w => by simp [zeroValue, typeInfo, hti, hzz]
      have hzl : zs = z.cells.toList := by
        unfold zeroL at hz
        rw [hti] at hz
        simp only [hzz, Option.map_some, Option.some.injEq] at hz
        rw [← hz, vcells_eq]
      have hlz : (Builtin.zeroCells z.cells m).toList.length = m * ti.size := by simp [size_zeroCells, hzs]
      have hone : ∀ u ∈ (Builtin.zeroCells z.cells m).toList, u.oneCell' = true := fun u hu => by
        simp only [Builtin.zeroCells, Array.toList_map, List.mem_map, Array.mem_toList_iff, Array.mem_range] at hu
        obtain ⟨k, _, rfl⟩ := hu
        have hk : k % z.cells.size < z.cells.size := Nat.mod_lt _ (by omega)
        rw [getElem!_pos z.cells _ hk]
        exact hz1 _ (by rw [hzl]; exact Array.mem_toList_iff.2 (Array.getElem_mem hk))
      have hfit : n * ti.size + 0 + (Builtin.zeroCells z.cells m).toList.length ≤ cur.size := by
        rw [hlz, Nat.add_zero, ← Nat.add_mul, hcs]; exact Nat.mul_le_mul_right _ hcap
      have hst := run_storeCells_at P gb (n * ti.size) e (Builtin.zeroCells z.cells m).toList 0 cur w hg hfit hone
      simp only [Nat.add_zero] at hst
      unfold Oper.wp
      have hr' : (execOp (ev f) ⟨none, .call ⟨.builtin .clear, #[x], #[tx]⟩, t, p, af, g⟩).run P w = .ok (.value (.tuple #[])) (w.setRow gb (cur.toList.take (n * ti.size) ++ (Builtin.zeroCells z.cells m).toList ++ cur.toList.drop (n * ti.size + (Builtin.zeroCells z.cells m).toList.length)).toArray) := by
        obtain ⟨m', rfl⟩ : ∃ m', m = m' + 1 := ⟨m - 1, by omega⟩
        simp [execOp, resolve, invoke, builtin, hx, Builtin.clear_, run_underlying hu, hzv, hst]
      rw [ha.eval, hr']
      generalize hcur : cur.toList.take (n * ti.size) ++ (Builtin.zeroCells z.cells m).toList ++ cur.toList.drop (n * ti.size + (Builtin.zeroCells z.cells m).toList.length) = new
      have hst := hs.regrow (j := 0) (q := ⟨.slice (some ⟨gb, 0, none⟩) n cap, e, ti.size, n, xs⟩) (w' := w.setRow gb new.toArray) (v' := .slice (some ⟨gb, 0, none⟩) n cap) (n' := n) (xs' := xs) rfl
        ⟨rfl, rfl, rfl, by simp, fun k _ hk => setRow_other w gb k _ (fun e => hk (by simp [Value.ownBlock, e]))⟩ ⟨hxl, .inr ⟨gb, cap, _, rfl, hbg, setRow_heap w gb cur _ e _ hg, hnc, hcm, ?_, ?_⟩⟩ (.inl rfl)
      · exact h a _ ha hst
      · rw [← hcur]
        simp only [List.size_toArray, List.length_append, List.length_take, List.length_drop, Array.length_toList, hlz]
        rw [Nat.add_zero, hlz] at hfit
        omega
      · rw [← hcur]
        have hle : n * ti.size ≤ cur.size := by rw [hcs]; exact Nat.mul_le_mul_right _ hnc
        have hl2 : (cur.toList.take (n * ti.size)).length = n * ti.size := by simp; omega
        simp only [List.append_assoc]
        rw [List.take_append_of_le_length (by omega), List.take_of_length_le (by omega)]
        exact htake
end
end Go.Dec
end
section
namespace Go.Dec
open Go Go.RowKit
abbrev Mx := List (List Bool)
/-- so many rows, and so many columns -/
structure Mok (W : Nat) (bl : List Nat) (M : Mx) : Prop where
  len : bl.length = M.length
  row : ∀ r ∈ M, r.length = W
/-- a row of a table, as it lies in the slice of rows -/
def RBk (W : Nat) : Rl Nat := fun _ cs b => cs = [.slice (some ⟨b, 0, none⟩) W W]
theorem RBk.mono {W : Nat} : Mono (RBk W) := fun _ _ _ _ _ h => h
theorem RBk.one {W : Nat} : ∀ (H : Hp) (cs : List Value) (x : Nat), RBk W H cs x → AllOne cs := by rintro H cs x rfl; exact one_cons rfl one_nil
theorem Mok.at {W : Nat} {bl : List Nat} {M : Mx} (h : Mok W bl M) {i : Int} {r : List Bool} (hr : geti M i = some r) : (∃ b, geti bl i = some b) ∧ r.length = W := by
  unfold geti at hr ⊢
  split at hr
  · rename_i h0
    have hlt := (List.getElem?_eq_some_iff.1 hr).1
    exact ⟨⟨_, by rw [if_pos h0]; exact List.getElem?_eq_getElem (by rw [h.len]; exact hlt)⟩, h.row r (List.mem_of_getElem? hr)⟩
  · cases hr
theorem Mok.set {W : Nat} {bl : List Nat} {M : Mx} (h : Mok W bl M) {i : Int} {r r' : List Bool} (hr : geti M i = some r) (hl : r'.length = r.length) : Mok W bl (setx M i r') := by
  refine ⟨by rw [setx_len]; exact h.len, fun x hx => ?_⟩
  rcases List.mem_or_eq_of_mem_set hx with h1 | h1
  · exact h.row x h1
  · rw [h1, hl]; exact (h.at hr).2
theorem Mok.nil {W : Nat} : Mok W [] [] := ⟨rfl, by simp⟩
theorem Mok.snoc {W : Nat} {bl : List Nat} {M : Mx} (h : Mok W bl M) (b : Nat) {r : List Bool} (hr : r.length = W) : Mok W (bl ++ [b]) (M ++ [r]) := by
  refine ⟨by simp [h.len], fun x hx => ?_⟩
  rcases List.mem_append.1 hx with h1 | h1
  · exact h.row x h1
  · rw [List.mem_singleton.1 h1]; exact hr
section
variable {q : Md} {P : Program} {ro : Option Nat} {N : Nat} {ds : List Deferred} {B : Bs} {H : Hp} {ops : List Oper} {Q : Exit → Act → World → Prop} {rest : List Oper} {f : Nat → Value} {bs : List (Nat × Obj)} {gs : List GS}
variable {d : Nat} {t : TypeId} {p : String} {af : Array Edge} {g : Option (Nat × Bool)}
theorem geti_at {α : Type} {l : List α} {i : Int} {x : α} (h : geti l i = some x) : l[i.toNat]? = some x := by
  unfold geti at h
  split at h
  · exact h
  · cases h
end
end Go.Dec
end
section
namespace Go.Dec
open Go Go.RowKit
theorem Mok.grow {W : Nat} {bl : List Nat} {M l : Mx} (h : Mok W bl M) (b : Nat) {r : List Bool} (hr : r.length = W) (hl : lim (M ++ [r]) = some l) : Mok W (bl ++ [b]) l := by
  obtain ⟨rfl, _⟩ := lim_some hl
  exact h.snoc b hr
section
variable {q : Md} {P : Program} {ro : Option Nat} {N : Nat} {ds : List Deferred} {B : Bs} {H : Hp} {ops : List Oper} {Q : Exit → Act → World → Prop} {rest : List Oper} {f : Nat → Value} {bs : List (Nat × Obj)} {gs : List GS}
variable {d : Nat} {t : TypeId} {p : String} {af : Array Edge} {g : Option (Nat × Bool)}
end
end Go.Dec
end
section
set_option maxRecDepth 100000
set_option maxHeartbeats 40000000
namespace Go.Dec
open Go Go.RowKit
section
variable {q : Md} {P : Program} {ro : Option Nat} {N : Nat} {ds : List Deferred} {B : Bs} {H : Hp} {ops : List Oper} {Q : Exit → Act → World → Prop} {rest : List Oper} {f : Nat → Value} {bs : List (Nat × Obj)} {gs : List GS}
variable {d : Nat} {t : TypeId} {p : String} {af : Array Edge} {g : Option (Nat × Bool)}
theorem JL.nilG {l : List Oper} (h : JL q P N ds B H ops Q l f bs gs) : JL q P N ds B H ops Q l f bs (gs ++ []) := by rw [List.append_nil]; exact h
theorem JL.gsN {l : List Oper} {v : Value} {e : TypeId} {sz n : Nat} {xs : List Value} (m : Nat) (hn : n = m) (h : JL q P N ds B H ops Q l f bs (⟨v, e, sz, m, xs⟩ :: gs)) : JL q P N ds B H ops Q l f bs (⟨v, e, sz, n, xs⟩ :: gs) := by subst hn; exact h
theorem JQ.permG {e : Exit} {gs' : List GS} (hp : gs.Perm gs') (h : JQ N ds B H e Q f bs gs') : JQ N ds B H e Q f bs gs := fun hQ a w ha hs => h hQ a w ha (hs.permG hp)
end
def rxV (gl : List GS) : List Value := gl.map (·.v)
/-- gl: the rows' own slices; L: what lies in them -/
structure Rx {β : Type} (H : Hp) (sz : Nat) (e : TypeId) (R : Rl β) (gl : List GS) (L : List (List β)) : Prop where
  len : gl.length = L.length
  row : ∀ (i : Nat) (g : GS) (l : List β), gl[i]? = some g → L[i]? = some l → g.e = e ∧ g.sz = sz ∧ g.n = l.length ∧ CH H sz R g.xs l
section
variable {β : Type} {H : Hp} {sz : Nat} {e : TypeId} {R : Rl β} {gl : List GS} {L : List (List β)}
theorem Rx.mono {H' : Hp} (hR : Mono R) (hs : HSub H H') (h : Rx H sz e R gl L) : Rx H' sz e R gl L := ⟨h.len, fun i g l h1 h2 => let ⟨k1, k2, k3, k4⟩ := h.row i g l h1 h2; ⟨k1, k2, k3, CH.mono hR hs k4⟩⟩
theorem Rx.nil : Rx H sz e R [] [] := ⟨rfl, fun i g l h => by simp at h⟩
theorem Rx.snoc (h : Rx H sz e R gl L) {g : GS} {l : List β} (h1 : g.e = e) (h2 : g.sz = sz) (h3 : g.n = l.length) (h4 : CH H sz R g.xs l) : Rx H sz e R (gl ++ [g]) (L ++ [l]) := by
  have hl := h.len
  refine ⟨by simp [hl], fun i g' l' k1 k2 => ?_⟩
  by_cases hi : i < gl.length
  · rw [List.getElem?_append_left hi] at k1
    rw [List.getElem?_append_left (by omega)] at k2
    exact h.row i g' l' k1 k2
  · have hlt := (List.getElem?_eq_some_iff.1 k1).1
    simp only [List.length_append, List.length_cons, List.length_nil] at hlt
    have hi : i = gl.length := by omega
    subst hi
    rw [List.getElem?_append_right (by omega), Nat.sub_self] at k1
    rw [List.getElem?_append_right (by omega), hl, Nat.sub_self] at k2
    cases k1; cases k2
    exact ⟨h1, h2, h3, h4⟩
theorem Rx.at (h : Rx H sz e R gl L) {i : Int} {l : List β} (hl : geti L i = some l) : ∃ g, geti gl i = some g := by
  unfold geti at hl ⊢
  split at hl
  · rename_i h0
    rw [if_pos h0]
    have := (List.getElem?_eq_some_iff.1 hl).1
    have := h.len
    exact ⟨_, List.getElem?_eq_getElem (by omega)⟩
  · cases hl
theorem Rx.get (h : Rx H sz e R gl L) {i : Int} {g : GS} {l : List β} (hg : geti gl i = some g) (hl : geti L i = some l) : g.e = e ∧ g.sz = sz ∧ g.n = l.length ∧ CH H sz R g.xs l := h.row _ _ _ (geti_at hg) (geti_at hl)
theorem Rx.lenV (h : Rx H sz e R gl L) : L.length = (rxV gl).length := by simp [rxV, h.len]
theorem rxV_at {i : Int} {g : GS} (h : geti gl i = some g) : geti (rxV gl) i = some g.v := by
  unfold geti at h ⊢
  split at h
  · rename_i h0
    rw [if_pos h0]
    unfold rxV
    rw [List.getElem?_map, h]; rfl
  · cases h
theorem rxV_set {i : Nat} {g g' : GS} (h : gl[i]? = some g) (hv : g'.v = g.v) : rxV (gl.set i g') = rxV gl := by
  unfold rxV
  rw [List.map_set, hv]
  refine List.ext_getElem? fun j => ?_
  rw [List.getElem?_set]
  split
  · rename_i e
    subst e
    rw [List.getElem?_map, h]
    simp only [List.length_map, Option.map_some, (List.getElem?_eq_some_iff.1 h).1, if_true]
  · rfl
theorem Rx.set (h : Rx H sz e R gl L) {i : Int} {g g' : GS} {l l' : List β} (hg : geti gl i = some g) (hl : geti L i = some l) (h1 : g'.e = g.e) (h2 : g'.sz = g.sz) (h3 : g'.n = l'.length) (h4 : CH H sz R g'.xs l') : Rx H sz e R (gl.set i.toNat g') (setx L i l') := by
  have hlen := h.len
  refine ⟨by simp [setx, hlen], fun j k m k1 k2 => ?_⟩
  unfold setx at k2
  rw [List.getElem?_set] at k1 k2
  split at k1
  · rename_i ej
    subst ej
    obtain ⟨a1, a2, _, _⟩ := h.get hg hl
    have b1 := (List.getElem?_eq_some_iff.1 (geti_at hg)).1
    have b2 := (List.getElem?_eq_some_iff.1 (geti_at hl)).1
    rw [if_pos b1] at k1
    rw [if_pos rfl, if_pos b2] at k2
    cases k1; cases k2
    exact ⟨h1.trans a1, h2.trans a2, h3, h4⟩
  · rename_i ej
    rw [if_neg ej] at k2
    exact h.row j k m k1 k2
theorem rx_lim {α : Type} {gl : List GS} {o l : List α} {v : Value} {x : α} (hl : gl.length = o.length) (h : lim (o ++ [x]) = some l) : lim (rxV gl ++ [v]) = some (rxV gl ++ [v]) := by
  obtain ⟨_, h2⟩ := lim_some h
  unfold lim
  rw [if_pos]
  simp only [List.length_append, List.length_cons, List.length_nil, rxV, List.length_map] at h2 ⊢
  omega
theorem rx_grow {gl : List GS} {g : GS} {v x : Value} {ep : TypeId} {k : Nat} (hx : x = g.v) (hk : k = (rxV gl ++ [x]).length) : (g :: ⟨v, ep, 1, (rxV gl ++ [x]).length, rxV gl ++ [x]⟩ :: gl).Perm (⟨v, ep, 1, k, rxV (gl ++ [g])⟩ :: (gl ++ [g])) := by
  subst hx; subst hk
  have e : rxV (gl ++ [g]) = rxV gl ++ [g.v] := by simp [rxV]
  rw [e]
  refine (List.Perm.swap _ _ _).trans (List.Perm.cons _ ?_)
  exact (List.perm_append_singleton _ _).symm
end
section
variable {q : Md} {P : Program} {ro : Option Nat} {N : Nat} {ds : List Deferred} {B : Bs} {H : Hp} {ops : List Oper} {Q : Exit → Act → World → Prop} {rest : List Oper} {f : Nat → Value} {bs : List (Nat × Obj)} {gs : List GS}
variable {d : Nat} {t : TypeId} {p : String} {af : Array Edge} {g : Option (Nat × Bool)}
theorem JL.storeRx {β : Type} {R : Rl β} {vp : Value} {ep e : TypeId} {gl : List GS} {L : List (List β)} {i k : Int} {row : List β} {y y' : β} {gq : GS} {b kk off sz n : Nat} {r : Bool} {tx : TypeId} {x u : Operand} {cs : List Value} (hok : Rx H sz e R gl L) (hg : geti gl i = some gq) (hrow : geti L i = some row)
    (hz : aggsz P tx = some (r, n)) (hx : ev f x = .pointer (some ⟨b, kk, none⟩)) (hk : kk = 0 + k.toNat * sz + off) (hu : vcells (ev f u) = cs) (hn : cs.length = n) (h1 : AllOne cs) (hb : gq.v.ownBlock = some b) (hy : geti row k = some y) (hoff : Nat.ble (off + n) sz = true) (hR : ∀ cs', R H cs' y → R H (putC cs' off cs) y') (hw : Want ops f g)
    (h : ∀ gl', Rx H sz e R gl' (setx L i (setx row k y')) → JL .plain P N ds B H ops Q rest f bs (⟨vp, ep, 1, (setx L i (setx row k y')).length, rxV gl'⟩ :: gl')) : JL .plain P N ds B H ops Q (⟨none, .store tx x u, t, p, af, g⟩ :: rest) f bs (⟨vp, ep, 1, L.length, rxV gl⟩ :: gl) := by
  obtain ⟨_, _, h3, h4⟩ := hok.get hg hrow
  refine JL.storeG (R := R) (gq := gq) (i.toNat + 1) hz hx hk hu hn h1 (geti_at hg) hb h4 h3 hy hoff hR hw fun xs' hxs => ?_
  have := h (gl.set i.toNat ⟨gq.v, gq.e, gq.sz, (setx row k y').length, xs'⟩) (hok.set hg hrow rfl rfl rfl hxs)
  rw [rxV_set (g' := ⟨gq.v, gq.e, gq.sz, (setx row k y').length, xs'⟩) (geti_at hg) rfl, setx_len] at this
  exact this
theorem St.freezeL {β : Type} {R : Rl β} {sz : Nat} {e : TypeId} (hR : Mono R) {w : World} : ∀ (gl : List GS) (L : List (List β)) (H : Hp) (gs : List GS), Rx H sz e R gl L → St B H bs (gl ++ gs) w → ∃ H', HSub H H' ∧ (∀ (i : Nat) (g : GS) (l : List β), gl[i]? = some g → L[i]? = some l → SL H' sz R g.v l) ∧ St B H' bs gs w
  | [], [], H, gs, _, h => ⟨H, HSub.refl _, fun i g l k => by simp at k, h⟩
  | [], _ :: _, _, _, h, _ => by have := h.len; simp at this
  | _ :: _, [], _, _, h, _ => by have := h.len; simp at this
  | g :: gl, l :: L, H, gs, hx, h => by
    obtain ⟨_, h2, h3, h4⟩ := hx.row 0 g l rfl rfl
    subst h2
    obtain ⟨H1, s1, k1, h1⟩ := h.freezeG (j := 0) (R := R) rfl hR h4 h3
    have hx' : Rx H1 g.sz e R gl L := Rx.mono hR s1 ⟨by have := hx.len; simpa using this, fun i g' l' a1 a2 => hx.row (i + 1) g' l' (by simpa using a1) (by simpa using a2)⟩
    obtain ⟨H2, s2, k2, h5⟩ := St.freezeL hR gl L H1 gs hx' h1
    refine ⟨H2, s1.trans s2, fun i g' l' a1 a2 => ?_, h5⟩
    cases i with
    | zero => cases a1; cases a2; exact SL.mono hR s2 k1
    | succ i => exact k2 i g' l' (by simpa using a1) (by simpa using a2)
/-- the rows, and the slice of rows, are data from now on -/
theorem JC.freezeRx {α β : Type} {R : Rl β} {RP : Rl α} (mk : List β → α) {vp : Value} {ep e : TypeId} {gl : List GS} {L : List (List β)} {sz : Nat} {c : Code} (hR : Mono R) (hP : Mono RP) (hmk : ∀ H v l, SL H sz R v l → RP H [v] (mk l)) (hok : Rx H sz e R gl L)
    (h : ∀ H', HSub H H' → SL H' 1 RP vp (L.map mk) → JC P ro N ds B H' c Q f bs []) : JC P ro N ds B H c Q f bs (⟨vp, ep, 1, L.length, rxV gl⟩ :: gl) := fun hQ a w ha hs => by
  have hs' : St B H bs (gl ++ [⟨vp, ep, 1, L.length, rxV gl⟩]) w := hs.permG (List.perm_append_singleton _ _).symm
  obtain ⟨H1, s1, k1, h1⟩ := St.freezeL hR gl L H _ hok hs'
  have hl := hok.len
  have hch : CH H1 1 RP (rxV gl) (L.map mk) := by
    refine ⟨by simp [rxV, hl], fun i x hx => ?_⟩
    rw [List.getElem?_map] at hx
    obtain ⟨l, hl', rfl⟩ := Option.map_eq_some_iff.1 hx
    obtain ⟨g, hg⟩ : ∃ g, gl[i]? = some g := ⟨_, List.getElem?_eq_getElem (by have := (List.getElem?_eq_some_iff.1 hl').1; omega)⟩
    refine ⟨[g.v], rfl, hmk _ _ _ (k1 i g l hg hl'), fun j v hv => ?_⟩
    have hj : j = 0 := by
      have := (List.getElem?_eq_some_iff.1 hv).1
      simp only [List.length_cons, List.length_nil] at this; omega
    subst hj
    simp only [List.getElem?_cons_zero, Option.some.injEq] at hv
    subst hv
    simp [rxV, hg]
  obtain ⟨H2, s2, k2, h2⟩ := h1.freezeG (j := 0) (R := RP) (l := L.map mk) rfl hP hch (by simp)
  exact h H2 (s1.trans s2) k2 hQ a w ha h2
end
end Go.Dec
end
section
namespace Go.Proofs.Ytflhjlgimihmgaa
open Go Go.RowKit Go.Dec
set_option linter.unusedVariables false
structure Cell where
 Row : Int
 Col : Int
structure Span where
 Low : Int
 High : Int
structure Panel where
 Rows : List Span
structure Lap where
 Width : Int
 Length : Int
 Faults : List Cell
 Flaws : List Cell
 Panels : List Panel
structure Place where
 Row : Int
 Col : Int
 Turned : Int
structure law03_Turn where
 By : Int
 Panel : Int
def R_Cell : Rl Cell := fun _ cs x => cs = [.int .i64 x.Row, .int .i64 x.Col]
theorem R_Cell_mono : Mono R_Cell := fun _ _ _ _ _ h => h
theorem R_Cell_one : ∀ (H : Hp) (cs : List Value) (x : Cell), R_Cell H cs x → AllOne cs := by
 rintro H cs x rfl
 exact (one_cons rfl (one_cons rfl one_nil))
def R_Span : Rl Span := fun _ cs x => cs = [.int .i64 x.Low, .int .i64 x.High]
theorem R_Span_mono : Mono R_Span := fun _ _ _ _ _ h => h
theorem R_Span_one : ∀ (H : Hp) (cs : List Value) (x : Span), R_Span H cs x → AllOne cs := by
 rintro H cs x rfl
 exact (one_cons rfl (one_cons rfl one_nil))
def R_Panel : Rl Panel := fun H cs x => ∃ v0 : Value, cs = [v0] ∧ SL H 2 R_Span v0 x.Rows
theorem R_Panel_mono : Mono R_Panel := by
 rintro H H' h cs x ⟨v0, hcs, h0⟩
 exact ⟨v0, hcs, SL.mono R_Span_mono h h0⟩
def R_Lap : Rl Lap := fun H cs x => ∃ v2 v3 v4 : Value, cs = [.int .i64 x.Width, .int .i64 x.Length, v2, v3, v4] ∧ SL H 2 R_Cell v2 x.Faults ∧ SL H 2 R_Cell v3 x.Flaws ∧ SL H 1 R_Panel v4 x.Panels
def R_Place : Rl Place := fun _ cs x => cs = [.int .i64 x.Row, .int .i64 x.Col, .int .i64 x.Turned]
theorem R_Place_mono : Mono R_Place := fun _ _ _ _ _ h => h
def R_law03_Turn : Rl law03_Turn := fun _ cs x => cs = [.int .i64 x.By, .int .i64 x.Panel]
def str_0 : ByteArray := ⟨#[0, 1, 1, 2, 1, 2, 2, 3, 1, 2, 2, 3, 2, 3, 3, 4, 1, 2, 2, 3, 2, 3, 3, 4, 2, 3, 3, 4, 3, 4, 4, 5, 1, 2, 2, 3, 2, 3, 3, 4, 2, 3, 3, 4, 3, 4, 4, 5, 2, 3, 3, 4, 3, 4, 4, 5, 3, 4, 4, 5, 4, 5, 5, 6, 1, 2, 2, 3, 2, 3, 3, 4, 2, 3, 3, 4, 3, 4, 4, 5, 2, 3, 3, 4, 3, 4, 4, 5, 3, 4, 4, 5, 4, 5, 5, 6, 2, 3, 3, 4, 3, 4, 4, 5, 3, 4, 4, 5, 4, 5, 5, 6, 3, 4, 4, 5, 4, 5, 5, 6, 4, 5, 5, 6, 5, 6, 6, 7, 1, 2, 2, 3, 2, 3, 3, 4, 2, 3, 3, 4, 3, 4, 4, 5, 2, 3, 3, 4, 3, 4, 4, 5, 3, 4, 4, 5, 4, 5, 5, 6, 2, 3, 3, 4, 3, 4, 4, 5, 3, 4, 4, 5, 4, 5, 5, 6, 3, 4, 4, 5, 4, 5, 5, 6, 4, 5, 5, 6, 5, 6, 6, 7, 2, 3, 3, 4, 3, 4, 4, 5, 3, 4, 4, 5, 4, 5, 5, 6, 3, 4, 4, 5, 4, 5, 5, 6, 4, 5, 5, 6, 5, 6, 6, 7, 3, 4, 4, 5, 4, 5, 5, 6, 4, 5, 5, 6, 5, 6, 6, 7, 4, 5, 5, 6, 5, 6, 6, 7, 5, 6, 6, 7, 6, 7, 7, 8]⟩
theorem en_70 : Ent Try.prog 70 := enters_of Try.func70 (by kernel_rfl) rfl
theorem fo_27_0 : fieldOff Try.prog 27 0 = some 0 := by kernel_rfl
theorem az_3 : aggsz Try.prog 3 = some (false, 1) := by kernel_rfl
theorem fo_25_1 : fieldOff Try.prog 25 1 = some 1 := by kernel_rfl
theorem en_51 : Ent Try.prog 51 := enters_of Try.func51 (by kernel_rfl) rfl
theorem fo_27_1 : fieldOff Try.prog 27 1 = some 1 := by kernel_rfl
theorem fo_25_0 : fieldOff Try.prog 25 0 = some 0 := by kernel_rfl
theorem ul_22 : Try.prog.underlying 22 = some (.slice 27) := by kernel_rfl
theorem sl_22 : slT Try.prog 22 = some (27, 2) := by kernel_rfl
theorem az_27 : aggsz Try.prog 27 = some (true, 2) := by kernel_rfl
theorem eqa_27 (a0 a1 b0 b1 : Int) (w : World) : (Op.equal 27 (.agg [.int .i64 a0, .int .i64 a1].toArray) (.agg [.int .i64 b0, .int .i64 b1].toArray)).run Try.prog w = .ok ((a0 == b0) && (a1 == b1)) w := by
 have h := run_equalIn_struct (P := Try.prog) w 9999 27 #[.int .i64 a0, .int .i64 a1] #[.int .i64 b0, .int .i64 b1] (by kernel_rfl) (by kernel_rfl)
 have h2 : (Op.eqFields 9999 #[.int .i64 a0, .int .i64 a1] #[.int .i64 b0, .int .i64 b1] (Try.prog.fieldsOf 27).toList).run Try.prog w = .ok ((a0 == b0) && (a1 == b1)) w := by
  cases e0 : (a0 == b0)
  ·simp [go_sem, Program.fieldsOf, e0]
  cases e1 : (a1 == b1)
  ·simp [go_sem, Program.fieldsOf, e0, e1]
  simp [go_sem, Program.fieldsOf, e0, e1]
 exact h.trans h2
theorem eqg_27 : Try.prog.eqGuardType Try.prog.depth 27 = false := by kernel_rfl
theorem mo_ : Try.prog.follows .mixedOrders = true := by kernel_rfl
theorem az_25 : aggsz Try.prog 25 = some (true, 5) := by kernel_rfl
theorem en_52 : Ent Try.prog 52 := enters_of Try.func52 (by kernel_rfl) rfl
theorem en_53 : Ent Try.prog 53 := enters_of Try.func53 (by kernel_rfl) rfl
theorem fo_30_0 : fieldOff Try.prog 30 0 = some 0 := by kernel_rfl
theorem az_28 : aggsz Try.prog 28 = some (false, 1) := by kernel_rfl
theorem ul_28 : Try.prog.underlying 28 = some (.slice 46) := by kernel_rfl
theorem sl_28 : slT Try.prog 28 = some (46, 2) := by kernel_rfl
theorem fo_46_0 : fieldOff Try.prog 46 0 = some 0 := by kernel_rfl
theorem fo_46_1 : fieldOff Try.prog 46 1 = some 1 := by kernel_rfl
theorem fo_25_2 : fieldOff Try.prog 25 2 = some 2 := by kernel_rfl
theorem az_22 : aggsz Try.prog 22 = some (false, 1) := by kernel_rfl
theorem en_63 : Ent Try.prog 63 := enters_of Try.func63 (by kernel_rfl) rfl
theorem fo_25_3 : fieldOff Try.prog 25 3 = some 3 := by kernel_rfl
theorem fo_25_4 : fieldOff Try.prog 25 4 = some 4 := by kernel_rfl
theorem az_23 : aggsz Try.prog 23 = some (false, 1) := by kernel_rfl
theorem ul_23 : Try.prog.underlying 23 = some (.slice 30) := by kernel_rfl
theorem sl_23 : slT Try.prog 23 = some (30, 1) := by kernel_rfl
theorem az_30 : aggsz Try.prog 30 = some (true, 1) := by kernel_rfl
theorem en_64 : Ent Try.prog 64 := enters_of Try.func64 (by kernel_rfl) rfl
theorem en_34 : Ent Try.prog 34 := enters_of Try.func34 (by kernel_rfl) rfl
theorem en_27 : Ent Try.prog 27 := enters_of Try.func27 (by kernel_rfl) rfl
theorem ze_25 : zeroL Try.prog 25 = some [.int .i64 0, .int .i64 0, .slice none 0 0, .slice none 0 0, .slice none 0 0] := by kernel_rfl
theorem ul_108 : Try.prog.underlying 108 = some (.slice 22) := by kernel_rfl
theorem sl_108 : slT Try.prog 108 = some (22, 1) := by kernel_rfl
theorem en_74 : Ent Try.prog 74 := enters_of Try.func74 (by kernel_rfl) rfl
theorem ap_22 : apT Try.prog 22 = some (27, 2, 16) := by kernel_rfl
theorem en_75 : Ent Try.prog 75 := enters_of Try.func75 (by kernel_rfl) rfl
theorem en_48 : Ent Try.prog 48 := enters_of Try.func48 (by kernel_rfl) rfl
theorem az_46 : aggsz Try.prog 46 = some (true, 2) := by kernel_rfl
theorem ze_46 : zeroL Try.prog 46 = some [.int .i64 0, .int .i64 0] := by kernel_rfl
theorem en_62 : Ent Try.prog 62 := enters_of Try.func62 (by kernel_rfl) rfl
theorem en_59 : Ent Try.prog 59 := enters_of Try.func59 (by kernel_rfl) rfl
theorem ze_27 : zeroL Try.prog 27 = some [.int .i64 0, .int .i64 0] := by kernel_rfl
theorem mp_98 : mpT Try.prog 98 = some (27, 3) := by kernel_rfl
theorem laid_ : laidOutB Try.prog = true := by kernel_rfl
theorem kt_27 : KT Try.prog 27 2 ekA := KT.agg laid_ (by kernel_rfl) (by kernel_rfl) (by kernel_rfl) (by kernel_rfl)
theorem en_61 : Ent Try.prog 61 := enters_of Try.func61 (by kernel_rfl) rfl
theorem en_60 : Ent Try.prog 60 := enters_of Try.func60 (by kernel_rfl) rfl
theorem ze_85 : zeroL Try.prog 85 = some [.int .u16 0, .int .u16 0, .int .u16 0, .int .u16 0, .int .u16 0, .int .u16 0, .int .u16 0, .int .u16 0, .int .u16 0, .int .u16 0, .int .u16 0, .int .u16 0] := by kernel_rfl
theorem ar_85 : arrT Try.prog 85 = some (83, 12) := by kernel_rfl
theorem az_83 : aggsz Try.prog 83 = some (false, 1) := by kernel_rfl
theorem az_85 : aggsz Try.prog 85 = some (true, 12) := by kernel_rfl
theorem ze_3 : zeroL Try.prog 3 = some [.int .i64 0] := by kernel_rfl
theorem ze_28 : zeroL Try.prog 28 = some [.slice none 0 0] := by kernel_rfl
theorem en_77 : Ent Try.prog 77 := enters_of Try.func77 (by kernel_rfl) rfl
theorem ap_28 : apT Try.prog 28 = some (46, 2, 16) := by kernel_rfl
theorem en_80 : Ent Try.prog 80 := enters_of Try.func80 (by kernel_rfl) rfl
theorem fo_106_2 : fieldOff Try.prog 106 2 = some 6 := by kernel_rfl
theorem fo_106_0 : fieldOff Try.prog 106 0 = some 0 := by kernel_rfl
theorem fo_62_2 : fieldOff Try.prog 62 2 = some 2 := by kernel_rfl
theorem en_71 : Ent Try.prog 71 := enters_of Try.func71 (by kernel_rfl) rfl
theorem fo_62_0 : fieldOff Try.prog 62 0 = some 0 := by kernel_rfl
theorem fo_62_1 : fieldOff Try.prog 62 1 = some 1 := by kernel_rfl
theorem fo_106_1 : fieldOff Try.prog 106 1 = some 5 := by kernel_rfl
theorem fo_106_3 : fieldOff Try.prog 106 3 = some 18 := by kernel_rfl
theorem az_54 : aggsz Try.prog 54 = some (false, 1) := by kernel_rfl
theorem az_62 : aggsz Try.prog 62 = some (true, 3) := by kernel_rfl
theorem ap_54 : apT Try.prog 54 = some (62, 3, 24) := by kernel_rfl
theorem ul_54 : Try.prog.underlying 54 = some (.slice 62) := by kernel_rfl
theorem az_106 : aggsz Try.prog 106 = some (true, 19) := by kernel_rfl
theorem ze_106 : zeroL Try.prog 106 = some [.int .i64 0, .int .i64 0, .slice none 0 0, .slice none 0 0, .slice none 0 0, .int .i64 0, .int .u16 0, .int .u16 0, .int .u16 0, .int .u16 0, .int .u16 0, .int .u16 0, .int .u16 0, .int .u16 0, .int .u16 0, .int .u16 0, .int .u16 0, .int .u16 0, .slice none 0 0] := by kernel_rfl
theorem en_68 : Ent Try.prog 68 := enters_of Try.func68 (by kernel_rfl) rfl
theorem en_69 : Ent Try.prog 69 := enters_of Try.func69 (by kernel_rfl) rfl
theorem en_33 : Ent Try.prog 33 := enters_of Try.func33 (by kernel_rfl) rfl
theorem en_45 : Ent Try.prog 45 := enters_of Try.func45 (by kernel_rfl) rfl
theorem en_44 : Ent Try.prog 44 := enters_of Try.func44 (by kernel_rfl) rfl
theorem en_43 : Ent Try.prog 43 := enters_of Try.func43 (by kernel_rfl) rfl
theorem en_14 : Ent Try.prog 14 := enters_of Try.func14 (by kernel_rfl) rfl
theorem en_47 : Ent Try.prog 47 := enters_of Try.func47 (by kernel_rfl) rfl
theorem en_46 : Ent Try.prog 46 := enters_of Try.func46 (by kernel_rfl) rfl
theorem ap_48 : apT Try.prog 48 = some (3, 1, 8) := by kernel_rfl
theorem un_9 : Try.prog.underlying 9 = some .string := by kernel_rfl
theorem un_5 : Try.prog.underlying 5 = some (.int .u8) := by kernel_rfl
theorem un_3 : Try.prog.underlying 3 = some (.int .i64) := by kernel_rfl
theorem ul_90 : Try.prog.underlying 90 = some (.slice 83) := by kernel_rfl
theorem sl_90 : slT Try.prog 90 = some (83, 1) := by kernel_rfl
theorem en_49 : Ent Try.prog 49 := enters_of Try.func49 (by kernel_rfl) rfl
theorem en_42 : Ent Try.prog 42 := enters_of Try.func42 (by kernel_rfl) rfl
theorem en_17 : Ent Try.prog 17 := enters_of Try.func17 (by kernel_rfl) rfl
theorem en_18 : Ent Try.prog 18 := enters_of Try.func18 (by kernel_rfl) rfl
theorem en_22 : Ent Try.prog 22 := enters_of Try.func22 (by kernel_rfl) rfl
theorem ul_48 : Try.prog.underlying 48 = some (.slice 3) := by kernel_rfl
theorem sl_48 : slT Try.prog 48 = some (3, 1) := by kernel_rfl
theorem ap_23 : apT Try.prog 23 = some (30, 1, 24) := by kernel_rfl
theorem en_19 : Ent Try.prog 19 := enters_of Try.func19 (by kernel_rfl) rfl
theorem en_10 : Ent Try.prog 10 := enters_of Try.func10 (by kernel_rfl) rfl
theorem fo_42_0 : fieldOff Try.prog 42 0 = some 0 := by kernel_rfl
theorem en_11 : Ent Try.prog 11 := enters_of Try.func11 (by kernel_rfl) rfl
theorem en_12 : Ent Try.prog 12 := enters_of Try.func12 (by kernel_rfl) rfl
theorem en_15 : Ent Try.prog 15 := enters_of Try.func15 (by kernel_rfl) rfl
theorem en_16 : Ent Try.prog 16 := enters_of Try.func16 (by kernel_rfl) rfl
theorem fo_42_1 : fieldOff Try.prog 42 1 = some 1 := by kernel_rfl
theorem en_13 : Ent Try.prog 13 := enters_of Try.func13 (by kernel_rfl) rfl
end Go.Proofs.Ytflhjlgimihmgaa
end
section
set_option maxRecDepth 100000
set_option maxHeartbeats 40000000
namespace Go.Proofs.Ytflhjlgimihmgaa
open Go Go.RowKit Go.Dec
set_option linter.unusedVariables false
theorem mz_sl : slT Try.prog 28 = some (46, 2) := by kernel_rfl
theorem mz_azs : aggsz Try.prog 28 = some (false, 1) := by kernel_rfl
theorem mz_aze : aggsz Try.prog 46 = some (true, 2) := by kernel_rfl
theorem mz_ul : Try.prog.underlying 28 = some (.slice 46) := by kernel_rfl
def I_slices_Backward___api_Span_api_Span__1_s {σ ρ : Type} (l : List Span) (cs : σ → Int × Span → Option (σ ⊕ ρ)) : Int × σ → Option ((Int × σ) ⊕ (σ ⊕ ρ))
  | (i, s) => if decide (0 ≤ i) = true then ((geti l i).bind fun x => (cs s (i, x)).bind fun y => match y with | .inl s' => some (.inl (w64 (i - 1), s')) | .inr e => some (.inr (.inr e))) else some (.inr (.inl s))
def I_slices_Backward___api_Span_api_Span__1 {σ ρ : Type} (n : Nat) (l : List Span) (cs : σ → Int × Span → Option (σ ⊕ ρ)) (s : σ) : Option (σ ⊕ ρ) :=
  loopO n (I_slices_Backward___api_Span_api_Span__1_s l cs) (w64 ((l.length : Int) - 1), s)
set_option maxRecDepth 100000 in
set_option maxHeartbeats 4000000 in
theorem it_slices_Backward___api_Span_api_Span__1 (n : Nat) (H : Hp) (l : List Span) (l_v0 : Value) (hl_0 : SL H 2 R_Span l_v0 l) (l_b : Nat) (l_c : Cells H l_b 0 [l_v0]) :
    IT2 Try.prog 80 [.pointer (some ⟨l_b, 0, none⟩)] H (VPlain2 fun (x : Int × Span) => (.int .i64 x.1, .agg [.int .i64 x.2.Low, .int .i64 x.2.High].toArray)) (fun _ _ cs s => I_slices_Backward___api_Span_api_Span__1 n l cs s) := by
  refine IT2.of (N := 19) Try.func80 rfl rfl rfl rfl fun σ ρ B A Ax cs lY s0 y hF hY H1 fr gs Q hs1 hA hout => ?_
  unfold I_slices_Backward___api_Span_api_Span__1 at hF
  refine JC.seq ?_
  refine JC.region (by rfl) ?_
  intro hQ
  refine JL.loadH 0 mz_azs rfl (Cells.mono hs1 l_c) rfl .none rfl ?_
  refine JL.lenSL (R := R_Span) mz_ul (SL.mono R_Span_mono hs1 hl_0) .none rfl ?_
  refine JL.bin rfl rfl rfl .none rfl ?_
  refine JL.assign .none rfl ?_
  refine JL.done hQ ?_
  refine JQ.go ?_
  refine JC.block ?_
  refine JC.loop hF (fun (z : Int × σ) Hz f bs gs => match z with | (r, s) => f 0 = .func (.yield lY) #[] #[] ∧ f 1 = .pointer (some ⟨l_b, 0, none⟩) ∧ f 3 = .int .i64 r ∧ A s Hz bs gs ∧ HSub H1 Hz) ⟨rfl, rfl, rfl, hA, HSub.refl _⟩ ?_
  rintro ⟨r, s⟩ x H2 f bs gs2 ⟨hf0, hf1, hf3, hA2, hs2⟩ hF hr
  rw [I_slices_Backward___api_Span_api_Span__1_s] at hF
  refine (JC.norm (i := 0) hf0 (JC.norm (i := 1) hf1 (JC.norm (i := 3) hf3 ?_)))
  refine JC.seq ?_
  refine JC.seq ?_
  refine JC.region (by rfl) ?_
  intro hQ
  refine JL.move .none rfl ?_
  refine JL.bin rfl rfl rfl .none rfl ?_
  refine JL.done hQ ?_
  refine JQ.go ?_
  rcases ite_some hF with ⟨hc, hF⟩ | ⟨hc, hF⟩
  · refine JC.cond_t (b := decide (0 ≤ r)) rfl hc ?_
    refine JC.skip ?_
    refine JQ.go ?_
    refine JC.seq ?_
    refine JC.block ?_
    refine JC.seq ?_
    obtain ⟨x0, hx0, hF⟩ := bind_some hF
    obtain ⟨y0, hy0, hF⟩ := bind_some hF
    refine JC.regionY _ 6 rfl rfl (by rfl) ?_
    intro hQ
    refine JL.move .none rfl ?_
    refine JL.move .none rfl ?_
    refine JL.loadH 0 mz_azs rfl (Cells.mono (hs1.trans hs2) l_c) rfl .none rfl ?_
    refine JL.move .none rfl ?_
    refine JL.indexSL (R := R_Span) mz_sl (SL.mono R_Span_mono (hs1.trans hs2) hl_0) rfl hx0 .none rfl ?_
    rintro b1 o1 cs1 hc1 - rfl
    refine JL.loadH 0 mz_aze rfl hc1 rfl .none rfl ?_
    refine JL.atYield2 (A := A) (Ax := Ax) (y := y0) (tl := []) hQ (by rfl) rfl rfl rfl rfl (fun w hw => hY s (r, x0) y0 _ [] [] H2 bs gs2 w hA2 hy0 ⟨rfl, rfl⟩ hw) ?_ ?_
    · rintro s' H3 fr3 gs3 rfl hs3 hA3
      refine JL.not rfl .none rfl ?_
      refine JL.done hQ ?_
      refine JQ.go ?_
      refine JC.cond_f (b := !true) rfl rfl ?_
      refine JC.skip ?_
      refine JQ.normal_block ?_
      refine JQ.go ?_
      refine JC.region (by rfl) ?_
      intro hQ
      refine JL.move .none rfl ?_
      refine JL.bin rfl rfl rfl .none rfl ?_
      refine JL.assign .none rfl ?_
      refine JL.done hQ ?_
      obtain rfl := Option.some.inj hF
      exact JQ.next rfl ⟨rfl, rfl, rfl, hA3, hs2.trans hs3⟩
    · rintro e H3 fr3 gs3 rfl hs3 hA3
      refine JL.not rfl .none rfl ?_
      refine JL.done hQ ?_
      refine JQ.go ?_
      refine JC.cond_t (b := !false) rfl rfl ?_
      refine JC.ret ?_
      refine JQ.ret_block ?_
      refine JQ.ret_then ?_
      refine JQ.ret_then ?_
      refine JQ.ret_block ?_
      obtain rfl := Option.some.inj hF
      have e2 := hr _ rfl
      subst e2
      exact (hout H3 _ [] fr3 gs3 (hs2.trans hs3) hA3).1
  · refine JC.cond_f (b := decide (0 ≤ r)) rfl hc ?_
    refine JC.exit ?_
    refine JQ.exit_then ?_
    refine JQ.exit_then ?_
    refine JQ.exit_block ?_
    obtain rfl := Option.some.inj hF
    have e2 := hr _ rfl
    subst e2
    exact (hout H2 _ [] bs gs2 hs2 hA2).2
theorem mz_ap : apT Try.prog 22 = some (27, 2, 16) := by kernel_rfl
theorem mz_sl22 : slT Try.prog 22 = some (27, 2) := by kernel_rfl
theorem mz_ul22 : Try.prog.underlying 22 = some (.slice 27) := by kernel_rfl
theorem mz_i3 : Try.prog.underlying 3 = some (.int .i64) := by kernel_rfl
theorem mz_ze : zeroL Try.prog 27 = some [.int .i64 0, .int .i64 0] := by kernel_rfl
theorem mz_mo : Try.prog.follows .mixedOrders = true := by kernel_rfl
set_option maxRecDepth 100000 in
set_option maxHeartbeats 4000000 in
/-- slices.Grow of nil: an empty row with room -/
theorem c_Grow (H : Hp) (i : Int) (u : Unit) (hu : growck i = some u) : OC Try.prog 74 [.slice none 0 0, .int .i64 i] H 27 2 (fun m xs => m = 0 ∧ xs = []) := by
  obtain ⟨h0, h1⟩ := growck_some hu
  have hw : w64 (i - w64 (((0 : Nat) : Int) - ((0 : Nat) : Int))) = i := by
    have e : w64 (((0 : Nat) : Int) - ((0 : Nat) : Int)) = 0 := by decide
    rw [e, Int.sub_zero]
    simp only [w64, IntKind.wrap_i64]; omega
  refine OC.of (N := 27) Try.func74 rfl rfl rfl fun w => ?_
  refine JC.seq ?_
  refine JC.region (by rfl) ?_
  intro hQ
  refine JL.assign .none rfl ?_
  refine JL.done hQ ?_
  refine JQ.go ?_
  refine JC.seq ?_
  refine JC.seq ?_
  refine JC.region (by rfl) ?_
  intro hQ
  refine JL.move .none rfl ?_
  refine JL.bin rfl rfl rfl .none rfl ?_
  refine JL.done hQ ?_
  refine JQ.go ?_
  refine JC.cond_f (b := decide (i < 0)) rfl (by simp; omega) ?_
  refine JC.skip ?_
  refine JQ.go ?_
  refine JC.seq ?_
  refine JC.seq ?_
  refine JC.region (by rfl) ?_
  intro hQ
  refine JL.move .none rfl ?_
  refine JL.move .none rfl ?_
  refine JL.capSl mz_ul22 rfl .none rfl ?_
  refine JL.move .none rfl ?_
  refine JL.len mz_ul22 rfl .none rfl ?_
  refine JL.bin rfl rfl rfl .none rfl ?_
  refine JL.bin rfl rfl rfl .none rfl ?_
  refine JL.assign .none rfl ?_
  refine JL.done hQ ?_
  refine JQ.go ?_
  refine JC.seq ?_
  refine JC.region (by rfl) ?_
  intro hQ
  refine JL.move .none rfl ?_
  refine JL.bin rfl rfl rfl .none rfl ?_
  refine JL.done hQ ?_
  refine JQ.go ?_
  by_cases hp : 0 < i
  · refine JC.cond_t (b := decide (0 < w64 (i - w64 (((0 : Nat) : Int) - ((0 : Nat) : Int))))) rfl (by rw [hw]; simp [hp]) ?_
    refine JC.region (by rfl) ?_
    intro hQ
    refine JL.move .none rfl ?_
    refine JL.move .none rfl ?_
    refine JL.capSl mz_ul22 rfl .none rfl ?_
    refine JL.sliceH mz_sl22 rfl rfl (by decide) (by decide) .none rfl ?_
    refine JL.move .none rfl ?_
    refine JL.appendZ (i := i) mz_ap mz_i3 rfl (congrArg (Value.int .i64) hw) hp h1 .none rfl ?_
    intro b cap xs hxs
    refine JL.move .none rfl ?_
    refine JL.len mz_ul22 rfl .none rfl ?_
    refine JL.sliceH mz_sl22 rfl rfl (by decide) (by omega) .none rfl ?_
    have e0 : sliced (some (⟨b, 0, none⟩ : Addr)) 0 ((0 : Nat) : Int).toNat cap 2 = .slice (some ⟨b, 0, none⟩) 0 cap := by simp [sliced, Addr.add]
    rw [e0]
    have ec : ∀ (gs : List GS) (z : GS), z = ⟨.slice (some ⟨b, 0, none⟩) (0 + i.toNat) cap, 27, 2, 0 + i.toNat, [] ++ xs⟩ → (⟨.slice (some ⟨b, 0, none⟩) i.toNat cap, 27, 2, i.toNat, xs⟩ : GS) = z := fun _ z hz => by rw [hz]; simp
    rw [ec [] _ rfl]
    refine JL.cutRow rfl ?_
    refine JL.assign .none rfl ?_
    refine JL.done hQ ?_
    refine JQ.go ?_
    refine JC.seq ?_
    refine JC.region (by rfl) ?_
    intro hQ
    refine JL.move .none rfl ?_
    refine JL.assign .none rfl ?_
    refine JL.done hQ ?_
    refine JQ.go ?_
    refine JC.ret ?_
    exact JQ.outO 0 rfl rfl rfl ⟨rfl, rfl⟩ ⟨rfl, rfl⟩
  · refine JC.cond_f (b := decide (0 < w64 (i - w64 (((0 : Nat) : Int) - ((0 : Nat) : Int))))) rfl (by rw [hw]; simp; omega) ?_
    refine JC.skip ?_
    refine JQ.go ?_
    refine JC.newNil (e := 27) (sz := 2) ?_
    refine JC.seq ?_
    refine JC.region (by rfl) ?_
    intro hQ
    refine JL.move .none rfl ?_
    refine JL.assign .none rfl ?_
    refine JL.done hQ ?_
    refine JQ.go ?_
    refine JC.ret ?_
    exact JQ.outO 0 rfl rfl rfl ⟨rfl, rfl⟩ ⟨rfl, rfl⟩
theorem CH.delck {H : Hp} {xs : List Value} {l y : List Cell} {i j : Int} (h : CH H 2 R_Cell xs l) (hy : delck l i j = some y) : CH H 2 R_Cell (xs.take (i.toNat * 2) ++ (xs.drop (j.toNat * 2)).take ((l.length - j.toNat) * 2)) y ∧ y.length = i.toNat + (l.length - j.toNat) ∧ 0 ≤ i ∧ i < j ∧ j ≤ l.length := by
  unfold Dec.delck at hy
  split at hy
  · rename_i hb
    obtain ⟨h0, h1, h2⟩ := hb
    simp only [Option.some.injEq] at hy
    subst hy
    have htake : CH H 2 R_Cell (xs.take (i.toNat * 2)) (l.take i.toNat) := by
      refine ⟨by rw [List.length_take, List.length_take, h.1]; omega, fun k x hk => ?_⟩
      rw [List.getElem?_take] at hk
      split at hk
      · rename_i hlt
        obtain ⟨cs, k1, k2, k3⟩ := h.2 k x hk
        refine ⟨cs, k1, k2, fun t v hv => ?_⟩
        have := (List.getElem?_eq_some_iff.1 hv).1
        rw [List.getElem?_take, if_pos (by omega)]
        exact k3 t v hv
      · cases hk
    have hdrop : CH H 2 R_Cell ((xs.drop (j.toNat * 2)).take ((l.length - j.toNat) * 2)) (l.drop j.toNat) := by
      have hfull : (xs.drop (j.toNat * 2)).take ((l.length - j.toNat) * 2) = xs.drop (j.toNat * 2) := List.take_of_length_le (by rw [List.length_drop, h.1]; omega)
      rw [hfull]
      refine ⟨by rw [List.length_drop, List.length_drop, h.1]; omega, fun k x hk => ?_⟩
      rw [List.getElem?_drop] at hk
      obtain ⟨cs, k1, k2, k3⟩ := h.2 _ x hk
      refine ⟨cs, k1, k2, fun t v hv => ?_⟩
      rw [List.getElem?_drop]
      have := k3 t v hv
      rw [show j.toNat * 2 + (k * 2 + t) = (j.toNat + k) * 2 + t by omega]
      exact this
    exact ⟨htake.append hdrop, by simp; omega, h0, h1, h2⟩
  · cases hy
theorem CH.all2 {H : Hp} {xs : List Value} {l : List Cell} (h : CH H 2 R_Cell xs l) : AllOne xs := fun u hu => by
  obtain ⟨k, hk⟩ := List.mem_iff_getElem?.1 hu
  have hlt := (List.getElem?_eq_some_iff.1 hk).1
  rw [h.1] at hlt
  obtain ⟨cs, k1, k2, k3⟩ := h.2 (k / 2) (l[k / 2]'(by omega)) (List.getElem?_eq_getElem _)
  have := k3 (k % 2) (cs[k % 2]'(by omega)) (List.getElem?_eq_getElem _)
  rw [show k / 2 * 2 + k % 2 = k by omega, hk] at this
  rw [Option.some.inj this]
  exact R_Cell_one _ _ _ k2 _ (List.getElem_mem _)
set_option maxRecDepth 100000 in
set_option maxHeartbeats 4000000 in
/-- slices.Delete of something out of an own row -/
theorem c_Delete (H : Hp) (l : List Cell) (v : Value) (xs : List Value) (hch : CH H 2 R_Cell xs l) (i j : Int) (y : List Cell) (hy : delck l i j = some y) {B : Bs} {w : World} {bs : List (Nat × Obj)} {gs : List GS} (hs : St B H bs (⟨v, 27, 2, l.length, xs⟩ :: gs) w) :
    Calls Try.prog 46 [v, .int .i64 i, .int .i64 j].toArray w (RetW B fun v' H' bs' gs' => H = H' ∧ bs' = bs ∧ ∃ xs', gs' = ⟨v', 27, 2, y.length, xs'⟩ :: gs ∧ CH H 2 R_Cell xs' y) := by
  obtain ⟨hch', hyl, h0, h1, h2⟩ := CH.delck hch hy
  obtain ⟨b, cap, hv, hcap⟩ : ∃ b cap, v = .slice (some ⟨b, 0, none⟩) l.length cap ∧ l.length ≤ cap := by
    obtain ⟨_, hr⟩ := hs.row _ List.mem_cons_self
    rcases hr with ⟨_, hn⟩ | ⟨b, cap, cur, hv, _, _, hn, _⟩
    · simp only at hn; omega
    · exact ⟨b, cap, hv, hn⟩
  subst hv
  have hwl : (l.length : Int) ≤ cap := by omega
  refine calls_of (N := 33) Try.func46 rfl rfl rfl hs ?_
  clear hs
  refine JC.seq ?_
  refine JC.region (by rfl) ?_
  intro hQ
  refine JL.assign .none rfl ?_
  refine JL.done hQ ?_
  refine JQ.go ?_
  refine JC.seq ?_
  refine JC.region (by rfl) ?_
  intro hQ
  refine JL.move .none rfl ?_
  refine JL.move .none rfl ?_
  refine JL.move .none rfl ?_
  refine JL.move .none rfl ?_
  refine JL.len mz_ul22 rfl .none rfl ?_
  refine JL.sliceLHM mz_sl22 rfl rfl rfl rfl h0 (by omega) h2 hwl .none rfl ?_
  refine JL.done hQ ?_
  refine JQ.go ?_
  refine JC.seq ?_
  refine JC.seq ?_
  refine JC.region (by rfl) ?_
  intro hQ
  refine JL.move .none rfl ?_
  refine JL.move .none rfl ?_
  refine JL.bin rfl rfl rfl .none rfl ?_
  refine JL.done hQ ?_
  refine JQ.go ?_
  refine JC.cond_f (b := (i == j)) rfl (by simp; omega) ?_
  refine JC.skip ?_
  refine JQ.go ?_
  refine JC.seq ?_
  refine JC.region (by rfl) ?_
  intro hQ
  refine JL.move .none rfl ?_
  refine JL.len mz_ul22 rfl .none rfl ?_
  refine JL.assign .none rfl ?_
  refine JL.done hQ ?_
  refine JQ.go ?_
  refine JC.seq ?_
  refine JC.mixed 8 8 #[false, false, false, false, false, false, false, false] [] (by rfl) mz_mo (by kernel_rfl) (by kernel_rfl) ?_
  intro hQ hE
  refine JA.take 0 (listed' := #[true, false, false, false, false, false, false, false]) hQ rfl (by kernel_rfl) (by kernel_rfl) (by kernel_rfl) (by kernel_rfl) (by kernel_rfl) hE (HSub.refl _) (List.nil_sublist _) ?_
  refine JL.move .none rfl ?_
  refine JA.cont ?_
  refine JA.take 1 (listed' := #[true, true, false, false, false, false, false, false]) hQ rfl (by kernel_rfl) (by kernel_rfl) (by kernel_rfl) (by kernel_rfl) (by kernel_rfl) hE (HSub.refl _) (List.nil_sublist _) ?_
  refine JL.move .none rfl ?_
  refine JA.cont ?_
  refine JA.take 2 (listed' := #[true, true, true, false, false, false, false, false]) hQ rfl (by kernel_rfl) (by kernel_rfl) (by kernel_rfl) (by kernel_rfl) (by kernel_rfl) hE (HSub.refl _) (List.nil_sublist _) ?_
  refine JL.sliceH mz_sl22 rfl rfl h0 (by omega) .none rfl ?_
  refine JA.cont ?_
  refine JA.take 3 (listed' := #[true, true, true, true, false, false, false, false]) hQ rfl (by kernel_rfl) (by kernel_rfl) (by kernel_rfl) (by kernel_rfl) (by kernel_rfl) hE (HSub.refl _) (List.nil_sublist _) ?_
  refine JL.move .none rfl ?_
  refine JA.cont ?_
  refine JA.take 4 (listed' := #[true, true, true, true, true, false, false, false]) hQ rfl (by kernel_rfl) (by kernel_rfl) (by kernel_rfl) (by kernel_rfl) (by kernel_rfl) hE (HSub.refl _) (List.nil_sublist _) ?_
  refine JL.move .none rfl ?_
  refine JA.cont ?_
  refine JA.take 5 (listed' := #[true, true, true, true, true, true, false, false]) hQ rfl (by kernel_rfl) (by kernel_rfl) (by kernel_rfl) (by kernel_rfl) (by kernel_rfl) hE (HSub.refl _) (List.nil_sublist _) ?_
  refine JL.sliceL mz_sl22 rfl rfl (by omega) h2 .none rfl ?_
  refine JA.cont ?_
  have ei : sliced (some (⟨b, 0, none⟩ : Addr)) 0 i.toNat cap 2 = .slice (some ⟨b, 0, none⟩) i.toNat cap := by simp [sliced, Addr.add]
  refine JA.many [6] (by kernel_rfl) (by simp) (all_one ⟨_, #[true, true, true, true, true, true, true, false], rfl, (by kernel_rfl), ?_⟩)
  have eA : ∃ A, sliced (some (⟨b, 0, none⟩ : Addr)) j.toNat l.length cap 2 = .slice (some A) (l.length - j.toNat) (cap - j.toNat) ∧ (l.length - j.toNat = 0 ∨ A = ⟨b, j.toNat * 2, none⟩) := by
    by_cases hc : cap = j.toNat
    · exact ⟨⟨b, 0, none⟩, by simp [sliced, hc], .inl (by omega)⟩
    · have h0' : ¬ j.toNat * 2 = 0 := by omega
      exact ⟨⟨b, j.toNat * 2, none⟩, by simp [sliced, hc, Addr.add, h0'], .inr rfl⟩
  obtain ⟨A, hA, hAj⟩ := eA
  refine JL.appendIn (i := i.toNat) (m := l.length - j.toNat) (j := j.toNat) (A := A) (c := cap - j.toNat) mz_ap (by first | rfl | exact ei) hA hAj (by omega) (by omega) (by omega) (CH.all2 hch) .none rfl ?_
  refine JA.after hE (HSub.refl _) (List.nil_sublist _) ?_
  refine JA.many [7] (by kernel_rfl) (by simp) (all_one ⟨_, #[true, true, true, true, true, true, true, true], rfl, (by kernel_rfl), ?_⟩)
  refine JL.assign .none rfl ?_
  refine JA.after hE (HSub.refl _) (List.nil_sublist _) ?_
  refine JA.done hQ (by kernel_rfl) ?_
  refine JQ.go ?_
  refine JC.seq ?_
  refine JC.region (by rfl) ?_
  intro hQ
  refine JL.move .none rfl ?_
  refine JL.move .none rfl ?_
  refine JL.len mz_ul22 rfl .none rfl ?_
  refine JL.move .none rfl ?_
  refine JL.sliceLH mz_sl22 rfl rfl rfl (by omega) (by omega) (by omega) .none rfl ?_
  have eT : sliced (some (⟨b, 0, none⟩ : Addr)) ((i.toNat + (l.length - j.toNat) : Nat) : Int).toNat ((l.length : Nat) : Int).toNat cap 2 = .slice (some ⟨b, (i.toNat + (l.length - j.toNat)) * 2, none⟩) (l.length - (i.toNat + (l.length - j.toNat))) (cap - (i.toNat + (l.length - j.toNat))) := by
    have hne : ¬ cap = i.toNat + (l.length - j.toNat) := by omega
    simp only [Int.toNat_natCast, sliced, if_neg hne]
    by_cases hz : (i.toNat + (l.length - j.toNat)) * 2 = 0
    · simp [Addr.add, hz]
    · simp [Addr.add, hz]
  rw [eT]
  refine JL.clearTail mz_ap mz_ze (one_cons rfl (one_cons rfl one_nil)) rfl (by omega) (by omega) .none ?_
  refine JL.done hQ ?_
  refine JQ.go ?_
  refine JC.seq ?_
  refine JC.region (by rfl) ?_
  intro hQ
  refine JL.move .none rfl ?_
  refine JL.assign .none rfl ?_
  refine JL.done hQ ?_
  refine JQ.go ?_
  refine JC.ret ?_
  exact JQ.outW rfl (.tmp .nil) ⟨rfl, rfl, _, by rw [hyl]; rfl, hch'⟩
end Go.Proofs.Ytflhjlgimihmgaa
end
