/-
  Results that the caller owns; elements of own growing slices.
-/
import Derived.Test.YteihdclpiekmaaaEngM
namespace Go.Dec
open Go Go.RowKit

/-- a call whose result holds slices that the caller owns -/
def XC (P : Program) (k : Nat) (vs : List Value) (H : Hp) (Res : Hp → Value → List GS → Prop) : Prop :=
  ∀ w, HLe H w → Calls P k vs.toArray w fun en w' => ∃ H' v gs', en = .returned v ∧ St ⟨w, H⟩ H' [] gs' w' ∧ Res H' v gs'
def setx {α : Type} (l : List α) (i : Int) (x : α) : List α := l.set i.toNat x
theorem setx_len {α : Type} (l : List α) (i : Int) (x : α) : (setx l i x).length = l.length := by simp [setx]

section
variable {q : Md} {P : Program} {N : Nat} {ds : List Deferred} {B : Bs} {H : Hp} {ops : List Oper} {Q : Exit → Act → World → Prop} {rest : List Oper} {f : Nat → Value} {bs : List (Nat × Obj)} {gs : List GS}
variable {d : Nat} {t : TypeId} {p : String} {af : Array Edge} {g : Option (Nat × Bool)}

abbrev RetX (B : Bs) (Res : Hp → Value → List GS → Prop) : Ending → World → Prop := fun en w' => ∃ H' v gs', en = .returned v ∧ St B H' [] gs' w' ∧ Res H' v gs'
theorem XC.of {k N : Nat} {fn : Func} {c : Code} {vs : List Value} {H : Hp} {Res : Hp → Value → List GS → Prop} (hf : P.funcs[k]? = some fn) (hN : fn.ntmps = N) (hb : fn.body = some c) (hn : Nat.ble vs.length N = true)
    (h : ∀ w, JC P none N [] ⟨w, H⟩ H c (bodyPost P fn (RetX ⟨w, H⟩ Res)) (frame0 vs) [] []) : XC P k vs H Res := fun w hH => by
  subst hN
  have hn := Nat.le_of_ble_eq_true hn
  exact (callsIn_wide (n := 0)).1 (callsIn_of_wp hf hb trivial (h w (noOut_body (fun w' hq => by obtain ⟨_, _, _, h, _⟩ := hq; cases h) (fun c w' hq => by obtain ⟨_, _, _, h, _⟩ := hq; cases h)) _ w (fr_start hn) (St.start hH)))
theorem JQ.outX {fn : Func} {rs : List ResultVar} {vs : List Value} {Res : Hp → Value → List GS → Prop} (hr : fn.results = rs.toArray) (h : RV P f bs rs vs) (hres : Res H (resw vs) gs) : JQ N [] B H .ret (bodyPost P fn (RetX B Res)) f bs gs := fun _ a w ha hs =>
  ⟨ha.defers, _, h.results hr ha hs, H, _, gs, rfl, hs.sub (List.nil_sublist _) (List.Sublist.refl _), hres⟩
theorem JQ.fellX {fn : Func} {rs : List ResultVar} {vs : List Value} {Res : Hp → Value → List GS → Prop} (hr : fn.results = rs.toArray) (h : RV P f bs rs vs) (hres : Res H (resw vs) gs) : JQ N [] B H .normal (bodyPost P fn (RetX B Res)) f bs gs := fun _ a w ha hs =>
  ⟨ha.defers, _, h.results hr ha hs, H, _, gs, rfl, hs.sub (List.nil_sublist _) (List.Sublist.refl _), hres⟩

theorem St.gains {w w' : World} (hs : St B H bs gs w) {H' : Hp} {gs' : List GS} (hc : St ⟨w, H⟩ H' [] gs' w') : St B H' bs (gs' ++ gs) w' := by
  have k := hs.grow hc.below hc.hle hc.ext.1 hc.ext.2
  refine ⟨k.below, k.hle, k.ext, k.own, k.nodup, fun r hr => ?_, fun r hr b hb => ?_, List.pairwise_append.2 ⟨hc.rdisj, k.rdisj, fun r hr u hu b hb e => ?_⟩⟩
  · rcases List.mem_append.1 hr with hr | hr
    · obtain ⟨h1, h2⟩ := hc.row r hr
      refine ⟨h1, h2.imp id ?_⟩
      rintro ⟨g, cap, cur, h3, h4, h5⟩
      exact ⟨g, cap, cur, h3, Nat.le_trans hs.below.size h4, h5⟩
    · exact k.row r hr
  · rcases List.mem_append.1 hr with hr | hr
    · have hge := ((hc.row r hr).lt b hb).1
      refine ⟨(hc.rfresh r hr b hb).1, fun x hx e => ?_⟩
      have := hs.own_lt hx
      simp only at hge
      omega
    · exact k.rfresh r hr b hb
  · have h1 := ((hc.row r hr).lt b hb).1
    have h2 := ((hs.row u hu).lt b e).2
    simp only at h1
    omega
theorem JL.callXC {kf : Nat} {l : List Operand} {tt : Array TypeId} {vs : List Value} {Res : Hp → Value → List GS → Prop} (hc : XC P kf vs H Res) (hvs : l.map (ev f) = vs) (he : Ent P kf) (hw : Want ops f g) (hd : Nat.blt d N = true)
    (h : ∀ H' v gs', HSub H H' → Res H' v gs' → JL .plain P N ds B H' ops Q rest (upd f d v) bs (gs' ++ gs)) : JL .plain P N ds B H ops Q (⟨some d, .call ⟨.value (.func kf), l.toArray, tt⟩, t, p, af, g⟩ :: rest) f bs gs :=
  .step hw fun a w ha hs => by
    unfold Oper.wp
    rw [ha.eval, run_callF hvs he, Oper.upon_enter]
    refine (hc w hs.hle).mono fun e w' => ?_
    rintro ⟨H', v, gs', rfl, hst, hres⟩
    exact h H' v gs' hst.ext.1 hres _ _ (ha.put hd v) (hs.gains hst)

/-! ### elements -/
theorem St.rowAt {w : World} (hs : St B H bs gs w) {j : Nat} {gq : GS} (hj : gs[j]? = some gq) {b : Nat} (hb : gq.v.ownBlock = some b) : gq.xs.length = gq.n * gq.sz ∧ ∃ cap cur, gq.v = .slice (some ⟨b, 0, none⟩) gq.n cap ∧ B.w.heap.size ≤ b ∧ w.heap[b]? = some (.cells cur gq.e (0, 0)) ∧ gq.n ≤ cap ∧ cap ≤ maxLen ∧ cur.size = cap * gq.sz ∧ cur.toList.take (gq.n * gq.sz) = gq.xs := by
  obtain ⟨h1, h2⟩ := hs.row gq (List.mem_of_getElem? hj)
  refine ⟨h1, ?_⟩
  rcases h2 with ⟨hv, _⟩ | ⟨g, cap, cur, hv, h3, h4, h5, h6, h7, h8⟩
  · rw [hv] at hb; cases hb
  · rw [hv] at hb
    simp only [Value.ownBlock, Option.some.injEq] at hb
    subst hb
    exact ⟨cap, cur, hv, h3, h4, h5, h6, h7, h8⟩
theorem JL.indexG {α : Type} (j : Nat) {gq : GS} {l : List α} {y : α} {tx e : TypeId} {x ix : Operand} {k : IntKind} {i : Int} {sz : Nat} (ht : slT P tx = some (e, sz)) (hj : gs[j]? = some gq) (hx : ev f x = gq.v) (hn : gq.n = l.length) (hi : ev f ix = .int k i) (hy : geti l i = some y) (hw : Want ops f g) (hd : Nat.blt d N = true)
    (h : ∀ b, gq.v.ownBlock = some b → JL .plain P N ds B H ops Q rest (upd f d (.pointer (some ⟨b, 0 + i.toNat * sz, none⟩))) bs gs) : JL .plain P N ds B H ops Q (⟨some d, .indexAddr tx x ix, t, p, af, g⟩ :: rest) f bs gs := fun a w ha hs => by
  have hlt : 0 ≤ i ∧ i < gq.n := by
    unfold geti at hy
    split at hy
    · rename_i h0
      have := (List.getElem?_eq_some_iff.1 hy).1
      omega
    · cases hy
  obtain ⟨_, h2⟩ := hs.row gq (List.mem_of_getElem? hj)
  rcases h2 with ⟨_, h0⟩ | ⟨b, cap, cur, hv, _⟩
  · omega
  · exact JL.indexAt ht (hx.trans hv) hi hlt.1 hlt.2 hw hd (h b (by rw [hv]; rfl)) a w ha hs
theorem getElem?_take_of {l : List Value} {m j : Nat} {v : Value} (h : (l.take m)[j]? = some v) : l[j]? = some v := by
  rw [List.getElem?_take] at h
  split at h
  · exact h
  · cases h
theorem JL.loadG {α : Type} {R : Rl α} (j : Nat) {gq : GS} {b kk off sz : Nat} {i : Int} {l : List α} {y : α} {tx : TypeId} {x : Operand} {z : Bool × Nat} {v : Value} (hz : aggsz P tx = some z) (hx : ev f x = .pointer (some ⟨b, kk, none⟩)) (hk : kk = 0 + i.toNat * sz + off) (hj : gs[j]? = some gq) (hb : gq.v.ownBlock = some b)
    (hch : CH H sz R gq.xs l) (hy : geti l i = some y) (hv : ∀ cs, R H cs y → loadw z cs off = some v) (hw : Want ops f g) (hd : Nat.blt d N = true) (h : JL q P N ds B H ops Q rest (upd f d v) bs gs) : JL q P N ds B H ops Q (⟨some d, .load tx x, t, p, af, g⟩ :: rest) f bs gs := by
  refine .val hw hd (fun w hs => ?_) h
  unfold geti at hy
  split at hy
  · obtain ⟨cs, c1, c2, c3⟩ := hch.2 _ _ hy
    obtain ⟨_, cap, cur, _, _, h4, _, _, _, h8⟩ := hs.rowAt hj hb
    have hhas : Has w b (i.toNat * sz) cs := fun m u hu => by
      rw [cell_of_cells h4]
      have := c3 m u hu
      rw [← h8] at this
      have := getElem?_take_of this
      simpa using this
    have := run_load_of (P := P) (w := w) hz hhas (hv cs c2)
    subst hk
    rw [Nat.zero_add] at hx
    simp [execOp, hx, this]
  · cases hy
theorem CH.put {α : Type} {R : Rl α} {sz off : Nat} {i : Int} {xs cs2 : List Value} {l : List α} {y y' : α} (hch : CH H sz R xs l) (hy : geti l i = some y) (hoff : off + cs2.length ≤ sz) (hR : ∀ cs, R H cs y → R H (putC cs off cs2) y') : CH H sz R (putC xs (i.toNat * sz + off) cs2) (setx l i y') ∧ i.toNat * sz + off + cs2.length ≤ xs.length := by
  unfold geti at hy
  split at hy
  · obtain ⟨h1, h2⟩ := hch
    obtain ⟨cs, c1, c2, c3⟩ := h2 _ _ hy
    have hil := (List.getElem?_eq_some_iff.1 hy).1
    have hfit : i.toNat * sz + off + cs2.length ≤ xs.length := by
      have := Nat.mul_le_mul_right sz (show i.toNat + 1 ≤ l.length by omega)
      rw [Nat.succ_mul] at this
      rw [h1]; omega
    have hlen : (putC xs (i.toNat * sz + off) cs2).length = xs.length := by
      simp only [putC, List.length_append, List.length_take, List.length_drop]; omega
    have get : ∀ m, (putC xs (i.toNat * sz + off) cs2)[m]? = if m < i.toNat * sz + off then xs[m]? else if m < i.toNat * sz + off + cs2.length then cs2[m - (i.toNat * sz + off)]? else xs[m]? := fun m => by
      unfold putC
      have e1 : (xs.take (i.toNat * sz + off)).length = i.toNat * sz + off := by rw [List.length_take]; omega
      by_cases ha : m < i.toNat * sz + off
      · rw [if_pos ha, List.append_assoc, List.getElem?_append_left (by omega), List.getElem?_take, if_pos ha]
      · rw [if_neg ha]
        by_cases hb : m < i.toNat * sz + off + cs2.length
        · rw [if_pos hb, List.getElem?_append_left (by rw [List.length_append, e1]; omega), List.getElem?_append_right (by omega), e1]
        · rw [if_neg hb, List.getElem?_append_right (by rw [List.length_append, e1]; omega), List.length_append, e1, List.getElem?_drop]
          congr 1; omega
    have get2 : ∀ m, (putC cs off cs2)[m]? = if m < off then cs[m]? else if m < off + cs2.length then cs2[m - off]? else cs[m]? := fun m => by
      unfold putC
      have e1 : (cs.take off).length = off := by rw [List.length_take]; omega
      by_cases ha : m < off
      · rw [if_pos ha, List.append_assoc, List.getElem?_append_left (by omega), List.getElem?_take, if_pos ha]
      · rw [if_neg ha]
        by_cases hb : m < off + cs2.length
        · rw [if_pos hb, List.getElem?_append_left (by rw [List.length_append, e1]; omega), List.getElem?_append_right (by omega), e1]
        · rw [if_neg hb, List.getElem?_append_right (by rw [List.length_append, e1]; omega), List.length_append, e1, List.getElem?_drop]
          congr 1; omega
    refine ⟨⟨by rw [hlen, setx_len]; exact h1, fun m u hu => ?_⟩, hfit⟩
    unfold setx at hu
    rw [List.getElem?_set] at hu
    by_cases hm : i.toNat = m
    · subst hm
      rw [if_pos rfl, if_pos hil] at hu
      cases hu
      refine ⟨putC cs off cs2, ?_, hR cs c2, fun n v hv => ?_⟩
      · simp only [putC, List.length_append, List.length_take, List.length_drop]; omega
      · have hn : n < sz := by
          have := (List.getElem?_eq_some_iff.1 hv).1
          simp only [putC, List.length_append, List.length_take, List.length_drop] at this; omega
        rw [get2] at hv
        rw [get]
        by_cases ha : n < off
        · rw [if_pos ha] at hv
          rw [if_pos (by omega)]
          exact c3 n v hv
        · rw [if_neg ha] at hv
          rw [if_neg (by omega)]
          by_cases hb : n < off + cs2.length
          · rw [if_pos hb] at hv
            rw [if_pos (by omega), show i.toNat * sz + n - (i.toNat * sz + off) = n - off by omega]
            exact hv
          · rw [if_neg hb] at hv
            rw [if_neg (by omega)]
            exact c3 n v hv
    · rw [if_neg hm] at hu
      obtain ⟨ds, d1, d2, d3⟩ := h2 _ _ hu
      refine ⟨ds, d1, d2, fun n v hv => ?_⟩
      have hn : n < sz := by rw [← d1]; exact (List.getElem?_eq_some_iff.1 hv).1
      have hne : m * sz + n < i.toNat * sz ∨ i.toNat * sz + sz ≤ m * sz + n := by
        rcases Nat.lt_or_gt_of_ne hm with hlt | hgt
        · right
          have := Nat.mul_le_mul_right sz (show i.toNat + 1 ≤ m by omega)
          rw [Nat.succ_mul] at this
          omega
        · left
          have := Nat.mul_le_mul_right sz (show m + 1 ≤ i.toNat by omega)
          rw [Nat.succ_mul] at this
          omega
      rw [get]
      by_cases ha : m * sz + n < i.toNat * sz + off
      · rw [if_pos ha]; exact d3 n v hv
      · rw [if_neg ha, if_neg (by omega)]; exact d3 n v hv
  · cases hy
theorem St.storeRow {w : World} (hs : St B H bs gs w) {j : Nat} {gq : GS} (hj : gs[j]? = some gq) {b k : Nat} {cs : List Value} (hb : gq.v.ownBlock = some b) (hfit : k + cs.length ≤ gq.xs.length) {cur : Array Value} (hcur : w.heap[b]? = some (.cells cur gq.e (0, 0))) :
    St B H bs (gs.set j ⟨gq.v, gq.e, gq.sz, gq.n, putC gq.xs k cs⟩) (w.setRow b (cur.toList.take k ++ cs ++ cur.toList.drop (k + cs.length)).toArray) := by
  obtain ⟨h1, cap, cur', hv, h3, h4, h5, h6, h7, h8⟩ := hs.rowAt hj hb
  rw [hcur] at h4
  cases h4
  have hsz : gq.n * gq.sz ≤ cur.size := by rw [h7]; exact Nat.mul_le_mul_right _ h5
  have hnew := setRow_heap w b cur (cur.toList.take k ++ cs ++ cur.toList.drop (k + cs.length)).toArray _ _ hcur
  have key : w.grownBy (w.setRow b (cur.toList.take k ++ cs ++ cur.toList.drop (k + cs.length)).toArray) gq.v.ownBlock := ⟨rfl, rfl, rfl, Nat.le_of_eq (setRow_size _ _ _).symm, fun m hm hne => setRow_other w b m _ (fun e => hne (by rw [hb, e]))⟩
  refine hs.regrow hj key ⟨?_, .inr ⟨b, cap, _, hv, h3, hnew, h5, h6, ?_, ?_⟩⟩ (.inl rfl)
  · simp only [putC, List.length_append, List.length_take, List.length_drop]; omega
  · simp only [List.size_toArray, List.length_append, List.length_take, List.length_drop, Array.length_toList]; omega
  · have e0 : (cur.toList.take (gq.n * gq.sz)).length = gq.n * gq.sz := by rw [List.length_take, Array.length_toList]; omega
    have hk : k + cs.length ≤ gq.n * gq.sz := by omega
    rw [← h8]
    simp only [putC]
    rw [List.take_take, Nat.min_eq_left (by omega)]
    have e1 : (cur.toList.take k ++ cs).length = k + cs.length := by
      rw [List.length_append, List.length_take, Array.length_toList]; omega
    rw [List.take_append, List.take_of_length_le (by omega), e1, List.drop_take]
theorem JL.storeG {α : Type} {R : Rl α} (j : Nat) {gq : GS} {b kk off sz n : Nat} {r : Bool} {i : Int} {l : List α} {y y' : α} {tx : TypeId} {x u : Operand} {cs : List Value} (hz : aggsz P tx = some (r, n)) (hx : ev f x = .pointer (some ⟨b, kk, none⟩)) (hk : kk = 0 + i.toNat * sz + off) (hu : vcells (ev f u) = cs) (hn : cs.length = n) (h1 : AllOne cs)
    (hj : gs[j]? = some gq) (hb : gq.v.ownBlock = some b) (hch : CH H sz R gq.xs l) (hnl : gq.n = l.length) (hy : geti l i = some y) (hoff : Nat.ble (off + n) sz = true) (hR : ∀ cs', R H cs' y → R H (putC cs' off cs) y') (hw : Want ops f g)
    (h : ∀ xs', CH H sz R xs' (setx l i y') → JL .plain P N ds B H ops Q rest f bs (gs.set j ⟨gq.v, gq.e, gq.sz, (setx l i y').length, xs'⟩)) : JL .plain P N ds B H ops Q (⟨none, .store tx x u, t, p, af, g⟩ :: rest) f bs gs :=
  .step hw fun a w ha hs => by
    subst hn
    have hoff := Nat.le_of_ble_eq_true hoff
    obtain ⟨hc2, hfit⟩ := hch.put hy hoff hR
    obtain ⟨_, cap, cur, hv, _, h4, h5, _, h7, h8⟩ := hs.rowAt hj hb
    obtain ⟨_, hsz, _⟩ := run_isAgg_of (w := w) hz
    have hcs : gq.xs.length ≤ cur.size := by
      have := congrArg List.length h8
      rw [List.length_take, Array.length_toList] at this
      omega
    have hst := run_storeCells_at P b (i.toNat * sz + off) gq.e cs 0 cur w h4 (by omega) h1
    simp only [Nat.add_zero] at hst
    unfold Oper.wp
    have hr : (execOp (ev f) ⟨none, .store tx x u, t, p, af, g⟩).run P w = .ok .skip (w.setRow b (cur.toList.take (i.toNat * sz + off) ++ cs ++ cur.toList.drop (i.toNat * sz + off + cs.length)).toArray) := by
      subst hk
      rw [Nat.zero_add] at hx
      simp [execOp, hx, Instr.storeAt, Instr.sureAddr, storeVar, vcells_eq, hu, hsz, hst]
    rw [ha.eval, hr]
    have := hs.storeRow hj hb hfit h4
    rw [setx_len, ← hnl] at *
    exact h _ hc2 a _ ha this
end
end Go.Dec
