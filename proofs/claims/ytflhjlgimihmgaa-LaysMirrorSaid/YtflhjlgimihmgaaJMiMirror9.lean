/-
  LaysMirror holds of every input that can be given, without a condition.
-/
import Derived.Test.YtflhjlgimihmgaaJMiMirror8
import Derived.JoinedCond
section
namespace Go.Proofs.Ytflhjlgimihmgaa
open Go Go.RowKit Go.Dec
def mirC (w : Int) (c : Cell) : Cell := ⟨c.Row, w - 1 - c.Col⟩
theorem mirC_mirC (w : Int) (c : Cell) : mirC w (mirC w c) = c := cell_ext rfl (by simp only [mirC]; omega)
theorem mirC_mem {w : Int} {l : List Cell} {r c : Int} : (⟨r, c⟩ : Cell) ∈ l.map (mirC w) ↔ (⟨r, w - 1 - c⟩ : Cell) ∈ l := by
  rw [List.mem_map]
  constructor
  · rintro ⟨x, hx, e⟩
    have h1 := congrArg Cell.Row e
    have h2 := congrArg Cell.Col e
    simp only [mirC] at h1 h2
    have : x = ⟨r, w - 1 - c⟩ := cell_ext (by simp only; omega) (by simp only; omega)
    exact this ▸ hx
  · intro h
    exact ⟨_, h, cell_ext rfl (by simp only [mirC]; omega)⟩
section
variable {n : Nat}
theorem p_mirrored (hn : 1000000 ≤ n) {s : Lap} (hv : VL s) (l : List Cell) (hl : l.length ≤ 1000) (hc : ∀ c ∈ l, InC s c) : F_law03_mirrored n l s.Width = some (l.map (mirC s.Width)) := by
  have hW := hv.w
  have h := (loop_fold (step := F_law03_mirrored_s1 n l s.Width) l (fun i (z : List Cell) => ((i : Int), z)) (fun z c => z ++ [mirC s.Width c]) (fun z => z) (fun i z => z.length = i) (n := n) [] rfl (fun i x z hx hz => by
    have hi := (List.getElem?_eq_some_iff.1 hx).1
    obtain ⟨_, c0, c1⟩ := hc x (List.mem_of_getElem? hx)
    rw [F_law03_mirrored_s1, dlt, decide_eq_true hi, geti_nat, hx]
    simp only [if_true, Option.bind_some, w64_nat (show i ≤ 4611686018427387904 by omega)]
    rw [w64_id (show -9223372036854775808 ≤ s.Width - 1 by omega) (by omega), w64_id (by omega) (by omega), lim_ok (by rw [List.length_append]; simp; omega)]
    exact ⟨rfl, by rw [List.length_append, hz]; rfl⟩) (fun z _ => by rw [F_law03_mirrored_s1, dlt]; simp) (by omega)).1
  rw [F_law03_mirrored, show ((0 : Int), ([] : List Cell)) = (((0 : Nat) : Int), ([] : List Cell)) from rfl, h, foldl_append_map (fun c : Cell => mirC s.Width c)]
  simp
/-- the rows of all panels, mirrored in place -/
theorem p_rowsMirror (hn : 1000000 ≤ n) {s : Lap} (hv : VL s) : loopO n (F_law03_LaysMirror_s1 n s) (0, s.Panels.map Panel.Rows) = some (s.Panels.map fun p => (mirP p).Rows) := by
  have hnp := hv.np
  refine Exists.elim (loop_nats (step := F_law03_LaysMirror_s1 n s) s.Panels.length (fun i (z : List (List Span)) => ((i : Int), z)) (fun i z => z.length = s.Panels.length ∧ ∀ j, (j < i → z[j]? = (s.Panels[j]?).map fun p => (mirP p).Rows) ∧ (i ≤ j → z[j]? = (s.Panels[j]?).map Panel.Rows))
    (fun z => z = s.Panels.map fun p => (mirP p).Rows) (n := n) (s.Panels.map Panel.Rows) ⟨by simp, fun j => ⟨fun h => by omega, fun _ => by rw [List.getElem?_map]⟩⟩ (fun i z hi hz => .inl ?_) (fun z hz => ⟨z, by rw [F_law03_LaysMirror_s1, dlt]; simp [hz.1], by
      refine List.ext_getElem? fun j => ?_
      rw [List.getElem?_map]
      by_cases hj : j < s.Panels.length
      · exact (hz.2 j).1 hj
      · rw [List.getElem?_eq_none (by omega), List.getElem?_eq_none (by omega)]; rfl⟩) (by omega)) (fun z hzz => ?_)
  rotate_left 1
  obtain ⟨hz, hp⟩ := hzz
  · rw [show ((0 : Int), s.Panels.map Panel.Rows) = (((0 : Nat) : Int), s.Panels.map Panel.Rows) from rfl, hz, hp]
  · obtain ⟨hzl, hall⟩ := hz
    obtain ⟨p, hp⟩ : ∃ p, s.Panels[i]? = some p := ⟨_, List.getElem?_eq_getElem hi⟩
    have hvp := hv.p p (List.mem_of_getElem? hp)
    have hpn := hvp.n
    have hlen : (rowsT p 1).length = p.Rows.length := by rw [rowsT_one]; simp
    have hzi : z[i]? = some p.Rows := by rw [(hall i).2 (Nat.le_refl _), hp]; rfl
    refine Exists.elim (loop_nats (step := F_law03_LaysMirror_s2 n (i : Int) (rowsT p 1)) p.Rows.length (fun k (y : List (List Span)) => ((k : Int), y)) (fun k y => ∃ row : List Span, y = z.set i row ∧ row.length = p.Rows.length ∧ ∀ j, j < k → row[j]? = (rowsT p 1).reverse[j]?)
      (fun y => y = z.set i (rowsT p 1).reverse) (n := n) z ⟨p.Rows, by
        refine List.ext_getElem? fun j => ?_
        rw [List.getElem?_set]
        split
        · rename_i e; subst e; rw [if_pos (by omega), hzi]
        · rfl, rfl, fun j h => by omega⟩ (fun k y hk hy => .inl ?_) (fun y hy => ⟨y, by rw [F_law03_LaysMirror_s2, hlen, dlt]; simp, ?_⟩) (by omega)) (fun z' hzz => ?_)
    rotate_left 2
    obtain ⟨hz', hq⟩ := hzz
    · rw [F_law03_LaysMirror_s1, dlt, hzl, decide_eq_true hi, geti_nat, hp]
      simp only [if_true, Option.bind_some, p_TurnedRows hn hvp]
      rw [show ((0 : Int), z) = (((0 : Nat) : Int), z) from rfl, hz']
      simp only [Option.bind_some, w64_nat (show i ≤ 4611686018427387904 by omega)]
      refine ⟨z', rfl, by rw [hq]; simpa using hzl, fun j => ⟨fun h => ?_, fun h => ?_⟩⟩
      · rw [hq, List.getElem?_set]
        by_cases e : i = j
        · subst e
          rw [if_pos rfl, if_pos (by omega), hp, mirP_rows]; rfl
        · rw [if_neg e]; exact (hall j).1 (by omega)
      · rw [hq, List.getElem?_set, if_neg (by omega)]
        exact (hall j).2 (by omega)
    · obtain ⟨row, rfl, hrl, hrow⟩ := hy
      rw [F_law03_LaysMirror_s2, hlen, dlt, decide_eq_true hk, geti_nat]
      simp only [if_true]
      rw [List.getElem?_set, if_pos rfl, if_pos (by omega)]
      simp only [Option.bind_some]
      rw [w64_id (show -9223372036854775808 ≤ (p.Rows.length : Int) - 1 by omega) (by omega), w64_id (by omega) (by omega), show (p.Rows.length : Int) - 1 - (k : Int) = ((p.Rows.length - 1 - k : Nat) : Int) by omega, geti_nat, List.getElem?_eq_getElem (show p.Rows.length - 1 - k < (rowsT p 1).length by omega)]
      simp only [Option.bind_some]
      rw [geti_nat, List.getElem?_eq_getElem (show k < row.length by omega)]
      simp only [Option.bind_some, setx, Int.toNat_natCast, w64_nat (show k ≤ 4611686018427387904 by omega), List.set_set]
      refine ⟨_, rfl, _, rfl, by simpa using hrl, fun j hj => ?_⟩
      rw [List.getElem?_set]
      by_cases e : k = j
      · subst e
        rw [if_pos rfl, if_pos (by omega), List.getElem?_reverse (by omega), show (rowsT p 1).length - 1 - k = p.Rows.length - 1 - k by rw [hlen], List.getElem?_eq_getElem (show p.Rows.length - 1 - k < (rowsT p 1).length by omega)]
      · rw [if_neg e]; exact hrow j (by omega)
    · obtain ⟨row, rfl, hrl, hrow⟩ := hy
      congr 1
      refine List.ext_getElem? fun j => ?_
      by_cases hj : j < p.Rows.length
      · exact hrow j hj
      · rw [List.getElem?_eq_none (by omega), List.getElem?_eq_none (by rw [List.length_reverse]; omega)]
end
/-- what each change leaves as it is -/
theorem AreC.perm {s t : Lap} (hW : t.Width = s.Width) (hL : t.Length = s.Length) {l l' o o' : List Cell} (hl : l'.Perm l) (ho : o'.Perm o) (h : AreC s l o) : AreC t l' o' := by
  refine ⟨fun c hc => ?_, hl.nodup_iff.2 h.2.1, by rw [hl.length_eq]; exact h.2.2⟩
  obtain ⟨h1, h2⟩ := h.1 c (hl.mem_iff.1 hc)
  exact ⟨by unfold InC; rw [hW, hL]; exact h1, fun h' => h2 (ho.mem_iff.1 h')⟩
theorem AreC.mir {s t : Lap} (hW : t.Width = s.Width) (hL : t.Length = s.Length) {l o : List Cell} (h : AreC s l o) : AreC t (l.map (mirC s.Width)) (o.map (mirC s.Width)) := by
  refine ⟨fun c hc => ?_, ?_, by simpa using h.2.2⟩
  · obtain ⟨x, hx, rfl⟩ := List.mem_map.1 hc
    obtain ⟨⟨h1, h2, h3⟩, h4⟩ := h.1 x hx
    refine ⟨⟨by rw [hL]; exact h1, by simp only [mirC]; omega, by simp only [mirC]; rw [hW]; omega⟩, fun h' => ?_⟩
    obtain ⟨y, hy, e⟩ := List.mem_map.1 h'
    have := congrArg (mirC s.Width) e
    rw [mirC_mirC, mirC_mirC] at this
    exact h4 (this ▸ hy)
  · exact nodup_map (fun x y e => by
      have := congrArg (mirC s.Width) e
      rwa [mirC_mirC, mirC_mirC] at this) h.2.1
/-- both ways -/
theorem p_both {n : Nat} (hn : 2000000 ≤ n) {a b : Lap} (ha : VL a) (hb : VL b) (hl : a.Length = b.Length) (h1 : ∀ k, Has a (allB a) k ↔ Has b (allB b) k) (h2 : ∀ k, Has a (sureB a) k ↔ Has b (sureB b) k) : F_law03_atLeast n a b = some true ∧ F_law03_atLeast n b a = some true :=
  ⟨p_atLeast hn ha hb (by omega) (fun k _ => (h1 k).1) (fun k _ => (h2 k).1), p_atLeast hn hb ha (by omega) (fun k _ => (h1 k).2) (fun k _ => (h2 k).2)⟩
theorem law_LaysMirror (s : Lap) (x : law03_Turn) (hs : W_Lap s) (_ : W_law03_Turn x) : ∃ n, F_law03_LaysMirror n s x = some true := by
  obtain ⟨n, hn⟩ : ∃ n : Nat, n = 2000000 := ⟨_, rfl⟩
  refine ⟨n, ?_⟩
  have hn2 : 2000000 ≤ n := by omega
  have hn1 : 1000000 ≤ n := by omega
  have hw : F_law03_works n = some true := by rw [hn]; exact works_ok
  rw [F_law03_LaysMirror]
  obtain ⟨b, e, q⟩ := p_ready hn1 s hs.np
  rw [e]
  simp only [Option.bind_some]
  by_cases hb : b = true ∧ 0 ≤ x.By ∧ x.By ≤ 100
  · obtain ⟨rfl, hb0, hb1⟩ := hb
    rw [decide_eq_false (show ¬ x.By < 0 by omega), decide_eq_false (show ¬ 100 < x.By by omega)]
    simp only [Bool.not_true, Bool.or_self, Bool.false_eq_true, if_false]
    have hV := (q.1 rfl).v
    have hsm := hV.small
    have hL := hV.l
    have hW := hV.w
    have hnp := hV.np
    have hfa := hV.fa.2.2
    have hfl := hV.fl.2.2
    obtain ⟨out1, o1, p1⟩ := rot_loop (step := F_law03_LaysMirror_s3 n s x) s.Panels x.By ⟨hb0, hb1⟩ (by omega) hn1 (fun i out => by rw [F_law03_LaysMirror_s3])
    obtain ⟨out2, o2, p2⟩ := rot_loop (step := F_law03_LaysMirror_s4 n s x) s.Faults x.By ⟨hb0, hb1⟩ (by omega) hn1 (fun i out => by rw [F_law03_LaysMirror_s4])
    obtain ⟨out3, o3, p3⟩ := rot_loop (step := F_law03_LaysMirror_s5 n s x) s.Flaws x.By ⟨hb0, hb1⟩ (by omega) hn1 (fun i out => by rw [F_law03_LaysMirror_s5])
    simp only [p_Copy hn1 s hsm, Option.bind_some, p_mirrored hn1 hV s.Faults (by omega) (fun c hc => (hV.fa.1 c hc).1), p_mirrored hn1 hV s.Flaws (by omega) (fun c hc => (hV.fl.1 c hc).1), p_rowsMirror hn1 hV, o1, o2, o3]
    -- the mirror
    have hpan : (s.Panels.map fun p => (mirP p).Rows).map Panel.mk = s.Panels.map mirP := by rw [List.map_map]; rfl
    rw [hpan]
    have hVo : VL ⟨s.Width, s.Length, s.Faults.map (mirC s.Width), s.Flaws.map (mirC s.Width), s.Panels.map mirP⟩ := by
      refine ⟨hW, hL, ?_, ?_, by simpa using hnp, fun p hp => ?_⟩
      · exact AreC.mir (t := ⟨s.Width, s.Length, s.Faults.map (mirC s.Width), s.Flaws.map (mirC s.Width), s.Panels.map mirP⟩) rfl rfl hV.fa
      · exact AreC.mir (t := ⟨s.Width, s.Length, s.Faults.map (mirC s.Width), s.Flaws.map (mirC s.Width), s.Panels.map mirP⟩) rfl rfl hV.fl
      · obtain ⟨p', hp', rfl⟩ := List.mem_map.1 hp
        exact (hV.p p' hp').mir
    have mirI : ∀ (k : Int) (bad bad' : Int → Int → Prop), (∀ r c, bad' r c ↔ bad r (s.Width - 1 - c)) → (Has s bad k ↔ Has ⟨s.Width, s.Length, s.Faults.map (mirC s.Width), s.Flaws.map (mirC s.Width), s.Panels.map mirP⟩ bad' k) := fun k bad bad' hb => by
      constructor
      · rintro ⟨pls, h⟩
        obtain ⟨pls', h'⟩ := LayIn.image (φ := fun c => s.Width - 1 - c) (ps' := s.Panels.map mirP) (by simp) (fun i p p' a1 a2 => by
          rw [List.getElem?_map, a1] at a2
          cases a2
          exact Im.mir (hV.p p (List.mem_of_getElem? a1))) h
        exact ⟨pls', h'.mono (Int.le_refl _) fun r c => (hb r c).1⟩
      · rintro ⟨pls, h⟩
        obtain ⟨pls', h'⟩ := LayIn.image (φ := fun c => s.Width - 1 - c) (ps' := s.Panels) (by simp) (fun i p p' a1 a2 => by
          simp only at a1
          rw [List.getElem?_map, a2] at a1
          cases a1
          have hvp := hV.p p' (List.mem_of_getElem? a2)
          have := Im.mir (W := s.Width) (n := k) hvp.mir
          rw [mir_mir hvp] at this
          exact this) h
        exact ⟨pls', h'.mono (Int.le_refl _) fun r c h => (hb _ _).2 (by rw [show s.Width - 1 - (s.Width - 1 - c) = c by omega]; exact h)⟩
    obtain ⟨a1, a2⟩ := p_both hn2 hV hVo rfl (fun k => mirI k _ _ fun r c => by
      rw [allB_iff, allB_iff]
      exact or_congr mirC_mem mirC_mem) (fun k => mirI k _ _ fun r c => by
      rw [sureB_iff, sureB_iff]
      exact mirC_mem)
    -- another order
    have hVp : VL ⟨s.Width, s.Length, out2, out3, out1⟩ := by
      refine ⟨hW, hL, ?_, ?_, by simp only; rw [p1.length_eq]; exact hnp, fun p hp => hV.p p (p1.mem_iff.1 hp)⟩
      · exact AreC.perm (t := ⟨s.Width, s.Length, out2, out3, out1⟩) rfl rfl p2 (List.Perm.refl _) hV.fa
      · exact AreC.perm (t := ⟨s.Width, s.Length, out2, out3, out1⟩) rfl rfl p3 p2 hV.fl
    have ordI : ∀ (k : Int) (bad bad' : Int → Int → Prop), (∀ r c, bad' r c ↔ bad r c) → (Has s bad k ↔ Has ⟨s.Width, s.Length, out2, out3, out1⟩ bad' k) := fun k bad bad' hb => by
      constructor
      · rintro ⟨pls, h⟩
        obtain ⟨pls', h'⟩ := h.perm p1.symm
        exact ⟨pls', h'.mono (Int.le_refl _) fun r c => (hb r c).1⟩
      · rintro ⟨pls, h⟩
        obtain ⟨pls', h'⟩ := LayIn.perm p1 h
        exact ⟨pls', h'.mono (Int.le_refl _) fun r c => (hb r c).2⟩
    obtain ⟨b1, b2⟩ := p_both hn2 hV hVp rfl (fun k => ordI k _ _ fun r c => by
      rw [allB_iff, allB_iff]
      exact or_congr p2.mem_iff p3.mem_iff) (fun k => ordI k _ _ fun r c => by
      rw [sureB_iff, sureB_iff]
      exact p2.mem_iff)
    -- one panel turned by half
    have hq : ∃ out4, (if (decide (0 ≤ x.Panel) && decide (x.Panel < (s.Panels.length : Int))) = true then ((geti s.Panels x.Panel).bind fun y3770 => (F_ref03_TurnedRows n y3770).bind fun y3775 => (geti s.Panels x.Panel).bind fun y3777 => some (setx s.Panels x.Panel (Panel.mk y3775))) else (some s.Panels)) = some out4 ∧ out4.length = s.Panels.length ∧ (∀ p ∈ out4, VPn p) ∧ ∀ (k : Int) (i : Nat) (p p' : Panel), s.Panels[i]? = some p → out4[i]? = some p' → Im (fun c => c) s.Width k p p' ∧ Im (fun c => c) s.Width k p' p := by
      by_cases hx : 0 ≤ x.Panel ∧ x.Panel < (s.Panels.length : Int)
      · obtain ⟨j, hj⟩ : ∃ j : Nat, x.Panel = j := ⟨x.Panel.toNat, by omega⟩
        have hjl : j < s.Panels.length := by omega
        obtain ⟨p, hp⟩ : ∃ p, s.Panels[j]? = some p := ⟨_, List.getElem?_eq_getElem hjl⟩
        have hvp := hV.p p (List.mem_of_getElem? hp)
        rw [decide_eq_true hx.1, decide_eq_true hx.2, hj, geti_nat, hp]
        simp only [Bool.and_self, if_true, Option.bind_some, p_TurnedRows hn1 hvp, setx, Int.toNat_natCast]
        refine ⟨_, rfl, by simp, fun p' hp' => ?_, fun k i q q' k1 k2 => ?_⟩
        · rcases List.mem_or_eq_of_mem_set hp' with h | rfl
          · exact hV.p p' h
          · exact hvp.turn 1
        · rw [List.getElem?_set] at k2
          split at k2
          · rename_i e
            subst e
            rw [hp] at k1
            cases k1
            cases k2
            exact Im.half hvp
          · rw [k1] at k2; cases k2
            exact ⟨Im.refl _, Im.refl _⟩
      · refine ⟨s.Panels, ?_, rfl, hV.p, fun k i q q' k1 k2 => ?_⟩
        · rw [if_neg (by simp; omega)]
        · rw [k1] at k2; cases k2
          exact ⟨Im.refl _, Im.refl _⟩
    obtain ⟨out4, o4, l4, v4, i4⟩ := hq
    have hVq : VL ⟨s.Width, s.Length, s.Faults, s.Flaws, out4⟩ := ⟨hW, hL, hV.fa, hV.fl, by simp only; omega, v4⟩
    have turnI : ∀ (k : Int) (bad : Int → Int → Prop), (Has s bad k ↔ Has ⟨s.Width, s.Length, s.Faults, s.Flaws, out4⟩ bad k) := fun k bad => by
      constructor
      · rintro ⟨pls, h⟩
        exact LayIn.image (φ := fun c => c) (ps' := out4) l4.symm (fun i p p' a1 a2 => (i4 k i p p' a1 a2).1) h
      · rintro ⟨pls, h⟩
        exact LayIn.image (φ := fun c => c) (ps' := s.Panels) l4 (fun i p p' a1 a2 => (i4 k i p' p a2 a1).2) h
    obtain ⟨c1, c2⟩ := p_both hn2 hV hVq rfl (fun k => turnI k _) (fun k => turnI k _)
    rw [o4]
    simp only [Option.bind_some, a1, a2, b1, b2, c1, c2, hw, if_true]
  · rw [if_pos ?_, hw]; rfl
    cases b with
    | false => rfl
    | true =>
      by_cases h0 : 0 ≤ x.By
      · rw [decide_eq_true (show 100 < x.By by have : ¬ x.By ≤ 100 := fun h => hb ⟨rfl, h0, h⟩; omega), Bool.or_true]
      · rw [decide_eq_true (show x.By < 0 by omega)]; rfl
end Go.Proofs.Ytflhjlgimihmgaa
end
section
namespace Go.Proofs.Ytflhjlgimihmgaa
open Go Go.RowKit Go.Dec Go.ChangeShapes Go.WideShapes Go.ChangeAt
set_option linter.unusedVariables false
theorem cl_laidOut : laidOutB Try.prog = true := by kernel_rfl
theorem cl_own : ownKnob Try.prog.godebug = none := by kernel_rfl
set_option maxRecDepth 100000 in
set_option maxHeartbeats 1000000 in
theorem laysMirror_contract (law : ∀ (x0 : Lap) (x1 : law03_Turn), W_Lap x0 → W_law03_Turn x1 → ∃ n, F_law03_LaysMirror n x0 x1 = some true)
    (T : Type) (enc : TypeId × Value → T) (W : World) (base : Nat) (args : Array Value) (ds gs : List (DataW T)) (before : List MemPlace)
    (hval : ∀ (j : Nat) t v, Try.f4.params[j]? = some t → args[j]? = some v → Value.okWide Try.prog W .any base t v)
    (hW : DataW.Whole enc Try.prog Try.f4.params.toList Rows.laysMirrorSpec.vars false W args.toList ds gs before) :
    Calls Try.prog 4 args W fun e W' => ∃ v, e = .returned v ∧ Rows.laysMirrorSpec.post enc Try.prog Try.f4 false true false false W args v W' := by
  have hW' := hW
  obtain ⟨p, q, hA0, hV, rfl, hfz, hnd⟩ := hW
  have hA : DataW.TrodAll enc Try.prog W 0 (fun _ => true) true Try.f4.params.toList args.toList ds p := hA0
  rw [Try.params4] at hA hval
  obtain ⟨v0, vs0, d0, ds0, p0, q0, hargs, rfl, rfl, h0, r0⟩ := trodAll_cons hA
  obtain ⟨v1, vs1, d1, ds1, p1, q1, rfl, rfl, rfl, h1, r1⟩ := trodAll_cons r0
  obtain ⟨rfl, rfl, rfl⟩ := trodAll_nil r1
  obtain rfl : args = #[v0, v1] := by rw [← Array.toArray_toList (xs := args), hargs]
  obtain ⟨rfl, rfl⟩ := trodVars_none hV
  obtain ⟨cs0, rfl, hs0⟩ := okWide_struct Try.underlying25 (hval 0 25 v0 rfl rfl)
  obtain ⟨cs1, rfl, hs1⟩ := okWide_struct Try.underlying42 (hval 1 42 v1 rfl rfl)
  have k0 := h0
  obtain ⟨f0, e0⟩ := h0
  have k1 := h1
  obtain ⟨f1, e1⟩ := h1
  obtain ⟨_, x0, r0, w0⟩ := o_Lap _ _ _ _ _ _ _ e0
  obtain ⟨_, x1, r1, w1⟩ := o_law03_Turn _ _ _ _ _ _ _ e1
  obtain ⟨n, hn⟩ := law x0 x1 w0 w1
  obtain ⟨u0_0, u0_1, u0_2, q0, s0_0, s0_1, s0_2⟩ := r0
  have q0 : cs0.toList = _ := q0
  obtain rfl : cs0 = _ := by rw [← Array.toArray_toList (xs := cs0), q0]
  have q1 : cs1.toList = _ := r1
  obtain rfl : cs1 = _ := by rw [← Array.toArray_toList (xs := cs1), q1]
  have hlt : ∀ x ∈ p0 ++ (p1 ++ []), x.block < W.heap.size := fun x hx => hW'.lt x (by simpa using hx)
  refine ((c_law03_LaysMirror n (hw W) x0 u0_0 s0_0 u0_1 s0_1 u0_2 s0_2 x1 true hn) W (hw_le W)).mono fun e W' ⟨he, hb0⟩ => ?_
  have hb := hb0.plain rfl
  subst he
  refine ⟨_, rfl, _, _, _, [], p0 ++ (p1 ++ []), [], hW', trodAll_cons_mk (shut_bool Try.underlying4 _) trodAll_mk0, ?_, rfl, hb.frame _, fun h => by cases h⟩
  exact trodAll_cons_mk (Below.trod cl_laidOut (by kernel_rfl) (of_decide_eq_true (by kernel_rfl)) k0 hb (fun x hx => hlt x (List.mem_append_left _ hx))) (trodAll_cons_mk (Below.trod cl_laidOut (by kernel_rfl) (of_decide_eq_true (by kernel_rfl)) k1 hb (fun x hx => hlt x (List.mem_append_right _ (List.mem_append_left _ hx)))) trodAll_mk0)
set_option maxRecDepth 100000 in
theorem laysMirror_lifted (law : ∀ (x0 : Lap) (x1 : law03_Turn), W_Lap x0 → W_law03_Turn x1 → ∃ n, F_law03_LaysMirror n x0 x1 = some true)
    (os : Os) (started : os.Started) (H : Type) (enc : TypeId × Value → H) :
    ReturnsInHanded {} Try.checked os 4 .any (Rows.laysMirrorSpec.pre6 enc Try.prog Try.f4 Rows.laysMirrorRow.domain false) (Rows.laysMirrorSpec.post enc Try.prog Try.f4 false true false false) := by
  refine returnsInHanded_of_change (C := Try.checked) cl_own started (by kernel_rfl) Try.func4
    (ChangeSpec.witness6 (enc := enc) (C := Try.checked) false ⟨#[], #[.agg #[.int .i64 0, .int .i64 0, .slice none 0 0, .slice none 0 0, .slice none 0 0], .agg #[.int .i64 0, .int .i64 0]], []⟩ 8 (by kernel_rfl) (by kernel_rfl) (by kernel_rfl) (by kernel_rfl)) ?_
  intro W base args ds gs before hval hW _ _
  exact laysMirror_contract law H enc W base args ds gs before hval hW
theorem laysMirror_holds (law : ∀ (x0 : Lap) (x1 : law03_Turn), W_Lap x0 → W_law03_Turn x1 → ∃ n, F_law03_LaysMirror n x0 x1 = some true) : Rows.LaysMirrorSaid :=
  OpenClaim.holds_of_wide 4 Try.f4 rfl rfl rfl rfl rfl rfl rfl ⟨rfl, rfl, rfl, rfl, rfl⟩ rfl rfl rfl rfl rfl (by kernel_rfl) Try.func4 (by kernel_rfl)
    (of_decide_eq_true (by kernel_rfl)) (by unfold Func.isWrapper; first | (rw [if_pos (by decide +kernel)]; kernel_rfl) | (rw [if_neg (by decide +kernel)]; exact ⟨rfl, rfl⟩))
    (fun os started H enc _ => laysMirror_lifted law os started H enc)
theorem laysMirror_proved : Rows.LaysMirrorSaid := laysMirror_holds law_LaysMirror
end Go.Proofs.Ytflhjlgimihmgaa
end
