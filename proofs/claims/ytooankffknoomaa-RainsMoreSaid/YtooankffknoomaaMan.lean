/-
  The iterator of the rows: rains.rows$1 and its inner function, by hand.
-/
import Derived.Test.YtooankffknoomaaGenK0
import Derived.Test.YtooankffknoomaaEngL
namespace Go.Proofs.Ytooankffknoomaa
open Go Go.RowKit Go.Dec

theorem mz_az3 : aggsz Try.prog 3 = some (false, 1) := by kernel_rfl
theorem mz_az26 : aggsz Try.prog 26 = some (false, 1) := by kernel_rfl
theorem mz_az92 : aggsz Try.prog 92 = some (false, 1) := by kernel_rfl
theorem mz_az100 : aggsz Try.prog 100 = some (false, 1) := by kernel_rfl
theorem mz_sl26 : slT Try.prog 26 = some (3, 1) := by kernel_rfl
theorem mz_en83 : Ent Try.prog 83 := enters_of Try.func83 (by kernel_rfl) rfl
theorem mz_en61 : Ent Try.prog 61 := enters_of Try.func61 (by kernel_rfl) rfl
theorem mz_mo : Try.prog.follows .mixedOrders = true := by kernel_rfl

def seti (l : List Int) (i v : Int) : Option (List Int) := if 0 ≤ i ∧ i < l.length then some (l.set i.toNat v) else none
theorem seti_some {l m : List Int} {i v : Int} (h : seti l i v = some m) : 0 ≤ i ∧ i < l.length ∧ m = l.set i.toNat v := by
  unfold seti at h
  split at h
  · rename_i h0; cases h; exact ⟨h0.1, h0.2, rfl⟩
  · cases h
def fillStep {σ ρ : Type} (days highest step : Int) (day : Int) (k : Int → List Int → σ → Option ((σ ⊕ ρ) × List Int)) : Int × List Int × σ → Option ((Int × List Int × σ) ⊕ ((σ ⊕ ρ) × List Int))
  | (i, xs, s) =>
    if decide (i < w64 (highest + 1)) = true then
      (if decide (0 < day) = true then ((geti xs (w64 (day - 1))).bind fun p => (F_rains_within 0 (w64 (i - p)) (w64 (-step)) step).bind fun z => some (!z)) else some false : Option Bool).bind fun c =>
      if c = true then some (.inl (w64 (i + 1), xs, s))
      else (seti xs day i).bind fun xs' => (k (w64 (day + 1)) xs' s).bind fun r => match r with
        | (.inl s', xs'') => some (.inl (w64 (i + 1), xs'', s'))
        | (.inr e, xs'') => some (.inr (.inr e, xs''))
    else some (.inr (.inl s, xs))
/-- the rows from a day on -/
def fill {σ ρ : Type} (days highest step : Int) (cs : σ → List Int → Option (σ ⊕ ρ)) : Nat → Int → List Int → σ → Option ((σ ⊕ ρ) × List Int)
  | 0, _, _, _ => none
  | n + 1, day, xs, s =>
    if (day == days) = true then (cs s xs).bind fun y => some (y, xs)
    else loopO n (fillStep days highest step day (fill days highest step cs n)) (0, xs, s)
def I_rains_rows_1 (n : Nat) (days highest step : Int) {σ ρ : Type} (cs : σ → List Int → Option (σ ⊕ ρ)) (s : σ) : Option (σ ⊕ ρ) :=
  if 0 ≤ days ∧ days ≤ 1048576 then (fill days highest step cs n 0 (List.replicate days.toNat 0) s).bind fun r => some r.1 else none

def own4 (br b4 b5 b6 m c l : Nat) (caps : List Value) (xs : List Int) (fr : List (Nat × Obj)) : List (Nat × Obj) :=
  (br, .cells (xs.map (Value.int .i64)).toArray 3) :: (b4, .cells [.func (.yield l) #[] #[]].toArray 92) :: (b5, .cells [.slice (some ⟨br, 0, none⟩) m c].toArray 26) :: (b6, .cells [.func (.func 83) #[] caps.toArray].toArray 100) :: fr

set_option maxRecDepth 100000 in
set_option maxHeartbeats 4000000 in
theorem c_fill {σ ρ : Type} (B : Bs) (A : Own1 σ) (Ax : Own1 ρ) (cs : σ → List Int → Option (σ ⊕ ρ)) (l : Nat) (hY : YS Try.prog B l (VRow 3) A Ax cs) (H0 : Hp) (days highest step : Int) (db hb sb : Nat)
    (dc : Cells H0 db 0 [.int .i64 days]) (hc : Cells H0 hb 0 [.int .i64 highest]) (sc : Cells H0 sb 0 [.int .i64 step]) (br b4 b5 b6 m c : Nat) (hm1 : m ≤ 9223372036854775807) (hm2 : m ≤ c) (caps : List Value)
    (hcaps : caps = [.pointer (some ⟨db, 0, none⟩), .pointer (some ⟨b4, 0, none⟩), .pointer (some ⟨b5, 0, none⟩), .pointer (some ⟨hb, 0, none⟩), .pointer (some ⟨sb, 0, none⟩), .pointer (some ⟨b6, 0, none⟩)]) :
    ∀ (n : Nat) (day : Int) (xs : List Int) (s : σ) (y : σ ⊕ ρ) (xs' : List Int), fill days highest step cs n day xs s = some (y, xs') → ∀ H fr gs, HSub H0 H → A s H fr gs → xs.length = m →
    ∀ w, St B H (own4 br b4 b5 b6 m c l caps xs fr) gs w → Calls Try.prog 83 (([.int .i64 day] : List Value) ++ caps).toArray w fun e w' => ∃ v H' bs' gs', e = .returned v ∧ St B H' bs' gs' w' ∧
      (∃ fr', bs' = own4 br b4 b5 b6 m c l caps xs' fr' ∧ xs'.length = m ∧ HSub H H' ∧ v = .bool y.isLeft ∧ OneOf A Ax y H' fr' gs') := by
  intro n
  induction n with
  | zero => intro day xs s y xs' hF; simp [fill] at hF
  | succ n ih =>
    intro day xs s y xs' hF H fr gs hsub hA hlen w hst
    have hF0 := hF
    rw [fill] at hF
    have dc' := Cells.mono hsub dc
    have hc' := Cells.mono hsub hc
    have sc' := Cells.mono hsub sc
    -- the walk
    let R : Ending → World → Prop := fun e w' => ∃ v H' bs' gs', e = .returned v ∧ St B H' bs' gs' w' ∧ (∃ fr', bs' = own4 br b4 b5 b6 m c l caps xs' fr' ∧ xs'.length = m ∧ HSub H H' ∧ v = .bool y.isLeft ∧ OneOf A Ax y H' fr' gs')
    have hNo : NoOut (bodyPost Try.prog Try.f83 R) := noOut_body (fun w' hq => by obtain ⟨_, _, _, _, h, _⟩ := hq; cases h) (fun c w' hq => by obtain ⟨_, _, _, _, h, _⟩ := hq; cases h)
    have out : ∀ {H' : Hp} {f : Nat → Value} {fr' : List (Nat × Obj)} {gs' : List GS}, xs'.length = m → HSub H H' → f 8 = .bool y.isLeft → OneOf A Ax y H' fr' gs' → JQ 47 [] B H' .ret (bodyPost Try.prog Try.f83 R) f (own4 br b4 b5 b6 m c l caps xs' fr') gs' := fun h1 h2 h3 h4 _ a w ha hs =>
      ⟨ha.defers, _, RV.results (P := Try.prog) (rs := [.tmp 8]) rfl (.tmp .nil) ha hs, _, _, _, _, rfl, hs, _, rfl, h1, h2, by rw [← h3]; rfl, h4⟩
    have walk : JC Try.prog none 47 [] B H (Try.f83.body.get (by rfl)) (bodyPost Try.prog Try.f83 R) (frame0 (.int .i64 day :: caps)) (own4 br b4 b5 b6 m c l caps xs fr) gs := by
      subst hcaps
      refine JC.seq ?_
      refine JC.region (by rfl) ?_
      intro hQ
      refine JL.assign .none rfl ?_
      refine JL.done hQ ?_
      refine JQ.go ?_
      refine JC.seq ?_
      refine JC.seq ?_
      refine JC.region (by rfl) ?_
      intro hQ
      refine JL.move .none rfl ?_
      refine JL.loadH 0 mz_az3 rfl dc' rfl .none rfl ?_
      refine JL.bin rfl rfl rfl .none rfl ?_
      refine JL.done hQ ?_
      refine JQ.go ?_
      rcases ite_some hF with ⟨hc1, hF⟩ | ⟨hc1, hF⟩
      · refine JC.cond_t (b := (day == days)) rfl hc1 ?_
        obtain ⟨y0, hy0, hF⟩ := bind_some hF
        obtain ⟨rfl, rfl⟩ := Prod.mk.inj (Option.some.inj hF)
        refine JC.seq ?_
        refine JC.regionY _ 2 rfl rfl (by rfl) ?_
        intro hQ
        refine JL.loadOwn 1 mz_az92 rfl rfl rfl .none rfl ?_
        refine JL.loadOwn 2 mz_az26 rfl rfl rfl .none rfl ?_
        refine JL.atYield (A := A) (Ax := Ax) (y := y0) (tl := own4 br b4 b5 b6 m c l [.pointer (some ⟨db, 0, none⟩), .pointer (some ⟨b4, 0, none⟩), .pointer (some ⟨b5, 0, none⟩), .pointer (some ⟨hb, 0, none⟩), .pointer (some ⟨sb, 0, none⟩), .pointer (some ⟨b6, 0, none⟩)] xs []) hQ (by rfl) rfl rfl rfl rfl (fun w hw => ?_) ?_ ?_
        · have hV : VRow 3 H [(br, .cells (xs.map (Value.int .i64)).toArray 3)] (.slice (some ⟨br, 0, none⟩) m c) xs := ⟨br, c, rfl, by rw [hlen], by omega, by omega⟩
          exact hY s xs y0 _ _ [(b4, .cells ([.func (.yield l) #[] #[]] : List Value).toArray 92), (b5, .cells ([.slice (some ⟨br, 0, none⟩) m c] : List Value).toArray 26), (b6, .cells ([.func (.func 83) #[] ([.pointer (some ⟨db, 0, none⟩), .pointer (some ⟨b4, 0, none⟩), .pointer (some ⟨b5, 0, none⟩), .pointer (some ⟨hb, 0, none⟩), .pointer (some ⟨sb, 0, none⟩), .pointer (some ⟨b6, 0, none⟩)] : List Value).toArray] : List Value).toArray 100)] H fr gs w hA hy0 hV hw
        · rintro s' H' fr' gs' rfl hs' hA'
          refine JL.assign .none rfl ?_
          refine JL.done hQ ?_
          refine JQ.go ?_
          refine JC.ret ?_
          refine JQ.ret_then ?_
          exact out hlen hs' (by rfl) hA'
        · rintro r H' fr' gs' rfl hs' hA'
          refine JL.assign .none rfl ?_
          refine JL.done hQ ?_
          refine JQ.go ?_
          refine JC.ret ?_
          refine JQ.ret_then ?_
          exact out hlen hs' (by rfl) hA'
      · refine JC.cond_f (b := (day == days)) rfl hc1 ?_
        refine JC.skip ?_
        refine JQ.go ?_
        refine JC.seq ?_
        refine JC.seq ?_
        refine JC.region (by rfl) ?_
        intro hQ
        refine JL.loadH 0 mz_az3 rfl hc' rfl .none rfl ?_
        refine JL.bin rfl rfl rfl .none rfl ?_
        refine JL.move .none rfl ?_
        refine JL.done hQ ?_
        refine JQ.go ?_
        refine JC.block ?_
        refine JC.loop hF (fun (z : Int × List Int × σ) Hz f bs gs => match z with | (i, xs, s) => ∃ fr, f 0 = .int .i64 day ∧ f 1 = .pointer (some ⟨db, 0, none⟩) ∧ f 2 = .pointer (some ⟨b4, 0, none⟩) ∧ f 3 = .pointer (some ⟨b5, 0, none⟩) ∧ f 4 = .pointer (some ⟨hb, 0, none⟩) ∧ f 5 = .pointer (some ⟨sb, 0, none⟩) ∧ f 6 = .pointer (some ⟨b6, 0, none⟩) ∧ f 17 = .int .i64 (w64 (highest + 1)) ∧ f 18 = .int .i64 i ∧ bs = own4 br b4 b5 b6 m c l [.pointer (some ⟨db, 0, none⟩), .pointer (some ⟨b4, 0, none⟩), .pointer (some ⟨b5, 0, none⟩), .pointer (some ⟨hb, 0, none⟩), .pointer (some ⟨sb, 0, none⟩), .pointer (some ⟨b6, 0, none⟩)] xs fr ∧ A s Hz fr gs ∧ HSub H Hz ∧ xs.length = m) ⟨fr, rfl, rfl, rfl, rfl, rfl, rfl, rfl, rfl, rfl, rfl, hA, HSub.refl _, hlen⟩ ?_
        rintro ⟨i, xs1, s1⟩ x H1 f bs gs1 ⟨fr1, hf0, hf1, hf2, hf3, hf4, hf5, hf6, hf17, hf18, rfl, hA1, hs1, hl1⟩ hF hr
        have hc'' := Cells.mono hs1 hc'
        have sc'' := Cells.mono hs1 sc'
        rw [fillStep] at hF
        refine (JC.norm (i := 0) hf0 (JC.norm (i := 1) hf1 (JC.norm (i := 2) hf2 (JC.norm (i := 3) hf3 (JC.norm (i := 4) hf4 (JC.norm (i := 5) hf5 (JC.norm (i := 6) hf6 (JC.norm (i := 17) hf17 (JC.norm (i := 18) hf18 ?_)))))))))
        refine JC.seq ?_
        refine JC.region (by rfl) ?_
        intro hQ
        refine JL.bin rfl rfl rfl .none rfl ?_
        refine JL.done hQ ?_
        refine JQ.go ?_
        refine JC.seq ?_
        rcases ite_some hF with ⟨hc2, hF⟩ | ⟨hc2, hF⟩
        · refine JC.cond_t (b := decide (i < w64 (highest + 1))) rfl hc2 ?_
          refine JC.skip ?_
          refine JQ.go ?_
          refine JC.seq ?_
          refine JC.block ?_
          refine JC.seq ?_
          refine JC.region (by rfl) ?_
          intro hQ
          refine JL.move .none rfl ?_
          refine JL.assign .none rfl ?_
          refine JL.done hQ ?_
          refine JQ.go ?_
          refine JC.seq ?_
          refine JC.seq ?_
          refine JC.draw (by rfl) mz_mo (by kernel_rfl) ?_
          intro hQ
          refine JL.move .none rfl ?_
          refine JL.bin rfl rfl rfl .none rfl ?_
          refine JL.move .none rfl ?_
          obtain ⟨cnd, hcnd, hF⟩ := bind_some hF
          refine JL.cut 13 (fun f => f 0 = .int .i64 day ∧ f 1 = .pointer (some ⟨db, 0, none⟩) ∧ f 2 = .pointer (some ⟨b4, 0, none⟩) ∧ f 3 = .pointer (some ⟨b5, 0, none⟩) ∧ f 4 = .pointer (some ⟨hb, 0, none⟩) ∧ f 5 = .pointer (some ⟨sb, 0, none⟩) ∧ f 6 = .pointer (some ⟨b6, 0, none⟩) ∧ f 17 = .int .i64 (w64 (highest + 1)) ∧ f 18 = .int .i64 i ∧ f 9 = .int .i64 i ∧ f 36 = .bool cnd) ?_ ?_
          · intro hJ
            rcases ite_some hcnd with ⟨hcd, hcnd⟩ | ⟨hcd, hcnd⟩
            · obtain ⟨p, hp, hcnd⟩ := bind_some hcnd
              obtain ⟨z, hz, hcnd⟩ := bind_some hcnd
              obtain rfl := Option.some.inj hcnd
              have hp' := hp
              unfold geti at hp'
              split at hp'
              · rename_i hp0
                have hplt := (List.getElem?_eq_some_iff.1 hp').1
                refine JL.move (.some rfl rfl rfl hcd) rfl ?_
                refine JL.loadOwn 2 mz_az26 rfl rfl rfl (.some rfl rfl rfl hcd) rfl ?_
                refine JL.move (.some rfl rfl rfl hcd) rfl ?_
                refine JL.bin rfl rfl rfl (.some rfl rfl rfl hcd) rfl ?_
                refine JL.indexAt mz_sl26 rfl rfl hp0 (show w64 (day - 1) < (m : Int) by rw [← hl1]; exact (Int.toNat_lt hp0).1 hplt) (.some rfl rfl rfl hcd) rfl ?_
                refine JL.loadAt 0 (v := .int .i64 p) mz_az3 rfl rfl (by simp [hp']) (.some rfl rfl rfl hcd) rfl ?_
                refine JL.bin rfl rfl rfl (.some rfl rfl rfl hcd) rfl ?_
                refine JL.loadH 0 mz_az3 rfl sc'' rfl (.some rfl rfl rfl hcd) rfl ?_
                refine JL.neg rfl (.some rfl rfl rfl hcd) rfl ?_
                refine JL.loadH 0 mz_az3 rfl sc'' rfl (.some rfl rfl rfl hcd) rfl ?_
                refine JL.callS (c_rains_within 0 H1 _ _ _ z hz) rfl mz_en61 (.some rfl rfl rfl hcd) rfl ?_
                refine JL.not rfl (.some rfl rfl rfl hcd) rfl ?_
                refine JL.pick_t (b := decide (0 < day)) rfl hcd .none rfl ?_
                exact hJ _ ⟨rfl, rfl, rfl, rfl, rfl, rfl, rfl, rfl, rfl, rfl, rfl⟩
              · cases hp'
            · obtain rfl := Option.some.inj hcnd
              refine JL.skip (.bool rfl rfl rfl hcd) rfl ?_
              refine JL.skip (.bool rfl rfl rfl hcd) rfl ?_
              refine JL.skip (.bool rfl rfl rfl hcd) rfl ?_
              refine JL.skip (.bool rfl rfl rfl hcd) rfl ?_
              refine JL.skip (.bool rfl rfl rfl hcd) rfl ?_
              refine JL.skip (.bool rfl rfl rfl hcd) rfl ?_
              refine JL.skip (.bool rfl rfl rfl hcd) rfl ?_
              refine JL.skip (.bool rfl rfl rfl hcd) rfl ?_
              refine JL.skip (.bool rfl rfl rfl hcd) rfl ?_
              refine JL.skip (.bool rfl rfl rfl hcd) rfl ?_
              refine JL.skip (.bool rfl rfl rfl hcd) rfl ?_
              refine JL.skip (.bool rfl rfl rfl hcd) rfl ?_
              refine JL.pick_f (b := decide (0 < day)) rfl hcd .none rfl ?_
              exact hJ _ ⟨rfl, rfl, rfl, rfl, rfl, rfl, rfl, rfl, rfl, rfl, rfl⟩
          · rintro f ⟨hf0, hf1, hf2, hf3, hf4, hf5, hf6, hf17, hf18, hf9, hf36⟩
            refine (JL.norm (i := 0) hf0 (JL.norm (i := 1) hf1 (JL.norm (i := 2) hf2 (JL.norm (i := 3) hf3 (JL.norm (i := 4) hf4 (JL.norm (i := 5) hf5 (JL.norm (i := 6) hf6 (JL.norm (i := 17) hf17 (JL.norm (i := 18) hf18 (JL.norm (i := 9) hf9 (JL.norm (i := 36) hf36 ?_)))))))))))
            refine JL.doneQ hQ ?_
            refine JQ.go ?_
            rcases ite_some hF with ⟨hc3, hF⟩ | ⟨hc3, hF⟩
            · refine JC.cond_t (b := cnd) rfl hc3 ?_
              obtain rfl := Option.some.inj hF
              refine JC.exit ?_
              refine JQ.exit_then ?_
              refine JQ.exit_block ?_
              refine JQ.go ?_
              refine JC.region (by rfl) ?_
              intro hQ
              refine JL.bin rfl rfl rfl .none rfl ?_
              refine JL.move .none rfl ?_
              refine JL.done hQ ?_
              exact JQ.next rfl ⟨fr1, rfl, rfl, rfl, rfl, rfl, rfl, rfl, rfl, rfl, rfl, hA1, hs1, hl1⟩
            · refine JC.cond_f (b := cnd) rfl hc3 ?_
              obtain ⟨xs2, hxs2, hF⟩ := bind_some hF
              obtain ⟨⟨y2, xs3⟩, hk, hF⟩ := bind_some hF
              obtain ⟨g0, g1, rfl⟩ := seti_some hxs2
              refine JC.skip ?_
              refine JQ.go ?_
              refine JC.seq ?_
              refine JC.region (by rfl) ?_
              intro hQ
              refine JL.loadOwn 2 mz_az26 rfl rfl rfl .none rfl ?_
              refine JL.move .none rfl ?_
              refine JL.move .none rfl ?_
              refine JL.indexAt mz_sl26 rfl rfl g0 (by omega) .none rfl ?_
              refine JL.storeAt 0 (v := .int .i64 i) (l' := (xs1.set day.toNat i).map (Value.int .i64)) mz_az3 rfl rfl ⟨rfl, rfl⟩ rfl (by simp; omega) (by simp [List.map_set]) .none ?_
              refine JL.done hQ ?_
              refine JQ.go ?_
              refine JC.seq ?_
              refine JC.region (by rfl) ?_
              intro hQ
              refine JL.loadOwn 3 mz_az100 rfl rfl rfl .none rfl ?_
              refine JL.move .none rfl ?_
              refine JL.bin rfl rfl rfl .none rfl ?_
              refine JL.callG rfl (fun w hw => ih (w64 (day + 1)) (xs1.set day.toNat i) s1 y2 xs3 hk H1 fr1 gs1 (hsub.trans hs1) hA1 (by simp [hl1]) w hw) rfl mz_en83 .none rfl ?_
              rintro v H4 bs4 gs4 ⟨fr4, rfl, hl4, hs4, rfl, hy4⟩
              refine JL.not rfl .none rfl ?_
              refine JL.done hQ ?_
              refine JQ.go ?_
              cases y2 with
              | inl s' =>
                obtain rfl := Option.some.inj hF
                refine JC.cond_f (b := !(Sum.inl s' : σ ⊕ ρ).isLeft) rfl rfl ?_
                refine JC.skip ?_
                refine JQ.normal_block ?_
                refine JQ.go ?_
                refine JC.region (by rfl) ?_
                intro hQ
                refine JL.bin rfl rfl rfl .none rfl ?_
                refine JL.move .none rfl ?_
                refine JL.done hQ ?_
                exact JQ.next rfl ⟨fr4, rfl, rfl, rfl, rfl, rfl, rfl, rfl, rfl, rfl, rfl, hy4, hs1.trans hs4, hl4⟩
              | inr e =>
                obtain rfl := Option.some.inj hF
                have e2 := hr _ rfl
                obtain ⟨rfl, rfl⟩ := Prod.mk.inj e2
                refine JC.cond_t (b := !(Sum.inr e : σ ⊕ ρ).isLeft) rfl rfl ?_
                refine JC.seq ?_
                refine JC.region (by rfl) ?_
                intro hQ
                refine JL.assign .none rfl ?_
                refine JL.done hQ ?_
                refine JQ.go ?_
                refine JC.ret ?_
                refine JQ.ret_block ?_
                refine JQ.ret_then ?_
                refine JQ.ret_then ?_
                refine JQ.ret_block ?_
                refine JQ.ret_then ?_
                exact out hl4 (hs1.trans hs4) (by rfl) hy4
        · refine JC.cond_f (b := decide (i < w64 (highest + 1))) rfl hc2 ?_
          obtain rfl := Option.some.inj hF
          have e2 := hr _ rfl
          obtain ⟨rfl, rfl⟩ := Prod.mk.inj e2
          refine JC.exit ?_
          refine JQ.exit_then ?_
          refine JQ.exit_then ?_
          refine JQ.exit_block ?_
          refine JQ.go ?_
          refine JC.seq ?_
          refine JC.region (by rfl) ?_
          intro hQ
          refine JL.assign .none rfl ?_
          refine JL.done hQ ?_
          refine JQ.go ?_
          refine JC.ret ?_
          exact out hl1 hs1 (by rfl) hA1
    have hwp := walk hNo _ w (fr_start (by simp [hcaps])) hst
    exact (callsIn_wide (n := 0)).1 (callsIn_of_wp (fn := Try.f83) Try.func83 (by rfl) trivial hwp)


theorem mz_ze26 : zeroL Try.prog 26 = some [.slice none 0 0] := by kernel_rfl
theorem mz_ze100 : zeroL Try.prog 100 = some [.nilFunc] := by kernel_rfl
theorem mz_ul26 : Try.prog.underlying 26 = some (.slice 3) := by kernel_rfl
theorem mz_i3 : ∃ i, Try.prog.info? 3 = some i ∧ i.zero = some (.int .i64 0) ∧ i.size = 1 ∧ i.bytes = 8 := info_parts (by kernel_rfl)

set_option maxRecDepth 100000 in
set_option maxHeartbeats 4000000 in
theorem it_rains_rows_1 (n : Nat) (H : Hp) (days : Int) (days_b : Nat) (days_c : Cells H days_b 0 [.int .i64 days]) (highest : Int) (highest_b : Nat) (highest_c : Cells H highest_b 0 [.int .i64 highest]) (step : Int) (step_b : Nat) (step_c : Cells H step_b 0 [.int .i64 step]) :
    IT Try.prog 82 [.pointer (some ⟨days_b, 0, none⟩), .pointer (some ⟨highest_b, 0, none⟩), .pointer (some ⟨step_b, 0, none⟩)] H (VRow 3) (fun _ _ cs s => I_rains_rows_1 n days highest step cs s) := by
  refine IT.of (N := 12) Try.func82 rfl rfl rfl rfl fun σ ρ B A Ax cs l s0 y hF hY H1 fr gs Q hs1 hA hout => ?_
  unfold I_rains_rows_1 at hF
  split at hF
  · rename_i hd
    obtain ⟨⟨y0, xs'⟩, hf, hF⟩ := bind_some hF
    obtain rfl := Option.some.inj hF
    obtain ⟨i3, k1, k2, k3, k4⟩ := mz_i3
    refine JC.seq ?_
    refine JC.region (by rfl) ?_
    intro hQ
    refine JL.box (cs := [.func (.yield l) #[] #[]]) rfl .none rfl ?_
    intro b4
    refine JL.done hQ ?_
    refine JQ.go ?_
    refine JC.seq ?_
    refine JC.region (by rfl) ?_
    intro hQ
    refine JL.loadH 0 mz_az3 rfl (Cells.mono hs1 days_c) rfl .none rfl ?_
    refine JL.makeInts mz_ul26 k1 k2 k3 k4 rfl rfl hd.1 hd.2 .none rfl ?_
    intro br
    refine JL.alloc mz_ze26 .none rfl ?_
    intro b5
    refine JL.storeOwn 0 (cs := [.slice (some ⟨br, 0, none⟩) days.toNat days.toNat]) mz_az26 rfl rfl rfl (one_cons rfl one_nil) rfl rfl .none ?_
    refine JL.done hQ ?_
    refine JQ.go ?_
    refine JC.seq ?_
    refine JC.region (by rfl) ?_
    intro hQ
    refine JL.alloc mz_ze100 .none rfl ?_
    intro b6
    refine JL.done hQ ?_
    refine JQ.go ?_
    refine JC.seq ?_
    refine JC.region (by rfl) ?_
    intro hQ
    refine JL.makeFunc .none rfl ?_
    refine JL.storeOwn 0 (cs := [.func (.func 83) #[] ([.pointer (some ⟨days_b, 0, none⟩), .pointer (some ⟨b4, 0, none⟩), .pointer (some ⟨b5, 0, none⟩), .pointer (some ⟨highest_b, 0, none⟩), .pointer (some ⟨step_b, 0, none⟩), .pointer (some ⟨b6, 0, none⟩)] : List Value).toArray]) mz_az100 rfl rfl rfl (one_cons rfl one_nil) rfl rfl .none ?_
    refine JL.done hQ ?_
    refine JQ.go ?_
    refine JC.region (by rfl) ?_
    intro hQ
    refine JL.loadOwn 0 mz_az100 rfl rfl rfl .none rfl ?_
    refine JL.callG (caps := [.pointer (some ⟨days_b, 0, none⟩), .pointer (some ⟨b4, 0, none⟩), .pointer (some ⟨b5, 0, none⟩), .pointer (some ⟨highest_b, 0, none⟩), .pointer (some ⟨step_b, 0, none⟩), .pointer (some ⟨b6, 0, none⟩)]) rfl
      (fun w hw => c_fill B A Ax cs l hY H days highest step days_b highest_b step_b days_c highest_c step_c br b4 b5 b6 days.toNat days.toNat (by omega) (Nat.le_refl _) _ rfl n 0 _ s0 y0 xs' hf H1 fr gs hs1 hA (by simp) w
        (hw.perm ((swapAt_perm 1 _).trans ((swapAt_perm 0 _).trans ((swapAt_perm 2 _).trans ((swapAt_perm 1 _).trans (swapAt_perm 2 _))))))) rfl mz_en83 .none rfl ?_
    rintro v H4 bs4 gs4 ⟨fr4, rfl, hl4, hs4, rfl, hy4⟩
    refine JL.done hQ ?_
    exact (hout H4 _ (own4 br b4 b5 b6 days.toNat days.toNat l [.pointer (some ⟨days_b, 0, none⟩), .pointer (some ⟨b4, 0, none⟩), .pointer (some ⟨b5, 0, none⟩), .pointer (some ⟨highest_b, 0, none⟩), .pointer (some ⟨step_b, 0, none⟩), .pointer (some ⟨b6, 0, none⟩)] xs' []) fr4 gs4 hs4 hy4).2
  · cases hF
end Go.Proofs.Ytooankffknoomaa
