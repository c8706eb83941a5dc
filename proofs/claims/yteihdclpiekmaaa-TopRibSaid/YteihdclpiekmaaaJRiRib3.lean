/-
  A part of the proof of RiRib: the texts RiGenK2, RiGenK3.
-/
import Derived.Test.YteihdclpiekmaaaJRiRib2
section
set_option maxRecDepth 100000
set_option maxHeartbeats 40000000
namespace Go.Proofs.Yteihdclpiekmaaa
open Go Go.RowKit Go.Dec
set_option linter.unusedVariables false
-- 63 ferrule/ferruleref07.Check
def F_ref07_Check_s2 (n : Nat) (w_ : Workshop) (i_2243 : Int) : Int → Option (Int ⊕ ((Int ⊕ (Int ⊕ Unit)) ⊕ Unit))
 | k_2617 => if decide (k_2617 < i_2243) = true then ((geti w_.Table k_2617).bind fun y2632 => (geti w_.Table i_2243).bind fun y2637 => if ((((y2632.Spare == y2637.Spare) && (y2632.Make == y2637.Make)) && (y2632.Slot == y2637.Slot)) && (y2632.Fits != y2637.Fits)) = true then (some (Sum.inr (Sum.inl (Sum.inr (Sum.inl 71))))) else (some (Sum.inl (w64 (k_2617 + 1))))) else (some (Sum.inr (Sum.inr ())))
def F_ref07_Check_s1 (n : Nat) (w_ : Workshop) : Int → Option (Int ⊕ (Int ⊕ Unit))
 | i_2243 => if decide (i_2243 < (w_.Table.length : Int)) = true then ((loopO n (F_ref07_Check_s2 n w_ i_2243) 0).bind fun r2470 => match r2470 with | .inl o => some o | .inr _ => some (Sum.inl (w64 (i_2243 + 1)))) else (some (Sum.inr (Sum.inr ())))
def F_ref07_Check (n : Nat) (w_ : Workshop) : Option Int :=
 (F_ref07_isWorkshop n w_).bind fun y2 => if (!y2) = true then (some 70) else ((loopO n (F_ref07_Check_s1 n w_) 0).bind fun r1348 => match r1348 with | .inl o => some o | .inr _ => some 0)
theorem c_ref07_Check (n : Nat) (H : Hp) (w_ : Workshop) (w__v0 : Value) (hw__0 : SL H 4 R_Spare w__v0 w_.Spares) (w__v1 : Value) (hw__1 : SL H 1 R_Make w__v1 w_.Makes) (w__v3 : Value) (hw__3 : SL H 4 R_Trial w__v3 w_.Table) (y : Int) (hF : F_ref07_Check n w_ = some y) : SC Try.prog 63 [.agg [w__v0, w__v1, .int .i64 w_.Cut, w__v3].toArray] (.int .i64 y) H := by
 rw [F_ref07_Check] at hF
 refine SC.of (N := 58) Try.func63 rfl rfl rfl fun w => ?_
 refine JC.seq (JC.region (by rfl) ?_)
 intro hQ
 refine JL.box (cs := [w__v0, w__v1, .int .i64 w_.Cut, w__v3]) rfl .none rfl ?_
 intro b1
 refine JL.assign .none rfl ?_
 refine JL.done hQ (JQ.go (JC.seq (JC.seq (JC.region (by rfl) ?_))))
 intro hQ
 refine JL.loadOwn 0 az_48 rfl rfl rfl .none rfl ?_
 obtain ⟨y2, hy2, hF⟩ := bind_some hF
 refine JL.callS (c_ref07_isWorkshop n H w_ w__v0 hw__0 w__v1 hw__1 w__v3 hw__3 y2 hy2) rfl en_117 .none rfl ?_
 refine JL.not rfl .none rfl ?_
 refine JL.done hQ (JQ.go ?_)
 rcases ite_some hF with ⟨hc3, hF⟩ | ⟨hc3, hF⟩
 ·refine JC.cond_t (b := (!y2)) rfl hc3 ?_
  refine JC.seq (JC.region (by rfl) ?_)
  intro hQ
  refine JL.assign .none rfl ?_
  refine JL.done hQ (JQ.go (JC.ret (JQ.ret_then ?_)))
  obtain rfl := Option.some.inj hF
  exact JQ.outS rfl (.tmp .nil) rfl
 ·refine JC.cond_f (b := (!y2)) rfl hc3 ?_
  refine JC.skip (JQ.go (JC.seq (JC.seq (JC.region (by rfl) ?_))))
  intro hQ
  refine JL.assign .none rfl ?_
  refine JL.done hQ (JQ.go ?_)
  obtain ⟨r1348, hlr1348, hKr1348⟩ := bind_some hF
  refine JC.join (fun (_ : Unit) H1347 f bs gs => bs = [] ∧ gs = [] ∧ HSub H H1347 ∧ Sum.inr () = r1348) ?_ ?_
  ·skip
   refine JC.block (JC.loop hlr1348 (fun (i_2243 : Int) H2244 f bs gs => f 1 = .pointer (some ⟨b1, 0, none⟩) ∧ f 3 = .int .i64 i_2243 ∧ bs = [(b1, .cells [w__v0, w__v1, .int .i64 w_.Cut, w__v3].toArray 48)] ∧ gs = [] ∧ HSub H H2244) ⟨rfl, rfl, rfl, rfl, (HSub.refl _)⟩ ?_)
   rintro i_2243 x2246 H2244 f bs gs ⟨hf1, hf3, rfl, rfl, hs2244⟩ hF hr2245
   rw [F_ref07_Check_s1] at hF
   refine (JC.norm (i := 1) hf1 (JC.norm (i := 3) hf3 ?_))
   refine JC.seq (JC.seq (JC.region (by rfl) ?_))
   intro hQ
   refine JL.move .none rfl ?_
   refine JL.fieldAddr fo_48_3 rfl .none rfl ?_
   refine JL.loadOwn 0 az_46 rfl rfl rfl .none rfl ?_
   refine JL.lenSL (R := R_Trial) ul_46 (SL.mono R_Trial_mono hs2244 hw__3) .none rfl ?_
   refine JL.bin rfl rfl rfl .none rfl ?_
   refine JL.done hQ (JQ.go ?_)
   rcases ite_some hF with ⟨hc2247, hF⟩ | ⟨hc2247, hF⟩
   ·refine JC.cond_t (b := decide (i_2243 < (w_.Table.length : Int))) rfl hc2247 ?_
    refine JC.skip (JQ.go (JC.seq (JC.block (JC.seq (JC.region (by rfl) ?_)))))
    intro hQ
    refine JL.assign .none rfl ?_
    refine JL.done hQ (JQ.go ?_)
    obtain ⟨r2470, hlr2470, hKr2470⟩ := bind_some hF
    refine JC.join (fun (_ : Unit) H2469 f bs gs => f 1 = .pointer (some ⟨b1, 0, none⟩) ∧ f 3 = .int .i64 i_2243 ∧ bs = [(b1, .cells [w__v0, w__v1, .int .i64 w_.Cut, w__v3].toArray 48)] ∧ gs = [] ∧ HSub H2244 H2469 ∧ Sum.inr () = r2470) ?_ ?_
    ·skip
     refine JC.block (JC.loop hlr2470 (fun (k_2617 : Int) H2618 f bs gs => f 1 = .pointer (some ⟨b1, 0, none⟩) ∧ f 3 = .int .i64 i_2243 ∧ f 4 = .int .i64 k_2617 ∧ bs = [(b1, .cells [w__v0, w__v1, .int .i64 w_.Cut, w__v3].toArray 48)] ∧ gs = [] ∧ HSub H2244 H2618) ⟨rfl, rfl, rfl, rfl, rfl, (HSub.refl _)⟩ ?_)
     rintro k_2617 x2620 H2618 f bs gs ⟨hf1, hf3, hf4, rfl, rfl, hs2618⟩ hF hr2619
     rw [F_ref07_Check_s2] at hF
     refine (JC.norm (i := 1) hf1 (JC.norm (i := 3) hf3 (JC.norm (i := 4) hf4 ?_)))
     refine JC.seq (JC.seq (JC.region (by rfl) ?_))
     intro hQ
     refine JL.move .none rfl ?_
     refine JL.move .none rfl ?_
     refine JL.bin rfl rfl rfl .none rfl ?_
     refine JL.done hQ (JQ.go ?_)
     rcases ite_some hF with ⟨hc2621, hF⟩ | ⟨hc2621, hF⟩
     ·refine JC.cond_t (b := decide (k_2617 < i_2243)) rfl hc2621 ?_
      refine JC.skip (JQ.go (JC.seq (JC.block (JC.seq ?_))))
      obtain ⟨y2632, hy2632, hF⟩ := bind_some hF
      obtain ⟨y2637, hy2637, hF⟩ := bind_some hF
      refine JC.mixed 14 14 #[false, false, false, false, false, false, false, false, false, false, false, false, false, false] [(b1, .cells [w__v0, w__v1, .int .i64 w_.Cut, w__v3].toArray 48)] (by rfl) mo_ (by kernel_rfl) (by kernel_rfl) ?_
      intro hQ hE
      refine JA.cut 2 #[true, true, true, true, true, true, true, true, true, true, true, true, false, false] (fun H2664 f bs gs => ∃ (b2662 : Nat) (b2660 : Nat), f 1 = .pointer (some ⟨b1, 0, none⟩) ∧ f 3 = .int .i64 i_2243 ∧ f 4 = .int .i64 k_2617 ∧ f 5 = .pointer (some ⟨b2660, 0, none⟩) ∧ f 6 = .pointer (some ⟨b2662, 0, none⟩) ∧ f 26 = .agg [.int .i64 y2632.Spare, .int .i64 y2632.Make, .int .i64 y2632.Slot, .int .i64 y2632.Fits].toArray ∧ f 31 = .agg [.int .i64 y2637.Spare, .int .i64 y2637.Make, .int .i64 y2637.Slot, .int .i64 y2637.Fits].toArray ∧ bs = [(b2662, .cells [.int .i64 0, .int .i64 0, .int .i64 0, .int .i64 0].toArray 55), (b2660, .cells [.int .i64 0, .int .i64 0, .int .i64 0, .int .i64 0].toArray 55), (b1, .cells [w__v0, w__v1, .int .i64 w_.Cut, w__v3].toArray 48)] ∧ gs = [] ∧ HSub H2618 H2664) ?_ ?_
      ·rintro H2664 f bs gs ⟨b2662, b2660, hf1, hf3, hf4, hf5, hf6, hf26, hf31, rfl, rfl, hs2664⟩
       refine (JA.norm (i := 1) hf1 (JA.norm (i := 3) hf3 (JA.norm (i := 4) hf4 (JA.norm (i := 5) hf5 (JA.norm (i := 6) hf6 (JA.norm (i := 26) hf26 (JA.norm (i := 31) hf31 ?_)))))))
       refine JA.many [12] (by kernel_rfl) (by simp) (all_one ⟨_, #[true, true, true, true, true, true, true, true, true, true, true, true, true, false], rfl, (by kernel_rfl), ?_⟩)
       refine JL.storeOwn 1 (cs := [.int .i64 y2632.Spare, .int .i64 y2632.Make, .int .i64 y2632.Slot, .int .i64 y2632.Fits]) az_55 rfl rfl rfl (one_cons rfl (one_cons rfl (one_cons rfl (one_cons rfl one_nil)))) rfl rfl .none ?_
       refine JA.after hE hs2664 (.cons _ (.cons _ (.cons_cons _ (List.nil_sublist _)))) ?_
       refine JA.many [13] (by kernel_rfl) (by simp) (all_one ⟨_, #[true, true, true, true, true, true, true, true, true, true, true, true, true, true], rfl, (by kernel_rfl), ?_⟩)
       refine JL.storeOwn 0 (cs := [.int .i64 y2637.Spare, .int .i64 y2637.Make, .int .i64 y2637.Slot, .int .i64 y2637.Fits]) az_55 rfl rfl rfl (one_cons rfl (one_cons rfl (one_cons rfl (one_cons rfl one_nil)))) rfl rfl .none ?_
       refine JA.after hE hs2664 (.cons _ (.cons _ (.cons_cons _ (List.nil_sublist _)))) ?_
       refine JA.done hQ (by kernel_rfl) ?_
       refine JQ.go (JC.seq (JC.region (by rfl) ?_))
       intro hQ
       refine JL.fieldAddr fo_55_0 rfl .none rfl ?_
       refine JL.loadOwn 1 az_3 rfl rfl rfl .none rfl ?_
       refine JL.fieldAddr fo_55_0 rfl .none rfl ?_
       refine JL.loadOwn 0 az_3 rfl rfl rfl .none rfl ?_
       refine JL.bin rfl rfl rfl .none rfl ?_
       refine JL.move .none rfl ?_
       refine JL.cut 6 (fun f => f 1 = .pointer (some ⟨b1, 0, none⟩) ∧ f 3 = .int .i64 i_2243 ∧ f 4 = .int .i64 k_2617 ∧ f 5 = .pointer (some ⟨b2660, 0, none⟩) ∧ f 6 = .pointer (some ⟨b2662, 0, none⟩) ∧ f 43 = .bool ((y2632.Spare == y2637.Spare) && (y2632.Make == y2637.Make))) ?_ ?_
       ·intro hJ2665
        rcases bcases (y2632.Spare == y2637.Spare) with hc2666 | hc2666
        ·skip
         refine JL.fieldAddr fo_55_1 rfl (.some rfl rfl rfl hc2666) rfl ?_
         refine JL.loadOwn 1 az_3 rfl rfl rfl (.some rfl rfl rfl hc2666) rfl ?_
         refine JL.fieldAddr fo_55_1 rfl (.some rfl rfl rfl hc2666) rfl ?_
         refine JL.loadOwn 0 az_3 rfl rfl rfl (.some rfl rfl rfl hc2666) rfl ?_
         refine JL.bin rfl rfl rfl (.some rfl rfl rfl hc2666) rfl ?_
         refine JL.pick_t (b := (y2632.Spare == y2637.Spare)) rfl hc2666 .none rfl ?_
         exact hJ2665 _ ⟨rfl, rfl, rfl, rfl, rfl, and_t hc2666 rfl⟩
        ·skip
         refine JL.skip (.bool rfl rfl rfl hc2666) rfl ?_
         refine JL.skip (.bool rfl rfl rfl hc2666) rfl ?_
         refine JL.skip (.bool rfl rfl rfl hc2666) rfl ?_
         refine JL.skip (.bool rfl rfl rfl hc2666) rfl ?_
         refine JL.skip (.bool rfl rfl rfl hc2666) rfl ?_
         refine JL.pick_f (b := (y2632.Spare == y2637.Spare)) rfl hc2666 .none rfl ?_
         exact hJ2665 _ ⟨rfl, rfl, rfl, rfl, rfl, and_f hc2666 rfl⟩
       ·rintro f ⟨hf1, hf3, hf4, hf5, hf6, hf43⟩
        refine (JL.norm (i := 1) hf1 (JL.norm (i := 3) hf3 (JL.norm (i := 4) hf4 (JL.norm (i := 5) hf5 (JL.norm (i := 6) hf6 (JL.norm (i := 43) hf43 ?_))))))
        refine JL.move .none rfl ?_
        refine JL.cut 6 (fun f => f 1 = .pointer (some ⟨b1, 0, none⟩) ∧ f 3 = .int .i64 i_2243 ∧ f 4 = .int .i64 k_2617 ∧ f 5 = .pointer (some ⟨b2660, 0, none⟩) ∧ f 6 = .pointer (some ⟨b2662, 0, none⟩) ∧ f 50 = .bool (((y2632.Spare == y2637.Spare) && (y2632.Make == y2637.Make)) && (y2632.Slot == y2637.Slot))) ?_ ?_
        ·intro hJ2667
         rcases bcases ((y2632.Spare == y2637.Spare) && (y2632.Make == y2637.Make)) with hc2668 | hc2668
         ·skip
          refine JL.fieldAddr fo_55_2 rfl (.some rfl rfl rfl hc2668) rfl ?_
          refine JL.loadOwn 1 az_3 rfl rfl rfl (.some rfl rfl rfl hc2668) rfl ?_
          refine JL.fieldAddr fo_55_2 rfl (.some rfl rfl rfl hc2668) rfl ?_
          refine JL.loadOwn 0 az_3 rfl rfl rfl (.some rfl rfl rfl hc2668) rfl ?_
          refine JL.bin rfl rfl rfl (.some rfl rfl rfl hc2668) rfl ?_
          refine JL.pick_t (b := ((y2632.Spare == y2637.Spare) && (y2632.Make == y2637.Make))) rfl hc2668 .none rfl ?_
          exact hJ2667 _ ⟨rfl, rfl, rfl, rfl, rfl, and_t hc2668 rfl⟩
         ·skip
          refine JL.skip (.bool rfl rfl rfl hc2668) rfl ?_
          refine JL.skip (.bool rfl rfl rfl hc2668) rfl ?_
          refine JL.skip (.bool rfl rfl rfl hc2668) rfl ?_
          refine JL.skip (.bool rfl rfl rfl hc2668) rfl ?_
          refine JL.skip (.bool rfl rfl rfl hc2668) rfl ?_
          refine JL.pick_f (b := ((y2632.Spare == y2637.Spare) && (y2632.Make == y2637.Make))) rfl hc2668 .none rfl ?_
          exact hJ2667 _ ⟨rfl, rfl, rfl, rfl, rfl, and_f hc2668 rfl⟩
        ·rintro f ⟨hf1, hf3, hf4, hf5, hf6, hf50⟩
         refine (JL.norm (i := 1) hf1 (JL.norm (i := 3) hf3 (JL.norm (i := 4) hf4 (JL.norm (i := 5) hf5 (JL.norm (i := 6) hf6 (JL.norm (i := 50) hf50 ?_))))))
         refine JL.move .none rfl ?_
         refine JL.cut 6 (fun f => f 1 = .pointer (some ⟨b1, 0, none⟩) ∧ f 3 = .int .i64 i_2243 ∧ f 4 = .int .i64 k_2617 ∧ f 57 = .bool ((((y2632.Spare == y2637.Spare) && (y2632.Make == y2637.Make)) && (y2632.Slot == y2637.Slot)) && (y2632.Fits != y2637.Fits))) ?_ ?_
         ·intro hJ2669
          rcases bcases (((y2632.Spare == y2637.Spare) && (y2632.Make == y2637.Make)) && (y2632.Slot == y2637.Slot)) with hc2670 | hc2670
          ·skip
           refine JL.fieldAddr fo_55_3 rfl (.some rfl rfl rfl hc2670) rfl ?_
           refine JL.loadOwn 1 az_3 rfl rfl rfl (.some rfl rfl rfl hc2670) rfl ?_
           refine JL.fieldAddr fo_55_3 rfl (.some rfl rfl rfl hc2670) rfl ?_
           refine JL.loadOwn 0 az_3 rfl rfl rfl (.some rfl rfl rfl hc2670) rfl ?_
           refine JL.bin rfl rfl rfl (.some rfl rfl rfl hc2670) rfl ?_
           refine JL.pick_t (b := (((y2632.Spare == y2637.Spare) && (y2632.Make == y2637.Make)) && (y2632.Slot == y2637.Slot))) rfl hc2670 .none rfl ?_
           exact hJ2669 _ ⟨rfl, rfl, rfl, and_t hc2670 rfl⟩
          ·skip
           refine JL.skip (.bool rfl rfl rfl hc2670) rfl ?_
           refine JL.skip (.bool rfl rfl rfl hc2670) rfl ?_
           refine JL.skip (.bool rfl rfl rfl hc2670) rfl ?_
           refine JL.skip (.bool rfl rfl rfl hc2670) rfl ?_
           refine JL.skip (.bool rfl rfl rfl hc2670) rfl ?_
           refine JL.pick_f (b := (((y2632.Spare == y2637.Spare) && (y2632.Make == y2637.Make)) && (y2632.Slot == y2637.Slot))) rfl hc2670 .none rfl ?_
           exact hJ2669 _ ⟨rfl, rfl, rfl, and_f hc2670 rfl⟩
         ·rintro f ⟨hf1, hf3, hf4, hf57⟩
          refine (JL.norm (i := 1) hf1 (JL.norm (i := 3) hf3 (JL.norm (i := 4) hf4 (JL.norm (i := 57) hf57 ?_))))
          refine JL.done hQ (JQ.go ?_)
          rcases ite_some hF with ⟨hc2671, hF⟩ | ⟨hc2671, hF⟩
          ·refine JC.cond_t (b := ((((y2632.Spare == y2637.Spare) && (y2632.Make == y2637.Make)) && (y2632.Slot == y2637.Slot)) && (y2632.Fits != y2637.Fits))) rfl hc2671 ?_
           refine JC.seq (JC.region (by rfl) ?_)
           intro hQ
           refine JL.assign .none rfl ?_
           refine JL.done hQ (JQ.go (JC.ret (JQ.ret_block (JQ.ret_then (JQ.ret_then (JQ.ret_block (JQ.ret_join (JQ.ret_block (JQ.ret_then (JQ.ret_then (JQ.ret_block (JQ.ret_join (JQ.ret_then ?_)))))))))))))
           obtain rfl := Option.some.inj hF
           have ehr2619 := hr2619 _ rfl
           subst ehr2619
           have hF := hKr2470
           try dsimp only at hF
           obtain rfl := Option.some.inj hF
           have ehr2245 := hr2245 _ rfl
           subst ehr2245
           have hF := hKr1348
           try dsimp only at hF
           obtain rfl := Option.some.inj hF
           exact JQ.outS rfl (.tmp .nil) rfl
          ·refine JC.cond_f (b := ((((y2632.Spare == y2637.Spare) && (y2632.Make == y2637.Make)) && (y2632.Slot == y2637.Slot)) && (y2632.Fits != y2637.Fits))) rfl hc2671 ?_
           refine JC.skip (JQ.normal_block (JQ.go (JC.region (by rfl) ?_)))
           intro hQ
           refine JL.move .none rfl ?_
           refine JL.bin rfl rfl rfl .none rfl ?_
           refine JL.assign .none rfl ?_
           refine JL.done hQ ?_
           obtain rfl := Option.some.inj hF
           refine JQ.mask [false, false, true] [] ?_
           exact JQ.next rfl ⟨rfl, rfl, rfl, rfl, rfl, (HSub.trans hs2618 hs2664)⟩
      intro nd2663_0
      refine JA.take 0 (listed' := #[true, false, false, false, false, false, false, false, false, false, false, false, false, false]) hQ rfl (by kernel_rfl) (by kernel_rfl) (by kernel_rfl) (by kernel_rfl) (by kernel_rfl) hE (HSub.refl _) (.cons_cons _ (List.nil_sublist _)) ?_
      refine JL.fieldAddr fo_48_3 rfl .none rfl ?_
      refine JA.cont ?_
      refine JA.take 1 (listed' := #[true, true, false, false, false, false, false, false, false, false, false, false, false, false]) hQ rfl (by kernel_rfl) (by kernel_rfl) (by kernel_rfl) (by kernel_rfl) (by kernel_rfl) hE (HSub.refl _) (.cons_cons _ (List.nil_sublist _)) ?_
      refine JL.loadOwn 0 az_46 rfl rfl rfl .none rfl ?_
      refine JA.cont ?_
      refine JA.take 2 (listed' := #[true, true, true, false, false, false, false, false, false, false, false, false, false, false]) hQ rfl (by kernel_rfl) (by kernel_rfl) (by kernel_rfl) (by kernel_rfl) (by kernel_rfl) hE (HSub.refl _) (.cons_cons _ (List.nil_sublist _)) ?_
      refine JL.move .none rfl ?_
      refine JA.cont ?_
      refine JA.take 3 (listed' := #[true, true, true, true, false, false, false, false, false, false, false, false, false, false]) hQ rfl (by kernel_rfl) (by kernel_rfl) (by kernel_rfl) (by kernel_rfl) (by kernel_rfl) hE (HSub.refl _) (.cons_cons _ (List.nil_sublist _)) ?_
      refine JL.indexSL (R := R_Trial) sl_46 (SL.mono R_Trial_mono (HSub.trans hs2244 hs2618) hw__3) rfl hy2632 .none rfl ?_
      rintro b2676 o2677 cs2678 hc2679 - rfl
      refine JA.cont ?_
      refine JA.take 4 (listed' := #[true, true, true, true, true, false, false, false, false, false, false, false, false, false]) hQ rfl (by kernel_rfl) (by kernel_rfl) (by kernel_rfl) (by kernel_rfl) (by kernel_rfl) hE (HSub.refl _) (.cons_cons _ (List.nil_sublist _)) ?_
      refine JL.loadH 0 az_55 rfl hc2679 rfl .none rfl ?_
      refine JA.cont ?_
      refine JA.take 5 (listed' := #[true, true, true, true, true, true, false, false, false, false, false, false, false, false]) hQ rfl (by kernel_rfl) (by kernel_rfl) (by kernel_rfl) (by kernel_rfl) (by kernel_rfl) hE (HSub.refl _) (.cons_cons _ (List.nil_sublist _)) ?_
      refine JL.fieldAddr fo_48_3 rfl .none rfl ?_
      refine JA.cont ?_
      refine JA.take 6 (listed' := #[true, true, true, true, true, true, true, false, false, false, false, false, false, false]) hQ rfl (by kernel_rfl) (by kernel_rfl) (by kernel_rfl) (by kernel_rfl) (by kernel_rfl) hE (HSub.refl _) (.cons_cons _ (List.nil_sublist _)) ?_
      refine JL.loadOwn 0 az_46 rfl rfl rfl .none rfl ?_
      refine JA.cont ?_
      refine JA.take 7 (listed' := #[true, true, true, true, true, true, true, true, false, false, false, false, false, false]) hQ rfl (by kernel_rfl) (by kernel_rfl) (by kernel_rfl) (by kernel_rfl) (by kernel_rfl) hE (HSub.refl _) (.cons_cons _ (List.nil_sublist _)) ?_
      refine JL.move .none rfl ?_
      refine JA.cont ?_
      refine JA.take 8 (listed' := #[true, true, true, true, true, true, true, true, true, false, false, false, false, false]) hQ rfl (by kernel_rfl) (by kernel_rfl) (by kernel_rfl) (by kernel_rfl) (by kernel_rfl) hE (HSub.refl _) (.cons_cons _ (List.nil_sublist _)) ?_
      refine JL.indexSL (R := R_Trial) sl_46 (SL.mono R_Trial_mono (HSub.trans hs2244 hs2618) hw__3) rfl hy2637 .none rfl ?_
      rintro b2684 o2685 cs2686 hc2687 - rfl
      refine JA.cont ?_
      refine JA.take 9 (listed' := #[true, true, true, true, true, true, true, true, true, true, false, false, false, false]) hQ rfl (by kernel_rfl) (by kernel_rfl) (by kernel_rfl) (by kernel_rfl) (by kernel_rfl) hE (HSub.refl _) (.cons_cons _ (List.nil_sublist _)) ?_
      refine JL.loadH 0 az_55 rfl hc2687 rfl .none rfl ?_
      refine JA.cont ?_
      refine JA.many [10, 11] (by kernel_rfl) (by simp) (all_cons ⟨_, #[true, true, true, true, true, true, true, true, true, true, true, false, false, false], rfl, (by kernel_rfl), ?_⟩ (all_one ⟨_, #[true, true, true, true, true, true, true, true, true, true, false, true, false, false], rfl, (by kernel_rfl), ?_⟩))
      ·skip
       refine JL.alloc ze_55 .none rfl ?_
       intro b2688
       refine JA.after hE (HSub.refl _) (.cons _ (.cons_cons _ (List.nil_sublist _))) ?_
       refine JA.many [11] (by kernel_rfl) (by simp) (all_one ⟨_, #[true, true, true, true, true, true, true, true, true, true, true, true, false, false], rfl, (by kernel_rfl), ?_⟩)
       refine JL.alloc ze_55 .none rfl ?_
       intro b2689
       refine JA.after hE (HSub.refl _) (.cons _ (.cons _ (.cons_cons _ (List.nil_sublist _)))) ?_
       exact nd2663_0 _ _ _ _ ⟨b2689, b2688, rfl, rfl, rfl, rfl, rfl, rfl, rfl, rfl, rfl, (HSub.refl _)⟩
      ·skip
       refine JL.alloc ze_55 .none rfl ?_
       intro b2690
       refine JA.after hE (HSub.refl _) (.cons _ (.cons_cons _ (List.nil_sublist _))) ?_
       refine JA.many [10] (by kernel_rfl) (by simp) (all_one ⟨_, #[true, true, true, true, true, true, true, true, true, true, true, true, false, false], rfl, (by kernel_rfl), ?_⟩)
       refine JL.alloc ze_55 .none rfl ?_
       intro b2691
       refine JA.after hE (HSub.refl _) (.cons _ (.cons _ (.cons_cons _ (List.nil_sublist _)))) ?_
       refine JA.perm (swapAt_perm 0 _) ?_
       exact nd2663_0 _ _ _ _ ⟨b2690, b2691, rfl, rfl, rfl, rfl, rfl, rfl, rfl, rfl, rfl, (HSub.refl _)⟩
     ·refine JC.cond_f (b := decide (k_2617 < i_2243)) rfl hc2621 ?_
      refine JC.exit (JQ.exit_then (JQ.exit_then (JQ.exit_block ?_)))
      obtain rfl := Option.some.inj hF
      have ehr2619 := hr2619 _ rfl
      subst ehr2619
      exact JQ.join () ⟨rfl, rfl, rfl, rfl, hs2618, rfl⟩
    ·rintro _ H2469 f bs gs ⟨hf1, hf3, rfl, rfl, hs2469, rfl⟩
     have hF := hKr2470
     try dsimp only at hF
     refine (JQ.norm (i := 1) hf1 (JQ.norm (i := 3) hf3 ?_))
     refine JQ.normal_block (JQ.go (JC.region (by rfl) ?_))
     intro hQ
     refine JL.move .none rfl ?_
     refine JL.bin rfl rfl rfl .none rfl ?_
     refine JL.assign .none rfl ?_
     refine JL.done hQ ?_
     obtain rfl := Option.some.inj hF
     exact JQ.next rfl ⟨rfl, rfl, rfl, rfl, (HSub.trans hs2244 hs2469)⟩
   ·refine JC.cond_f (b := decide (i_2243 < (w_.Table.length : Int))) rfl hc2247 ?_
    refine JC.exit (JQ.exit_then (JQ.exit_then (JQ.exit_block ?_)))
    obtain rfl := Option.some.inj hF
    have ehr2245 := hr2245 _ rfl
    subst ehr2245
    refine JQ.mask [false] [] ?_
    exact JQ.join () ⟨rfl, rfl, hs2244, rfl⟩
  ·rintro _ H1347 f bs gs ⟨rfl, rfl, hs1347, rfl⟩
   have hF := hKr1348
   try dsimp only at hF
   refine JQ.go (JC.seq (JC.region (by rfl) ?_))
   intro hQ
   refine JL.assign .none rfl ?_
   refine JL.done hQ (JQ.go (JC.ret ?_))
   obtain rfl := Option.some.inj hF
   exact JQ.outS rfl (.tmp .nil) rfl
-- 18 ferrule/ferrulelaw07.Far
def F_law07_Far_s2 (n : Nat) (w_ : Workshop) (i_656 : Int) : Int → Option (Int ⊕ ((Int ⊕ (Bool ⊕ Unit)) ⊕ Unit))
 | k_766 => (geti w_.Makes i_656).bind fun y770 => if decide (k_766 < (y770.Slots.length : Int)) = true then ((geti w_.Makes i_656).bind fun y776 => (geti y776.Slots k_766).bind fun y781 => if decide (20 < (y781.Sections.length : Int)) = true then (some (Sum.inr (Sum.inl (Sum.inr (Sum.inl true))))) else (some (Sum.inl (w64 (k_766 + 1))))) else (some (Sum.inr (Sum.inr ())))
def F_law07_Far_s1 (n : Nat) (w_ : Workshop) : Int → Option (Int ⊕ (Bool ⊕ Unit))
 | i_656 => if decide (i_656 < (w_.Makes.length : Int)) = true then ((geti w_.Makes i_656).bind fun y661 => if decide (20 < (y661.Slots.length : Int)) = true then (some (Sum.inr (Sum.inl true))) else ((loopO n (F_law07_Far_s2 n w_ i_656) 0).bind fun r727 => match r727 with | .inl o => some o | .inr _ => some (Sum.inl (w64 (i_656 + 1))))) else (some (Sum.inr (Sum.inr ())))
def F_law07_Far_s3 (n : Nat) (w_ : Workshop) : Int → Option (Int ⊕ (Bool ⊕ Unit))
 | i_913 => if decide (i_913 < (w_.Spares.length : Int)) = true then ((geti w_.Spares i_913).bind fun y928 => (geti w_.Spares i_913).bind fun y933 => if decide (50 ≤ (w64 (y928.Length.High - y933.Length.Low))) = true then (some (Sum.inr (Sum.inl true))) else (some (Sum.inl (w64 (i_913 + 1))))) else (some (Sum.inr (Sum.inr ())))
def F_law07_Far (n : Nat) (w_ : Workshop) : Option Bool :=
 if (((decide (40 < (w_.Spares.length : Int))) || (decide (40 < (w_.Makes.length : Int)))) || (decide (60 < (w_.Table.length : Int)))) = true then (some true) else ((loopO n (F_law07_Far_s1 n w_) 0).bind fun r397 => match r397 with | .inl o => some o | .inr _ => (F_ref07_Check n w_).bind fun y787 => if (y787 != 0) = true then (some false) else ((loopO n (F_law07_Far_s3 n w_) 0).bind fun r864 => match r864 with | .inl o => some o | .inr _ => some (((decide (6 < (w_.Spares.length : Int))) || (decide (4 < (w_.Makes.length : Int)))) || (decide (10 < (w_.Table.length : Int))))))
theorem c_law07_Far (n : Nat) (H : Hp) (w_ : Workshop) (w__v0 : Value) (hw__0 : SL H 4 R_Spare w__v0 w_.Spares) (w__v1 : Value) (hw__1 : SL H 1 R_Make w__v1 w_.Makes) (w__v3 : Value) (hw__3 : SL H 4 R_Trial w__v3 w_.Table) (y : Bool) (hF : F_law07_Far n w_ = some y) : SC Try.prog 18 [.agg [w__v0, w__v1, .int .i64 w_.Cut, w__v3].toArray] (.bool y) H := by
 rw [F_law07_Far] at hF
 refine SC.of (N := 102) Try.func18 rfl rfl rfl fun w => ?_
 refine JC.seq (JC.region (by rfl) ?_)
 intro hQ
 refine JL.box (cs := [w__v0, w__v1, .int .i64 w_.Cut, w__v3]) rfl .none rfl ?_
 intro b1
 refine JL.assign .none rfl ?_
 refine JL.done hQ (JQ.go (JC.seq (JC.seq (JC.region (by rfl) ?_))))
 intro hQ
 refine JL.fieldAddr fo_48_0 rfl .none rfl ?_
 refine JL.loadOwn 0 az_44 rfl rfl rfl .none rfl ?_
 refine JL.lenSL (R := R_Spare) ul_44 hw__0 .none rfl ?_
 refine JL.bin rfl rfl rfl .none rfl ?_
 refine JL.move .none rfl ?_
 refine JL.cut 5 (fun f => f 1 = .pointer (some ⟨b1, 0, none⟩) ∧ f 15 = .bool ((decide (40 < (w_.Spares.length : Int))) || (decide (40 < (w_.Makes.length : Int))))) ?_ ?_
 ·intro hJ2
  rcases bcases (decide (40 < (w_.Spares.length : Int))) with hc3 | hc3
  ·skip
   refine JL.skip (.bool rfl rfl rfl hc3) rfl ?_
   refine JL.skip (.bool rfl rfl rfl hc3) rfl ?_
   refine JL.skip (.bool rfl rfl rfl hc3) rfl ?_
   refine JL.skip (.bool rfl rfl rfl hc3) rfl ?_
   refine JL.pick_t (b := decide (40 < (w_.Spares.length : Int))) rfl hc3 .none rfl ?_
   exact hJ2 _ ⟨rfl, or_t hc3 rfl⟩
  ·skip
   refine JL.fieldAddr fo_48_1 rfl (.some rfl rfl rfl hc3) rfl ?_
   refine JL.loadOwn 0 az_45 rfl rfl rfl (.some rfl rfl rfl hc3) rfl ?_
   refine JL.lenSL (R := R_Make) ul_45 hw__1 (.some rfl rfl rfl hc3) rfl ?_
   refine JL.bin rfl rfl rfl (.some rfl rfl rfl hc3) rfl ?_
   refine JL.pick_f (b := decide (40 < (w_.Spares.length : Int))) rfl hc3 .none rfl ?_
   exact hJ2 _ ⟨rfl, or_f hc3 rfl⟩
 ·rintro f ⟨hf1, hf15⟩
  refine (JL.norm (i := 1) hf1 (JL.norm (i := 15) hf15 ?_))
  refine JL.move .none rfl ?_
  refine JL.cut 5 (fun f => f 1 = .pointer (some ⟨b1, 0, none⟩) ∧ f 21 = .bool (((decide (40 < (w_.Spares.length : Int))) || (decide (40 < (w_.Makes.length : Int)))) || (decide (60 < (w_.Table.length : Int))))) ?_ ?_
  ·intro hJ4
   rcases bcases ((decide (40 < (w_.Spares.length : Int))) || (decide (40 < (w_.Makes.length : Int)))) with hc5 | hc5
   ·skip
    refine JL.skip (.bool rfl rfl rfl hc5) rfl ?_
    refine JL.skip (.bool rfl rfl rfl hc5) rfl ?_
    refine JL.skip (.bool rfl rfl rfl hc5) rfl ?_
    refine JL.skip (.bool rfl rfl rfl hc5) rfl ?_
    refine JL.pick_t (b := ((decide (40 < (w_.Spares.length : Int))) || (decide (40 < (w_.Makes.length : Int))))) rfl hc5 .none rfl ?_
    exact hJ4 _ ⟨rfl, or_t hc5 rfl⟩
   ·skip
    refine JL.fieldAddr fo_48_3 rfl (.some rfl rfl rfl hc5) rfl ?_
    refine JL.loadOwn 0 az_46 rfl rfl rfl (.some rfl rfl rfl hc5) rfl ?_
    refine JL.lenSL (R := R_Trial) ul_46 hw__3 (.some rfl rfl rfl hc5) rfl ?_
    refine JL.bin rfl rfl rfl (.some rfl rfl rfl hc5) rfl ?_
    refine JL.pick_f (b := ((decide (40 < (w_.Spares.length : Int))) || (decide (40 < (w_.Makes.length : Int))))) rfl hc5 .none rfl ?_
    exact hJ4 _ ⟨rfl, or_f hc5 rfl⟩
  ·rintro f ⟨hf1, hf21⟩
   refine (JL.norm (i := 1) hf1 (JL.norm (i := 21) hf21 ?_))
   refine JL.done hQ (JQ.go ?_)
   rcases ite_some hF with ⟨hc6, hF⟩ | ⟨hc6, hF⟩
   ·refine JC.cond_t (b := (((decide (40 < (w_.Spares.length : Int))) || (decide (40 < (w_.Makes.length : Int)))) || (decide (60 < (w_.Table.length : Int))))) rfl hc6 ?_
    refine JC.seq (JC.region (by rfl) ?_)
    intro hQ
    refine JL.assign .none rfl ?_
    refine JL.done hQ (JQ.go (JC.ret (JQ.ret_then ?_)))
    obtain rfl := Option.some.inj hF
    exact JQ.outS rfl (.tmp .nil) rfl
   ·refine JC.cond_f (b := (((decide (40 < (w_.Spares.length : Int))) || (decide (40 < (w_.Makes.length : Int)))) || (decide (60 < (w_.Table.length : Int))))) rfl hc6 ?_
    refine JC.skip (JQ.go (JC.seq (JC.seq (JC.region (by rfl) ?_))))
    intro hQ
    refine JL.assign .none rfl ?_
    refine JL.done hQ (JQ.go ?_)
    obtain ⟨r397, hlr397, hKr397⟩ := bind_some hF
    refine JC.join (fun (_ : Unit) H396 f bs gs => f 1 = .pointer (some ⟨b1, 0, none⟩) ∧ bs = [(b1, .cells [w__v0, w__v1, .int .i64 w_.Cut, w__v3].toArray 48)] ∧ gs = [] ∧ HSub H H396 ∧ Sum.inr () = r397) ?_ ?_
    ·skip
     refine JC.block (JC.loop hlr397 (fun (i_656 : Int) H657 f bs gs => f 1 = .pointer (some ⟨b1, 0, none⟩) ∧ f 3 = .int .i64 i_656 ∧ bs = [(b1, .cells [w__v0, w__v1, .int .i64 w_.Cut, w__v3].toArray 48)] ∧ gs = [] ∧ HSub H H657) ⟨rfl, rfl, rfl, rfl, (HSub.refl _)⟩ ?_)
     rintro i_656 x659 H657 f bs gs ⟨hf1, hf3, rfl, rfl, hs657⟩ hF hr658
     rw [F_law07_Far_s1] at hF
     refine (JC.norm (i := 1) hf1 (JC.norm (i := 3) hf3 ?_))
     refine JC.seq (JC.seq (JC.region (by rfl) ?_))
     intro hQ
     refine JL.move .none rfl ?_
     refine JL.fieldAddr fo_48_1 rfl .none rfl ?_
     refine JL.loadOwn 0 az_45 rfl rfl rfl .none rfl ?_
     refine JL.lenSL (R := R_Make) ul_45 (SL.mono R_Make_mono hs657 hw__1) .none rfl ?_
     refine JL.bin rfl rfl rfl .none rfl ?_
     refine JL.done hQ (JQ.go ?_)
     rcases ite_some hF with ⟨hc660, hF⟩ | ⟨hc660, hF⟩
     ·refine JC.cond_t (b := decide (i_656 < (w_.Makes.length : Int))) rfl hc660 ?_
      refine JC.skip (JQ.go (JC.seq (JC.block (JC.seq (JC.seq (JC.region (by rfl) ?_))))))
      intro hQ
      refine JL.fieldAddr fo_48_1 rfl .none rfl ?_
      refine JL.loadOwn 0 az_45 rfl rfl rfl .none rfl ?_
      refine JL.move .none rfl ?_
      obtain ⟨y661, hy661, hF⟩ := bind_some hF
      refine JL.indexSL (R := R_Make) sl_45 (SL.mono R_Make_mono hs657 hw__1) rfl hy661 .none rfl ?_
      rintro b662 o663 cs664 hc665 - ⟨y661_v0, rfl, hy661_0⟩
      refine JL.fieldAddr fo_127_0 rfl .none rfl ?_
      refine JL.loadH 0 az_125 rfl hc665 rfl .none rfl ?_
      refine JL.lenSL (R := R_Slot) ul_125 hy661_0 .none rfl ?_
      refine JL.bin rfl rfl rfl .none rfl ?_
      refine JL.done hQ (JQ.go (JC.fresh (fun f => f 1 = .pointer (some ⟨b1, 0, none⟩) ∧ f 3 = .int .i64 i_656 ∧ f 36 = .bool (decide (20 < (y661.Slots.length : Int)))) ⟨rfl, rfl, rfl⟩ ?_))
      rintro f ⟨hf1, hf3, hf36⟩
      refine (JC.norm (i := 1) hf1 (JC.norm (i := 3) hf3 (JC.norm (i := 36) hf36 ?_)))
      rcases ite_some hF with ⟨hc666, hF⟩ | ⟨hc666, hF⟩
      ·refine JC.cond_t (b := decide (20 < (y661.Slots.length : Int))) rfl hc666 ?_
       refine JC.seq (JC.region (by rfl) ?_)
       intro hQ
       refine JL.assign .none rfl ?_
       refine JL.done hQ (JQ.go (JC.ret (JQ.ret_then (JQ.ret_block (JQ.ret_then (JQ.ret_then (JQ.ret_block (JQ.ret_join (JQ.ret_then ?_)))))))))
       obtain rfl := Option.some.inj hF
       have ehr658 := hr658 _ rfl
       subst ehr658
       have hF := hKr397
       try dsimp only at hF
       obtain rfl := Option.some.inj hF
       exact JQ.outS rfl (.tmp .nil) rfl
      ·refine JC.cond_f (b := decide (20 < (y661.Slots.length : Int))) rfl hc666 ?_
       refine JC.skip (JQ.go (JC.seq (JC.region (by rfl) ?_)))
       intro hQ
       refine JL.assign .none rfl ?_
       refine JL.done hQ (JQ.go ?_)
       obtain ⟨r727, hlr727, hKr727⟩ := bind_some hF
       refine JC.join (fun (_ : Unit) H726 f bs gs => f 1 = .pointer (some ⟨b1, 0, none⟩) ∧ f 3 = .int .i64 i_656 ∧ bs = [(b1, .cells [w__v0, w__v1, .int .i64 w_.Cut, w__v3].toArray 48)] ∧ gs = [] ∧ HSub H657 H726 ∧ Sum.inr () = r727) ?_ ?_
       ·skip
        refine JC.block (JC.loop hlr727 (fun (k_766 : Int) H767 f bs gs => f 1 = .pointer (some ⟨b1, 0, none⟩) ∧ f 3 = .int .i64 i_656 ∧ f 4 = .int .i64 k_766 ∧ bs = [(b1, .cells [w__v0, w__v1, .int .i64 w_.Cut, w__v3].toArray 48)] ∧ gs = [] ∧ HSub H657 H767) ⟨rfl, rfl, rfl, rfl, rfl, (HSub.refl _)⟩ ?_)
        rintro k_766 x769 H767 f bs gs ⟨hf1, hf3, hf4, rfl, rfl, hs767⟩ hF hr768
        rw [F_law07_Far_s2] at hF
        refine (JC.norm (i := 1) hf1 (JC.norm (i := 3) hf3 (JC.norm (i := 4) hf4 ?_)))
        refine JC.seq (JC.seq (JC.region (by rfl) ?_))
        intro hQ
        refine JL.move .none rfl ?_
        refine JL.fieldAddr fo_48_1 rfl .none rfl ?_
        refine JL.loadOwn 0 az_45 rfl rfl rfl .none rfl ?_
        refine JL.move .none rfl ?_
        obtain ⟨y770, hy770, hF⟩ := bind_some hF
        refine JL.indexSL (R := R_Make) sl_45 (SL.mono R_Make_mono (HSub.trans hs657 hs767) hw__1) rfl hy770 .none rfl ?_
        rintro b771 o772 cs773 hc774 - ⟨y770_v0, rfl, hy770_0⟩
        refine JL.fieldAddr fo_127_0 rfl .none rfl ?_
        refine JL.loadH 0 az_125 rfl hc774 rfl .none rfl ?_
        refine JL.lenSL (R := R_Slot) ul_125 hy770_0 .none rfl ?_
        refine JL.bin rfl rfl rfl .none rfl ?_
        refine JL.done hQ (JQ.go ?_)
        rcases ite_some hF with ⟨hc775, hF⟩ | ⟨hc775, hF⟩
        ·refine JC.cond_t (b := decide (k_766 < (y770.Slots.length : Int))) rfl hc775 ?_
         refine JC.skip (JQ.go (JC.seq (JC.block (JC.seq (JC.region (by rfl) ?_)))))
         intro hQ
         refine JL.fieldAddr fo_48_1 rfl .none rfl ?_
         refine JL.loadOwn 0 az_45 rfl rfl rfl .none rfl ?_
         refine JL.move .none rfl ?_
         obtain ⟨y776, hy776, hF⟩ := bind_some hF
         refine JL.indexSL (R := R_Make) sl_45 (SL.mono R_Make_mono (HSub.trans hs657 hs767) hw__1) rfl hy776 .none rfl ?_
         rintro b777 o778 cs779 hc780 - ⟨y776_v0, rfl, hy776_0⟩
         refine JL.fieldAddr fo_127_0 rfl .none rfl ?_
         refine JL.loadH 0 az_125 rfl hc780 rfl .none rfl ?_
         refine JL.move .none rfl ?_
         obtain ⟨y781, hy781, hF⟩ := bind_some hF
         refine JL.indexSL (R := R_Slot) sl_125 hy776_0 rfl hy781 .none rfl ?_
         rintro b782 o783 cs784 hc785 - ⟨y781_v1, rfl, hy781_1⟩
         refine JL.fieldAddr fo_129_1 rfl .none rfl ?_
         refine JL.loadH 1 az_23 rfl hc785 rfl .none rfl ?_
         refine JL.lenSL (R := RInt) ul_23 hy781_1 .none rfl ?_
         refine JL.bin rfl rfl rfl .none rfl ?_
         refine JL.done hQ (JQ.go (JC.fresh (fun f => f 1 = .pointer (some ⟨b1, 0, none⟩) ∧ f 3 = .int .i64 i_656 ∧ f 4 = .int .i64 k_766 ∧ f 59 = .bool (decide (20 < (y781.Sections.length : Int)))) ⟨rfl, rfl, rfl, rfl⟩ ?_))
         rintro f ⟨hf1, hf3, hf4, hf59⟩
         refine (JC.norm (i := 1) hf1 (JC.norm (i := 3) hf3 (JC.norm (i := 4) hf4 (JC.norm (i := 59) hf59 ?_))))
         rcases ite_some hF with ⟨hc786, hF⟩ | ⟨hc786, hF⟩
         ·refine JC.cond_t (b := decide (20 < (y781.Sections.length : Int))) rfl hc786 ?_
          refine JC.seq (JC.region (by rfl) ?_)
          intro hQ
          refine JL.assign .none rfl ?_
          refine JL.done hQ (JQ.go (JC.ret (JQ.ret_block (JQ.ret_then (JQ.ret_then (JQ.ret_block (JQ.ret_join (JQ.ret_block (JQ.ret_then (JQ.ret_then (JQ.ret_block (JQ.ret_join (JQ.ret_then ?_)))))))))))))
          obtain rfl := Option.some.inj hF
          have ehr768 := hr768 _ rfl
          subst ehr768
          have hF := hKr727
          try dsimp only at hF
          obtain rfl := Option.some.inj hF
          have ehr658 := hr658 _ rfl
          subst ehr658
          have hF := hKr397
          try dsimp only at hF
          obtain rfl := Option.some.inj hF
          exact JQ.outS rfl (.tmp .nil) rfl
         ·refine JC.cond_f (b := decide (20 < (y781.Sections.length : Int))) rfl hc786 ?_
          refine JC.skip (JQ.normal_block (JQ.go (JC.region (by rfl) ?_)))
          intro hQ
          refine JL.move .none rfl ?_
          refine JL.bin rfl rfl rfl .none rfl ?_
          refine JL.assign .none rfl ?_
          refine JL.done hQ ?_
          obtain rfl := Option.some.inj hF
          exact JQ.next rfl ⟨rfl, rfl, rfl, rfl, rfl, hs767⟩
        ·refine JC.cond_f (b := decide (k_766 < (y770.Slots.length : Int))) rfl hc775 ?_
         refine JC.exit (JQ.exit_then (JQ.exit_then (JQ.exit_block ?_)))
         obtain rfl := Option.some.inj hF
         have ehr768 := hr768 _ rfl
         subst ehr768
         exact JQ.join () ⟨rfl, rfl, rfl, rfl, hs767, rfl⟩
       ·rintro _ H726 f bs gs ⟨hf1, hf3, rfl, rfl, hs726, rfl⟩
        have hF := hKr727
        try dsimp only at hF
        refine (JQ.norm (i := 1) hf1 (JQ.norm (i := 3) hf3 ?_))
        refine JQ.normal_block (JQ.go (JC.region (by rfl) ?_))
        intro hQ
        refine JL.move .none rfl ?_
        refine JL.bin rfl rfl rfl .none rfl ?_
        refine JL.assign .none rfl ?_
        refine JL.done hQ ?_
        obtain rfl := Option.some.inj hF
        exact JQ.next rfl ⟨rfl, rfl, rfl, rfl, (HSub.trans hs657 hs726)⟩
     ·refine JC.cond_f (b := decide (i_656 < (w_.Makes.length : Int))) rfl hc660 ?_
      refine JC.exit (JQ.exit_then (JQ.exit_then (JQ.exit_block ?_)))
      obtain rfl := Option.some.inj hF
      have ehr658 := hr658 _ rfl
      subst ehr658
      exact JQ.join () ⟨rfl, rfl, rfl, hs657, rfl⟩
    ·rintro _ H396 f bs gs ⟨hf1, rfl, rfl, hs396, rfl⟩
     have hF := hKr397
     try dsimp only at hF
     refine (JQ.norm (i := 1) hf1 ?_)
     refine JQ.go (JC.seq (JC.seq (JC.region (by rfl) ?_)))
     intro hQ
     refine JL.loadOwn 0 az_48 rfl rfl rfl .none rfl ?_
     obtain ⟨y787, hy787, hF⟩ := bind_some hF
     refine JL.callS (c_ref07_Check n H396 w_ w__v0 (SL.mono R_Spare_mono hs396 hw__0) w__v1 (SL.mono R_Make_mono hs396 hw__1) w__v3 (SL.mono R_Trial_mono hs396 hw__3) y787 hy787) rfl en_63 .none rfl ?_
     refine JL.bin rfl rfl rfl .none rfl ?_
     refine JL.done hQ (JQ.go ?_)
     rcases ite_some hF with ⟨hc788, hF⟩ | ⟨hc788, hF⟩
     ·refine JC.cond_t (b := (y787 != 0)) rfl hc788 ?_
      refine JC.seq (JC.region (by rfl) ?_)
      intro hQ
      refine JL.assign .none rfl ?_
      refine JL.done hQ (JQ.go (JC.ret (JQ.ret_then ?_)))
      obtain rfl := Option.some.inj hF
      exact JQ.outS rfl (.tmp .nil) rfl
     ·refine JC.cond_f (b := (y787 != 0)) rfl hc788 ?_
      refine JC.skip (JQ.go (JC.seq (JC.seq (JC.region (by rfl) ?_))))
      intro hQ
      refine JL.assign .none rfl ?_
      refine JL.done hQ (JQ.go ?_)
      obtain ⟨r864, hlr864, hKr864⟩ := bind_some hF
      refine JC.join (fun (_ : Unit) H863 f bs gs => f 1 = .pointer (some ⟨b1, 0, none⟩) ∧ bs = [(b1, .cells [w__v0, w__v1, .int .i64 w_.Cut, w__v3].toArray 48)] ∧ gs = [] ∧ HSub H396 H863 ∧ Sum.inr () = r864) ?_ ?_
      ·skip
       refine JC.block (JC.loop hlr864 (fun (i_913 : Int) H914 f bs gs => f 1 = .pointer (some ⟨b1, 0, none⟩) ∧ f 5 = .int .i64 i_913 ∧ bs = [(b1, .cells [w__v0, w__v1, .int .i64 w_.Cut, w__v3].toArray 48)] ∧ gs = [] ∧ HSub H396 H914) ⟨rfl, rfl, rfl, rfl, (HSub.refl _)⟩ ?_)
       rintro i_913 x916 H914 f bs gs ⟨hf1, hf5, rfl, rfl, hs914⟩ hF hr915
       rw [F_law07_Far_s3] at hF
       refine (JC.norm (i := 1) hf1 (JC.norm (i := 5) hf5 ?_))
       refine JC.seq (JC.seq (JC.region (by rfl) ?_))
       intro hQ
       refine JL.move .none rfl ?_
       refine JL.fieldAddr fo_48_0 rfl .none rfl ?_
       refine JL.loadOwn 0 az_44 rfl rfl rfl .none rfl ?_
       refine JL.lenSL (R := R_Spare) ul_44 (SL.mono R_Spare_mono (HSub.trans hs396 hs914) hw__0) .none rfl ?_
       refine JL.bin rfl rfl rfl .none rfl ?_
       refine JL.done hQ (JQ.go ?_)
       rcases ite_some hF with ⟨hc917, hF⟩ | ⟨hc917, hF⟩
       ·refine JC.cond_t (b := decide (i_913 < (w_.Spares.length : Int))) rfl hc917 ?_
        refine JC.skip (JQ.go (JC.seq (JC.block (JC.seq (JC.draw (by rfl) mo_ (by kernel_rfl) ?_)))))
        intro hQ
        refine JL.fieldAddr fo_48_0 rfl .none rfl ?_
        refine JL.loadOwn 0 az_44 rfl rfl rfl .none rfl ?_
        refine JL.move .none rfl ?_
        obtain ⟨y928, hy928, hF⟩ := bind_some hF
        refine JL.indexSL (R := R_Spare) sl_44 (SL.mono R_Spare_mono (HSub.trans hs396 hs914) hw__0) rfl hy928 .none rfl ?_
        rintro b929 o930 cs931 hc932 - rfl
        refine JL.fieldAddr fo_131_2 rfl .none rfl ?_
        refine JL.fieldAddr fo_39_1 rfl .none rfl ?_
        refine JL.loadH 3 az_3 rfl hc932 rfl .none rfl ?_
        refine JL.fieldAddr fo_48_0 rfl .none rfl ?_
        refine JL.loadOwn 0 az_44 rfl rfl rfl .none rfl ?_
        refine JL.move .none rfl ?_
        obtain ⟨y933, hy933, hF⟩ := bind_some hF
        refine JL.indexSL (R := R_Spare) sl_44 (SL.mono R_Spare_mono (HSub.trans hs396 hs914) hw__0) rfl hy933 .none rfl ?_
        rintro b934 o935 cs936 hc937 - rfl
        refine JL.fieldAddr fo_131_2 rfl .none rfl ?_
        refine JL.fieldAddr fo_39_0 rfl .none rfl ?_
        refine JL.loadH 2 az_3 rfl hc937 rfl .none rfl ?_
        refine JL.bin rfl rfl rfl .none rfl ?_
        refine JL.bin rfl rfl rfl .none rfl ?_
        refine JL.doneQ hQ ?_
        refine JQ.go (JC.fresh (fun f => f 1 = .pointer (some ⟨b1, 0, none⟩) ∧ f 5 = .int .i64 i_913 ∧ f 85 = .bool (decide (50 ≤ (w64 (y928.Length.High - y933.Length.Low))))) ⟨rfl, rfl, rfl⟩ ?_)
        rintro f ⟨hf1, hf5, hf85⟩
        refine (JC.norm (i := 1) hf1 (JC.norm (i := 5) hf5 (JC.norm (i := 85) hf85 ?_)))
        rcases ite_some hF with ⟨hc938, hF⟩ | ⟨hc938, hF⟩
        ·refine JC.cond_t (b := decide (50 ≤ (w64 (y928.Length.High - y933.Length.Low)))) rfl hc938 ?_
         refine JC.seq (JC.region (by rfl) ?_)
         intro hQ
         refine JL.assign .none rfl ?_
         refine JL.done hQ (JQ.go (JC.ret (JQ.ret_block (JQ.ret_then (JQ.ret_then (JQ.ret_block (JQ.ret_join (JQ.ret_then ?_))))))))
         obtain rfl := Option.some.inj hF
         have ehr915 := hr915 _ rfl
         subst ehr915
         have hF := hKr864
         try dsimp only at hF
         obtain rfl := Option.some.inj hF
         exact JQ.outS rfl (.tmp .nil) rfl
        ·refine JC.cond_f (b := decide (50 ≤ (w64 (y928.Length.High - y933.Length.Low)))) rfl hc938 ?_
         refine JC.skip (JQ.normal_block (JQ.go (JC.region (by rfl) ?_)))
         intro hQ
         refine JL.move .none rfl ?_
         refine JL.bin rfl rfl rfl .none rfl ?_
         refine JL.assign .none rfl ?_
         refine JL.done hQ ?_
         obtain rfl := Option.some.inj hF
         exact JQ.next rfl ⟨rfl, rfl, rfl, rfl, hs914⟩
       ·refine JC.cond_f (b := decide (i_913 < (w_.Spares.length : Int))) rfl hc917 ?_
        refine JC.exit (JQ.exit_then (JQ.exit_then (JQ.exit_block ?_)))
        obtain rfl := Option.some.inj hF
        have ehr915 := hr915 _ rfl
        subst ehr915
        exact JQ.join () ⟨rfl, rfl, rfl, hs914, rfl⟩
      ·rintro _ H863 f bs gs ⟨hf1, rfl, rfl, hs863, rfl⟩
       have hF := hKr864
       try dsimp only at hF
       refine (JQ.norm (i := 1) hf1 ?_)
       refine JQ.go (JC.seq (JC.region (by rfl) ?_))
       intro hQ
       refine JL.fieldAddr fo_48_0 rfl .none rfl ?_
       refine JL.loadOwn 0 az_44 rfl rfl rfl .none rfl ?_
       refine JL.lenSL (R := R_Spare) ul_44 (SL.mono R_Spare_mono (HSub.trans hs396 hs863) hw__0) .none rfl ?_
       refine JL.bin rfl rfl rfl .none rfl ?_
       refine JL.move .none rfl ?_
       refine JL.cut 5 (fun f => f 1 = .pointer (some ⟨b1, 0, none⟩) ∧ f 95 = .bool ((decide (6 < (w_.Spares.length : Int))) || (decide (4 < (w_.Makes.length : Int))))) ?_ ?_
       ·intro hJ939
        rcases bcases (decide (6 < (w_.Spares.length : Int))) with hc940 | hc940
        ·skip
         refine JL.skip (.bool rfl rfl rfl hc940) rfl ?_
         refine JL.skip (.bool rfl rfl rfl hc940) rfl ?_
         refine JL.skip (.bool rfl rfl rfl hc940) rfl ?_
         refine JL.skip (.bool rfl rfl rfl hc940) rfl ?_
         refine JL.pick_t (b := decide (6 < (w_.Spares.length : Int))) rfl hc940 .none rfl ?_
         exact hJ939 _ ⟨rfl, or_t hc940 rfl⟩
        ·skip
         refine JL.fieldAddr fo_48_1 rfl (.some rfl rfl rfl hc940) rfl ?_
         refine JL.loadOwn 0 az_45 rfl rfl rfl (.some rfl rfl rfl hc940) rfl ?_
         refine JL.lenSL (R := R_Make) ul_45 (SL.mono R_Make_mono (HSub.trans hs396 hs863) hw__1) (.some rfl rfl rfl hc940) rfl ?_
         refine JL.bin rfl rfl rfl (.some rfl rfl rfl hc940) rfl ?_
         refine JL.pick_f (b := decide (6 < (w_.Spares.length : Int))) rfl hc940 .none rfl ?_
         exact hJ939 _ ⟨rfl, or_f hc940 rfl⟩
       ·rintro f ⟨hf1, hf95⟩
        refine (JL.norm (i := 1) hf1 (JL.norm (i := 95) hf95 ?_))
        refine JL.move .none rfl ?_
        refine JL.cut 5 (fun f => f 101 = .bool (((decide (6 < (w_.Spares.length : Int))) || (decide (4 < (w_.Makes.length : Int)))) || (decide (10 < (w_.Table.length : Int))))) ?_ ?_
        ·intro hJ941
         rcases bcases ((decide (6 < (w_.Spares.length : Int))) || (decide (4 < (w_.Makes.length : Int)))) with hc942 | hc942
         ·skip
          refine JL.skip (.bool rfl rfl rfl hc942) rfl ?_
          refine JL.skip (.bool rfl rfl rfl hc942) rfl ?_
          refine JL.skip (.bool rfl rfl rfl hc942) rfl ?_
          refine JL.skip (.bool rfl rfl rfl hc942) rfl ?_
          refine JL.pick_t (b := ((decide (6 < (w_.Spares.length : Int))) || (decide (4 < (w_.Makes.length : Int))))) rfl hc942 .none rfl ?_
          exact hJ941 _ (or_t hc942 rfl)
         ·skip
          refine JL.fieldAddr fo_48_3 rfl (.some rfl rfl rfl hc942) rfl ?_
          refine JL.loadOwn 0 az_46 rfl rfl rfl (.some rfl rfl rfl hc942) rfl ?_
          refine JL.lenSL (R := R_Trial) ul_46 (SL.mono R_Trial_mono (HSub.trans hs396 hs863) hw__3) (.some rfl rfl rfl hc942) rfl ?_
          refine JL.bin rfl rfl rfl (.some rfl rfl rfl hc942) rfl ?_
          refine JL.pick_f (b := ((decide (6 < (w_.Spares.length : Int))) || (decide (4 < (w_.Makes.length : Int))))) rfl hc942 .none rfl ?_
          exact hJ941 _ (or_f hc942 rfl)
        ·rintro f hf101
         refine (JL.norm (i := 101) hf101 ?_)
         refine JL.assign .none rfl ?_
         refine JL.done hQ (JQ.go (JC.ret ?_))
         obtain rfl := Option.some.inj hF
         exact JQ.outS rfl (.tmp .nil) rfl
-- 230 ferrule/ferruleref07.In
def F_ref07_In_s1 (n : Nat) (l : List Int) (n_ : Int) : Int → Option (Int ⊕ (Bool ⊕ Unit))
 | i_50 => if decide (i_50 < (l.length : Int)) = true then ((geti l i_50).bind fun y55 => if (y55 == n_) = true then (some (Sum.inr (Sum.inl true))) else (some (Sum.inl (w64 (i_50 + 1))))) else (some (Sum.inr (Sum.inr ())))
def F_ref07_In (n : Nat) (l : List Int) (n_ : Int) : Option Bool :=
 (loopO n (F_ref07_In_s1 n l n_) 0).bind fun r31 => match r31 with | .inl o => some o | .inr _ => some false
theorem c_ref07_In (n : Nat) (H : Hp) (l : List Int) (l_v0 : Value) (hl_0 : SL H 1 RInt l_v0 l) (n_ : Int) (y : Bool) (hF : F_ref07_In n l n_ = some y) : SC Try.prog 230 [l_v0, .int .i64 n_] (.bool y) H := by
 rw [F_ref07_In] at hF
 refine SC.of (N := 18) Try.func230 rfl rfl rfl fun w => ?_
 refine JC.seq (JC.region (by rfl) ?_)
 intro hQ
 refine JL.assign .none rfl ?_
 refine JL.done hQ (JQ.go (JC.seq (JC.seq (JC.region (by rfl) ?_))))
 intro hQ
 refine JL.assign .none rfl ?_
 refine JL.done hQ (JQ.go ?_)
 obtain ⟨r31, hlr31, hKr31⟩ := bind_some hF
 refine JC.join (fun (_ : Unit) H30 f bs gs => bs = [] ∧ gs = [] ∧ HSub H H30 ∧ Sum.inr () = r31) ?_ ?_
 ·skip
  refine JC.block (JC.loop hlr31 (fun (i_50 : Int) H51 f bs gs => f 0 = l_v0 ∧ f 1 = .int .i64 n_ ∧ f 5 = .int .i64 i_50 ∧ bs = [] ∧ gs = [] ∧ HSub H H51) ⟨rfl, rfl, rfl, rfl, rfl, (HSub.refl _)⟩ ?_)
  rintro i_50 x53 H51 f bs gs ⟨hf0, hf1, hf5, rfl, rfl, hs51⟩ hF hr52
  rw [F_ref07_In_s1] at hF
  refine (JC.norm (i := 0) hf0 (JC.norm (i := 1) hf1 (JC.norm (i := 5) hf5 ?_)))
  refine JC.seq (JC.seq (JC.region (by rfl) ?_))
  intro hQ
  refine JL.move .none rfl ?_
  refine JL.move .none rfl ?_
  refine JL.lenSL (R := RInt) ul_23 (SL.mono RInt.mono hs51 hl_0) .none rfl ?_
  refine JL.bin rfl rfl rfl .none rfl ?_
  refine JL.done hQ (JQ.go ?_)
  rcases ite_some hF with ⟨hc54, hF⟩ | ⟨hc54, hF⟩
  ·refine JC.cond_t (b := decide (i_50 < (l.length : Int))) rfl hc54 ?_
   refine JC.skip (JQ.go (JC.seq (JC.block (JC.seq (JC.region (by rfl) ?_)))))
   intro hQ
   refine JL.move .none rfl ?_
   refine JL.move .none rfl ?_
   obtain ⟨y55, hy55, hF⟩ := bind_some hF
   refine JL.indexSL (R := RInt) sl_23 (SL.mono RInt.mono hs51 hl_0) rfl hy55 .none rfl ?_
   rintro b56 o57 cs58 hc59 - rfl
   refine JL.loadH 0 az_3 rfl hc59 rfl .none rfl ?_
   refine JL.move .none rfl ?_
   refine JL.bin rfl rfl rfl .none rfl ?_
   refine JL.done hQ (JQ.go ?_)
   rcases ite_some hF with ⟨hc60, hF⟩ | ⟨hc60, hF⟩
   ·refine JC.cond_t (b := (y55 == n_)) rfl hc60 ?_
    refine JC.seq (JC.region (by rfl) ?_)
    intro hQ
    refine JL.assign .none rfl ?_
    refine JL.done hQ (JQ.go (JC.fresh (fun f => f 4 = .bool true) rfl ?_))
    rintro f hf4
    refine (JC.norm (i := 4) hf4 ?_)
    refine JC.ret (JQ.ret_block (JQ.ret_then (JQ.ret_then (JQ.ret_block (JQ.ret_join (JQ.ret_then ?_))))))
    obtain rfl := Option.some.inj hF
    have ehr52 := hr52 _ rfl
    subst ehr52
    have hF := hKr31
    try dsimp only at hF
    obtain rfl := Option.some.inj hF
    exact JQ.outS rfl (.tmp .nil) rfl
   ·refine JC.cond_f (b := (y55 == n_)) rfl hc60 ?_
    refine JC.skip (JQ.normal_block (JQ.go (JC.region (by rfl) ?_)))
    intro hQ
    refine JL.move .none rfl ?_
    refine JL.bin rfl rfl rfl .none rfl ?_
    refine JL.assign .none rfl ?_
    refine JL.done hQ ?_
    obtain rfl := Option.some.inj hF
    exact JQ.next rfl ⟨rfl, rfl, rfl, rfl, rfl, hs51⟩
  ·refine JC.cond_f (b := decide (i_50 < (l.length : Int))) rfl hc54 ?_
   refine JC.exit (JQ.exit_then (JQ.exit_then (JQ.exit_block ?_)))
   obtain rfl := Option.some.inj hF
   have ehr52 := hr52 _ rfl
   subst ehr52
   exact JQ.join () ⟨rfl, rfl, hs51, rfl⟩
 ·rintro _ H30 f bs gs ⟨rfl, rfl, hs30, rfl⟩
  have hF := hKr31
  try dsimp only at hF
  refine JQ.go (JC.seq (JC.region (by rfl) ?_))
  intro hQ
  refine JL.assign .none rfl ?_
  refine JL.done hQ (JQ.go (JC.ret ?_))
  obtain rfl := Option.some.inj hF
  exact JQ.outS rfl (.tmp .nil) rfl
end Go.Proofs.Yteihdclpiekmaaa
end
section
set_option maxRecDepth 100000
set_option maxHeartbeats 40000000
namespace Go.Proofs.Yteihdclpiekmaaa
open Go Go.RowKit Go.Dec
set_option linter.unusedVariables false
-- 202 ferrule/ferruleref07.FitsAt
def F_ref07_FitsAt (n : Nat) (w_ : Workshop) (spare : Int) (length : Int) (maker : Int) (slot : Int) : Option Bool :=
 (geti w_.Spares spare).bind fun y17 => (geti w_.Makes maker).bind fun y22 => (geti y22.Slots slot).bind fun y27 => (if (y17.Kind == y27.Kind) = true then ((F_ref07_In n y27.Sections y17.Section).bind fun y68 => some y68) else (some false) : Option Bool).bind fun p65 => (if p65 = true then ((F_ref07_Within n length y27.Length.Low (w64 (y27.Length.High + w_.Cut))).bind fun y73 => some y73) else (some false) : Option Bool).bind fun p70 => some p70
theorem c_ref07_FitsAt (n : Nat) (H : Hp) (w_ : Workshop) (w__v0 : Value) (hw__0 : SL H 4 R_Spare w__v0 w_.Spares) (w__v1 : Value) (hw__1 : SL H 1 R_Make w__v1 w_.Makes) (w__v3 : Value) (hw__3 : SL H 4 R_Trial w__v3 w_.Table) (spare : Int) (length : Int) (maker : Int) (slot : Int) (y : Bool) (hF : F_ref07_FitsAt n w_ spare length maker slot = some y) : SC Try.prog 202 [.agg [w__v0, w__v1, .int .i64 w_.Cut, w__v3].toArray, .int .i64 spare, .int .i64 length, .int .i64 maker, .int .i64 slot] (.bool y) H := by
 rw [F_ref07_FitsAt] at hF
 refine SC.of (N := 52) Try.func202 rfl rfl rfl fun w => ?_
 refine JC.seq (JC.region (by rfl) ?_)
 intro hQ
 refine JL.box (cs := [w__v0, w__v1, .int .i64 w_.Cut, w__v3]) rfl .none rfl ?_
 intro b1
 refine JL.assign .none rfl ?_
 refine JL.done hQ (JQ.go (JC.seq ?_))
 obtain ⟨y17, hy17, hF⟩ := bind_some hF
 obtain ⟨y22, hy22, hF⟩ := bind_some hF
 obtain ⟨y27, hy27, hF⟩ := bind_some hF
 refine JC.mixed 18 18 #[false, false, false, false, false, false, false, false, false, false, false, false, false, false, false, false, false, false] [(b1, .cells [w__v0, w__v1, .int .i64 w_.Cut, w__v3].toArray 48)] (by rfl) mo_ (by kernel_rfl) (by kernel_rfl) ?_
 intro hQ hE
 refine JA.cut 2 #[true, true, true, true, true, true, true, true, true, true, true, true, true, true, true, true, false, false] (fun H62 f bs gs => ∃ (b60 : Nat) (b58 : Nat) (y27_v1 : Value), f 2 = .int .i64 length ∧ f 5 = .pointer (some ⟨b1, 0, none⟩) ∧ f 11 = .pointer (some ⟨b58, 0, none⟩) ∧ f 12 = .pointer (some ⟨b60, 0, none⟩) ∧ f 17 = .agg [.int .i64 y17.Kind, .int .i64 y17.Section, .int .i64 y17.Length.Low, .int .i64 y17.Length.High].toArray ∧ f 26 = .agg [.int .i64 y27.Kind, y27_v1, .int .i64 y27.Length.Low, .int .i64 y27.Length.High].toArray ∧ bs = [(b60, .cells [.int .i64 0, .slice none 0 0, .int .i64 0, .int .i64 0].toArray 129), (b58, .cells [.int .i64 0, .int .i64 0, .int .i64 0, .int .i64 0].toArray 131), (b1, .cells [w__v0, w__v1, .int .i64 w_.Cut, w__v3].toArray 48)] ∧ gs = [] ∧ SL H62 1 RInt y27_v1 y27.Sections ∧ HSub H H62) ?_ ?_
 ·rintro H62 f bs gs ⟨b60, b58, y27_v1, hf2, hf5, hf11, hf12, hf17, hf26, rfl, rfl, hm63, hs62⟩
  refine (JA.norm (i := 2) hf2 (JA.norm (i := 5) hf5 (JA.norm (i := 11) hf11 (JA.norm (i := 12) hf12 (JA.norm (i := 17) hf17 (JA.norm (i := 26) hf26 ?_))))))
  refine JA.many [16] (by kernel_rfl) (by simp) (all_one ⟨_, #[true, true, true, true, true, true, true, true, true, true, true, true, true, true, true, true, true, false], rfl, (by kernel_rfl), ?_⟩)
  refine JL.storeOwn 1 (cs := [.int .i64 y17.Kind, .int .i64 y17.Section, .int .i64 y17.Length.Low, .int .i64 y17.Length.High]) az_131 rfl rfl rfl (one_cons rfl (one_cons rfl (one_cons rfl (one_cons rfl one_nil)))) rfl rfl .none ?_
  refine JA.after hE hs62 (.cons _ (.cons _ (.cons_cons _ (List.nil_sublist _)))) ?_
  refine JA.many [17] (by kernel_rfl) (by simp) (all_one ⟨_, #[true, true, true, true, true, true, true, true, true, true, true, true, true, true, true, true, true, true], rfl, (by kernel_rfl), ?_⟩)
  refine JL.storeOwn 0 (cs := [.int .i64 y27.Kind, y27_v1, .int .i64 y27.Length.Low, .int .i64 y27.Length.High]) az_129 rfl rfl rfl (one_cons rfl (one_cons (SL.one hm63) (one_cons rfl (one_cons rfl one_nil)))) rfl rfl .none ?_
  refine JA.after hE hs62 (.cons _ (.cons _ (.cons_cons _ (List.nil_sublist _)))) ?_
  refine JA.done hQ (by kernel_rfl) ?_
  refine JQ.go (JC.seq (JC.region (by rfl) ?_))
  intro hQ
  refine JL.fieldAddr fo_131_0 rfl .none rfl ?_
  refine JL.loadOwn 1 az_3 rfl rfl rfl .none rfl ?_
  refine JL.fieldAddr fo_129_0 rfl .none rfl ?_
  refine JL.loadOwn 0 az_3 rfl rfl rfl .none rfl ?_
  refine JL.bin rfl rfl rfl .none rfl ?_
  refine JL.move .none rfl ?_
  obtain ⟨p65, hp65, hF⟩ := bind_some hF
  refine JL.cut 6 (fun f => f 2 = .int .i64 length ∧ f 5 = .pointer (some ⟨b1, 0, none⟩) ∧ f 12 = .pointer (some ⟨b60, 0, none⟩) ∧ f 38 = .bool p65) ?_ ?_
  ·intro hJ66
   rcases ite_some hp65 with ⟨hc67, hF⟩ | ⟨hc67, hF⟩
   ·skip
    refine JL.fieldAddr fo_129_1 rfl (.some rfl rfl rfl hc67) rfl ?_
    refine JL.loadOwn 0 az_23 rfl rfl rfl (.some rfl rfl rfl hc67) rfl ?_
    refine JL.fieldAddr fo_131_1 rfl (.some rfl rfl rfl hc67) rfl ?_
    refine JL.loadOwn 1 az_3 rfl rfl rfl (.some rfl rfl rfl hc67) rfl ?_
    obtain ⟨y68, hy68, hF⟩ := bind_some hF
    refine JL.callS (c_ref07_In n H62 y27.Sections y27_v1 hm63 y17.Section y68 hy68) rfl en_230 (.some rfl rfl rfl hc67) rfl ?_
    refine JL.pick_t (b := (y17.Kind == y27.Kind)) rfl hc67 .none rfl ?_
    obtain rfl := Option.some.inj hF
    exact hJ66 _ ⟨rfl, rfl, rfl, rfl⟩
   ·skip
    refine JL.skip (.bool rfl rfl rfl hc67) rfl ?_
    refine JL.skip (.bool rfl rfl rfl hc67) rfl ?_
    refine JL.skip (.bool rfl rfl rfl hc67) rfl ?_
    refine JL.skip (.bool rfl rfl rfl hc67) rfl ?_
    refine JL.skip (.bool rfl rfl rfl hc67) rfl ?_
    refine JL.pick_f (b := (y17.Kind == y27.Kind)) rfl hc67 .none rfl ?_
    obtain rfl := Option.some.inj hF
    exact hJ66 _ ⟨rfl, rfl, rfl, rfl⟩
  ·rintro f ⟨hf2, hf5, hf12, hf38⟩
   refine (JL.norm (i := 2) hf2 (JL.norm (i := 5) hf5 (JL.norm (i := 12) hf12 (JL.norm (i := 38) hf38 ?_))))
   refine JL.move .none rfl ?_
   obtain ⟨p70, hp70, hF⟩ := bind_some hF
   refine JL.cut 12 (fun f => f 51 = .bool p70) ?_ ?_
   ·intro hJ71
    rcases ite_some hp70 with ⟨hc72, hF⟩ | ⟨hc72, hF⟩
    ·skip
     refine JL.move (.some rfl rfl rfl hc72) rfl ?_
     refine JL.fieldAddr fo_129_2 rfl (.some rfl rfl rfl hc72) rfl ?_
     refine JL.fieldAddr fo_39_0 rfl (.some rfl rfl rfl hc72) rfl ?_
     refine JL.loadOwn 0 az_3 rfl rfl rfl (.some rfl rfl rfl hc72) rfl ?_
     refine JL.fieldAddr fo_129_2 rfl (.some rfl rfl rfl hc72) rfl ?_
     refine JL.fieldAddr fo_39_1 rfl (.some rfl rfl rfl hc72) rfl ?_
     refine JL.loadOwn 0 az_3 rfl rfl rfl (.some rfl rfl rfl hc72) rfl ?_
     refine JL.fieldAddr fo_48_2 rfl (.some rfl rfl rfl hc72) rfl ?_
     refine JL.loadOwn 2 az_3 rfl rfl rfl (.some rfl rfl rfl hc72) rfl ?_
     refine JL.bin rfl rfl rfl (.some rfl rfl rfl hc72) rfl ?_
     obtain ⟨y73, hy73, hF⟩ := bind_some hF
     refine JL.callS (c_ref07_Within n H62 length y27.Length.Low (w64 (y27.Length.High + w_.Cut)) y73 hy73) rfl en_68 (.some rfl rfl rfl hc72) rfl ?_
     refine JL.pick_t (b := p65) rfl hc72 .none rfl ?_
     obtain rfl := Option.some.inj hF
     exact hJ71 _ (rfl)
    ·skip
     refine JL.skip (.bool rfl rfl rfl hc72) rfl ?_
     refine JL.skip (.bool rfl rfl rfl hc72) rfl ?_
     refine JL.skip (.bool rfl rfl rfl hc72) rfl ?_
     refine JL.skip (.bool rfl rfl rfl hc72) rfl ?_
     refine JL.skip (.bool rfl rfl rfl hc72) rfl ?_
     refine JL.skip (.bool rfl rfl rfl hc72) rfl ?_
     refine JL.skip (.bool rfl rfl rfl hc72) rfl ?_
     refine JL.skip (.bool rfl rfl rfl hc72) rfl ?_
     refine JL.skip (.bool rfl rfl rfl hc72) rfl ?_
     refine JL.skip (.bool rfl rfl rfl hc72) rfl ?_
     refine JL.skip (.bool rfl rfl rfl hc72) rfl ?_
     refine JL.pick_f (b := p65) rfl hc72 .none rfl ?_
     obtain rfl := Option.some.inj hF
     exact hJ71 _ (rfl)
   ·rintro f hf51
    refine (JL.norm (i := 51) hf51 ?_)
    refine JL.assign .none rfl ?_
    refine JL.done hQ (JQ.go (JC.ret ?_))
    obtain rfl := Option.some.inj hF
    exact JQ.outS rfl (.tmp .nil) rfl
 intro nd61_0
 refine JA.take 0 (listed' := #[true, false, false, false, false, false, false, false, false, false, false, false, false, false, false, false, false, false]) hQ rfl (by kernel_rfl) (by kernel_rfl) (by kernel_rfl) (by kernel_rfl) (by kernel_rfl) hE (HSub.refl _) (.cons_cons _ (List.nil_sublist _)) ?_
 refine JL.fieldAddr fo_48_0 rfl .none rfl ?_
 refine JA.cont ?_
 refine JA.take 1 (listed' := #[true, true, false, false, false, false, false, false, false, false, false, false, false, false, false, false, false, false]) hQ rfl (by kernel_rfl) (by kernel_rfl) (by kernel_rfl) (by kernel_rfl) (by kernel_rfl) hE (HSub.refl _) (.cons_cons _ (List.nil_sublist _)) ?_
 refine JL.loadOwn 0 az_44 rfl rfl rfl .none rfl ?_
 refine JA.cont ?_
 refine JA.take 2 (listed' := #[true, true, true, false, false, false, false, false, false, false, false, false, false, false, false, false, false, false]) hQ rfl (by kernel_rfl) (by kernel_rfl) (by kernel_rfl) (by kernel_rfl) (by kernel_rfl) hE (HSub.refl _) (.cons_cons _ (List.nil_sublist _)) ?_
 refine JL.move .none rfl ?_
 refine JA.cont ?_
 refine JA.take 3 (listed' := #[true, true, true, true, false, false, false, false, false, false, false, false, false, false, false, false, false, false]) hQ rfl (by kernel_rfl) (by kernel_rfl) (by kernel_rfl) (by kernel_rfl) (by kernel_rfl) hE (HSub.refl _) (.cons_cons _ (List.nil_sublist _)) ?_
 refine JL.indexSL (R := R_Spare) sl_44 hw__0 rfl hy17 .none rfl ?_
 rintro b78 o79 cs80 hc81 - rfl
 refine JA.cont ?_
 refine JA.take 4 (listed' := #[true, true, true, true, true, false, false, false, false, false, false, false, false, false, false, false, false, false]) hQ rfl (by kernel_rfl) (by kernel_rfl) (by kernel_rfl) (by kernel_rfl) (by kernel_rfl) hE (HSub.refl _) (.cons_cons _ (List.nil_sublist _)) ?_
 refine JL.loadH 0 az_131 rfl hc81 rfl .none rfl ?_
 refine JA.cont ?_
 refine JA.take 5 (listed' := #[true, true, true, true, true, true, false, false, false, false, false, false, false, false, false, false, false, false]) hQ rfl (by kernel_rfl) (by kernel_rfl) (by kernel_rfl) (by kernel_rfl) (by kernel_rfl) hE (HSub.refl _) (.cons_cons _ (List.nil_sublist _)) ?_
 refine JL.fieldAddr fo_48_1 rfl .none rfl ?_
 refine JA.cont ?_
 refine JA.take 6 (listed' := #[true, true, true, true, true, true, true, false, false, false, false, false, false, false, false, false, false, false]) hQ rfl (by kernel_rfl) (by kernel_rfl) (by kernel_rfl) (by kernel_rfl) (by kernel_rfl) hE (HSub.refl _) (.cons_cons _ (List.nil_sublist _)) ?_
 refine JL.loadOwn 0 az_45 rfl rfl rfl .none rfl ?_
 refine JA.cont ?_
 refine JA.take 7 (listed' := #[true, true, true, true, true, true, true, true, false, false, false, false, false, false, false, false, false, false]) hQ rfl (by kernel_rfl) (by kernel_rfl) (by kernel_rfl) (by kernel_rfl) (by kernel_rfl) hE (HSub.refl _) (.cons_cons _ (List.nil_sublist _)) ?_
 refine JL.move .none rfl ?_
 refine JA.cont ?_
 refine JA.take 8 (listed' := #[true, true, true, true, true, true, true, true, true, false, false, false, false, false, false, false, false, false]) hQ rfl (by kernel_rfl) (by kernel_rfl) (by kernel_rfl) (by kernel_rfl) (by kernel_rfl) hE (HSub.refl _) (.cons_cons _ (List.nil_sublist _)) ?_
 refine JL.indexSL (R := R_Make) sl_45 hw__1 rfl hy22 .none rfl ?_
 rintro b86 o87 cs88 hc89 - ⟨y22_v0, rfl, hy22_0⟩
 refine JA.cont ?_
 refine JA.take 9 (listed' := #[true, true, true, true, true, true, true, true, true, true, false, false, false, false, false, false, false, false]) hQ rfl (by kernel_rfl) (by kernel_rfl) (by kernel_rfl) (by kernel_rfl) (by kernel_rfl) hE (HSub.refl _) (.cons_cons _ (List.nil_sublist _)) ?_
 refine JL.fieldAddr fo_127_0 rfl .none rfl ?_
 refine JA.cont ?_
 refine JA.take 10 (listed' := #[true, true, true, true, true, true, true, true, true, true, true, false, false, false, false, false, false, false]) hQ rfl (by kernel_rfl) (by kernel_rfl) (by kernel_rfl) (by kernel_rfl) (by kernel_rfl) hE (HSub.refl _) (.cons_cons _ (List.nil_sublist _)) ?_
 refine JL.loadH 0 az_125 rfl hc89 rfl .none rfl ?_
 refine JA.cont ?_
 refine JA.take 11 (listed' := #[true, true, true, true, true, true, true, true, true, true, true, true, false, false, false, false, false, false]) hQ rfl (by kernel_rfl) (by kernel_rfl) (by kernel_rfl) (by kernel_rfl) (by kernel_rfl) hE (HSub.refl _) (.cons_cons _ (List.nil_sublist _)) ?_
 refine JL.move .none rfl ?_
 refine JA.cont ?_
 refine JA.take 12 (listed' := #[true, true, true, true, true, true, true, true, true, true, true, true, true, false, false, false, false, false]) hQ rfl (by kernel_rfl) (by kernel_rfl) (by kernel_rfl) (by kernel_rfl) (by kernel_rfl) hE (HSub.refl _) (.cons_cons _ (List.nil_sublist _)) ?_
 refine JL.indexSL (R := R_Slot) sl_125 hy22_0 rfl hy27 .none rfl ?_
 rintro b94 o95 cs96 hc97 - ⟨y27_v1, rfl, hy27_1⟩
 refine JA.cont ?_
 refine JA.take 13 (listed' := #[true, true, true, true, true, true, true, true, true, true, true, true, true, true, false, false, false, false]) hQ rfl (by kernel_rfl) (by kernel_rfl) (by kernel_rfl) (by kernel_rfl) (by kernel_rfl) hE (HSub.refl _) (.cons_cons _ (List.nil_sublist _)) ?_
 refine JL.loadH 0 az_129 rfl hc97 rfl .none rfl ?_
 refine JA.cont ?_
 refine JA.many [14, 15] (by kernel_rfl) (by simp) (all_cons ⟨_, #[true, true, true, true, true, true, true, true, true, true, true, true, true, true, true, false, false, false], rfl, (by kernel_rfl), ?_⟩ (all_one ⟨_, #[true, true, true, true, true, true, true, true, true, true, true, true, true, true, false, true, false, false], rfl, (by kernel_rfl), ?_⟩))
 ·skip
  refine JL.alloc ze_131 .none rfl ?_
  intro b98
  refine JA.after hE (HSub.refl _) (.cons _ (.cons_cons _ (List.nil_sublist _))) ?_
  refine JA.many [15] (by kernel_rfl) (by simp) (all_one ⟨_, #[true, true, true, true, true, true, true, true, true, true, true, true, true, true, true, true, false, false], rfl, (by kernel_rfl), ?_⟩)
  refine JL.alloc ze_129 .none rfl ?_
  intro b99
  refine JA.after hE (HSub.refl _) (.cons _ (.cons _ (.cons_cons _ (List.nil_sublist _)))) ?_
  exact nd61_0 _ _ _ _ ⟨b99, b98, y27_v1, rfl, rfl, rfl, rfl, rfl, rfl, rfl, rfl, hy27_1, (HSub.refl _)⟩
 ·skip
  refine JL.alloc ze_129 .none rfl ?_
  intro b100
  refine JA.after hE (HSub.refl _) (.cons _ (.cons_cons _ (List.nil_sublist _))) ?_
  refine JA.many [14] (by kernel_rfl) (by simp) (all_one ⟨_, #[true, true, true, true, true, true, true, true, true, true, true, true, true, true, true, true, false, false], rfl, (by kernel_rfl), ?_⟩)
  refine JL.alloc ze_131 .none rfl ?_
  intro b101
  refine JA.after hE (HSub.refl _) (.cons _ (.cons _ (.cons_cons _ (List.nil_sublist _)))) ?_
  refine JA.perm (swapAt_perm 0 _) ?_
  exact nd61_0 _ _ _ _ ⟨b100, b101, y27_v1, rfl, rfl, rfl, rfl, rfl, rfl, rfl, rfl, hy27_1, (HSub.refl _)⟩
-- 169 ferrule/ferruleref07.CanBe
def F_ref07_CanBe_s1 (n : Nat) (w_ : Workshop) (spare : Int) (length : Int) : Int → Option (Int ⊕ (Bool ⊕ Unit))
 | i_106 => if decide (i_106 < (w_.Table.length : Int)) = true then ((geti w_.Table i_106).bind fun y111 => (if (y111.Spare == spare) = true then ((F_ref07_FitsAt n w_ spare length y111.Make y111.Slot).bind fun y126 => some (y126 != (y111.Fits == 1))) else (some false) : Option Bool).bind fun p123 => if p123 = true then (some (Sum.inr (Sum.inl false))) else (some (Sum.inl (w64 (i_106 + 1))))) else (some (Sum.inr (Sum.inr ())))
def F_ref07_CanBe (n : Nat) (w_ : Workshop) (spare : Int) (length : Int) : Option Bool :=
 (loopO n (F_ref07_CanBe_s1 n w_ spare length) 0).bind fun r65 => match r65 with | .inl o => some o | .inr _ => (geti w_.Spares spare).bind fun y139 => (geti w_.Spares spare).bind fun y144 => (F_ref07_Within n length y139.Length.Low y144.Length.High).bind fun y149 => some y149
theorem c_ref07_CanBe (n : Nat) (H : Hp) (w_ : Workshop) (w__v0 : Value) (hw__0 : SL H 4 R_Spare w__v0 w_.Spares) (w__v1 : Value) (hw__1 : SL H 1 R_Make w__v1 w_.Makes) (w__v3 : Value) (hw__3 : SL H 4 R_Trial w__v3 w_.Table) (spare : Int) (length : Int) (y : Bool) (hF : F_ref07_CanBe n w_ spare length = some y) : SC Try.prog 169 [.agg [w__v0, w__v1, .int .i64 w_.Cut, w__v3].toArray, .int .i64 spare, .int .i64 length] (.bool y) H := by
 rw [F_ref07_CanBe] at hF
 refine SC.of (N := 55) Try.func169 rfl rfl rfl fun w => ?_
 refine JC.seq (JC.region (by rfl) ?_)
 intro hQ
 refine JL.box (cs := [w__v0, w__v1, .int .i64 w_.Cut, w__v3]) rfl .none rfl ?_
 intro b1
 refine JL.assign .none rfl ?_
 refine JL.done hQ (JQ.go (JC.seq (JC.seq (JC.region (by rfl) ?_))))
 intro hQ
 refine JL.assign .none rfl ?_
 refine JL.done hQ (JQ.go ?_)
 obtain ⟨r65, hlr65, hKr65⟩ := bind_some hF
 refine JC.join (fun (_ : Unit) H64 f bs gs => f 1 = .int .i64 spare ∧ f 2 = .int .i64 length ∧ f 3 = .pointer (some ⟨b1, 0, none⟩) ∧ bs = [(b1, .cells [w__v0, w__v1, .int .i64 w_.Cut, w__v3].toArray 48)] ∧ gs = [] ∧ HSub H H64 ∧ Sum.inr () = r65) ?_ ?_
 ·skip
  refine JC.block (JC.loop hlr65 (fun (i_106 : Int) H107 f bs gs => f 1 = .int .i64 spare ∧ f 2 = .int .i64 length ∧ f 3 = .pointer (some ⟨b1, 0, none⟩) ∧ f 7 = .int .i64 i_106 ∧ bs = [(b1, .cells [w__v0, w__v1, .int .i64 w_.Cut, w__v3].toArray 48)] ∧ gs = [] ∧ HSub H H107) ⟨rfl, rfl, rfl, rfl, rfl, rfl, (HSub.refl _)⟩ ?_)
  rintro i_106 x109 H107 f bs gs ⟨hf1, hf2, hf3, hf7, rfl, rfl, hs107⟩ hF hr108
  rw [F_ref07_CanBe_s1] at hF
  refine (JC.norm (i := 1) hf1 (JC.norm (i := 2) hf2 (JC.norm (i := 3) hf3 (JC.norm (i := 7) hf7 ?_))))
  refine JC.seq (JC.seq (JC.region (by rfl) ?_))
  intro hQ
  refine JL.move .none rfl ?_
  refine JL.fieldAddr fo_48_3 rfl .none rfl ?_
  refine JL.loadOwn 0 az_46 rfl rfl rfl .none rfl ?_
  refine JL.lenSL (R := R_Trial) ul_46 (SL.mono R_Trial_mono hs107 hw__3) .none rfl ?_
  refine JL.bin rfl rfl rfl .none rfl ?_
  refine JL.done hQ (JQ.go ?_)
  rcases ite_some hF with ⟨hc110, hF⟩ | ⟨hc110, hF⟩
  ·refine JC.cond_t (b := decide (i_106 < (w_.Table.length : Int))) rfl hc110 ?_
   refine JC.skip (JQ.go (JC.seq (JC.block (JC.seq (JC.region (by rfl) ?_)))))
   intro hQ
   refine JL.fieldAddr fo_48_3 rfl .none rfl ?_
   refine JL.loadOwn 0 az_46 rfl rfl rfl .none rfl ?_
   refine JL.move .none rfl ?_
   obtain ⟨y111, hy111, hF⟩ := bind_some hF
   refine JL.indexSL (R := R_Trial) sl_46 (SL.mono R_Trial_mono hs107 hw__3) rfl hy111 .none rfl ?_
   rintro b112 o113 cs114 hc115 - rfl
   refine JL.loadH 0 az_55 rfl hc115 rfl .none rfl ?_
   refine JL.alloc ze_55 .none rfl ?_
   intro b116
   refine JL.storeOwn 0 (cs := [.int .i64 y111.Spare, .int .i64 y111.Make, .int .i64 y111.Slot, .int .i64 y111.Fits]) az_55 rfl rfl rfl (one_cons rfl (one_cons rfl (one_cons rfl (one_cons rfl one_nil)))) rfl rfl .none ?_
   refine JL.done hQ (JQ.go (JC.fresh (fun f => f 1 = .int .i64 spare ∧ f 2 = .int .i64 length ∧ f 3 = .pointer (some ⟨b1, 0, none⟩) ∧ f 7 = .int .i64 i_106 ∧ f 8 = .pointer (some ⟨b116, 0, none⟩)) ⟨rfl, rfl, rfl, rfl, rfl⟩ ?_))
   rintro f ⟨hf1, hf2, hf3, hf7, hf8⟩
   refine (JC.norm (i := 1) hf1 (JC.norm (i := 2) hf2 (JC.norm (i := 3) hf3 (JC.norm (i := 7) hf7 (JC.norm (i := 8) hf8 ?_)))))
   refine JC.seq (JC.draw (by rfl) mo_ (by kernel_rfl) ?_)
   intro hQ
   refine JL.fieldAddr fo_55_0 rfl .none rfl ?_
   refine JL.loadOwn 0 az_3 rfl rfl rfl .none rfl ?_
   refine JL.move .none rfl ?_
   refine JL.bin rfl rfl rfl .none rfl ?_
   refine JL.move .none rfl ?_
   obtain ⟨p123, hp123, hF⟩ := bind_some hF
   refine JL.cut 13 (fun f => f 1 = .int .i64 spare ∧ f 2 = .int .i64 length ∧ f 3 = .pointer (some ⟨b1, 0, none⟩) ∧ f 7 = .int .i64 i_106 ∧ f 38 = .bool p123) ?_ ?_
   ·intro hJ124
    rcases ite_some hp123 with ⟨hc125, hF⟩ | ⟨hc125, hF⟩
    ·skip
     refine JL.loadOwn 1 az_48 rfl rfl rfl (.some rfl rfl rfl hc125) rfl ?_
     refine JL.move (.some rfl rfl rfl hc125) rfl ?_
     refine JL.move (.some rfl rfl rfl hc125) rfl ?_
     refine JL.fieldAddr fo_55_1 rfl (.some rfl rfl rfl hc125) rfl ?_
     refine JL.loadOwn 0 az_3 rfl rfl rfl (.some rfl rfl rfl hc125) rfl ?_
     refine JL.fieldAddr fo_55_2 rfl (.some rfl rfl rfl hc125) rfl ?_
     refine JL.loadOwn 0 az_3 rfl rfl rfl (.some rfl rfl rfl hc125) rfl ?_
     obtain ⟨y126, hy126, hF⟩ := bind_some hF
     refine JL.callS (c_ref07_FitsAt n H107 w_ w__v0 (SL.mono R_Spare_mono hs107 hw__0) w__v1 (SL.mono R_Make_mono hs107 hw__1) w__v3 (SL.mono R_Trial_mono hs107 hw__3) spare length y111.Make y111.Slot y126 hy126) rfl en_202 (.some rfl rfl rfl hc125) rfl ?_
     refine JL.fieldAddr fo_55_3 rfl (.some rfl rfl rfl hc125) rfl ?_
     refine JL.loadOwn 0 az_3 rfl rfl rfl (.some rfl rfl rfl hc125) rfl ?_
     refine JL.bin rfl rfl rfl (.some rfl rfl rfl hc125) rfl ?_
     refine JL.neBool ub_4 rfl rfl (.some rfl rfl rfl hc125) rfl ?_
     refine JL.pick_t (b := (y111.Spare == spare)) rfl hc125 .none rfl ?_
     obtain rfl := Option.some.inj hF
     exact hJ124 _ ⟨rfl, rfl, rfl, rfl, rfl⟩
    ·skip
     refine JL.skip (.bool rfl rfl rfl hc125) rfl ?_
     refine JL.skip (.bool rfl rfl rfl hc125) rfl ?_
     refine JL.skip (.bool rfl rfl rfl hc125) rfl ?_
     refine JL.skip (.bool rfl rfl rfl hc125) rfl ?_
     refine JL.skip (.bool rfl rfl rfl hc125) rfl ?_
     refine JL.skip (.bool rfl rfl rfl hc125) rfl ?_
     refine JL.skip (.bool rfl rfl rfl hc125) rfl ?_
     refine JL.skip (.bool rfl rfl rfl hc125) rfl ?_
     refine JL.skip (.bool rfl rfl rfl hc125) rfl ?_
     refine JL.skip (.bool rfl rfl rfl hc125) rfl ?_
     refine JL.skip (.bool rfl rfl rfl hc125) rfl ?_
     refine JL.skip (.bool rfl rfl rfl hc125) rfl ?_
     refine JL.pick_f (b := (y111.Spare == spare)) rfl hc125 .none rfl ?_
     obtain rfl := Option.some.inj hF
     exact hJ124 _ ⟨rfl, rfl, rfl, rfl, rfl⟩
   ·rintro f ⟨hf1, hf2, hf3, hf7, hf38⟩
    refine (JL.norm (i := 1) hf1 (JL.norm (i := 2) hf2 (JL.norm (i := 3) hf3 (JL.norm (i := 7) hf7 (JL.norm (i := 38) hf38 ?_)))))
    refine JL.doneQ hQ ?_
    refine JQ.go ?_
    rcases ite_some hF with ⟨hc127, hF⟩ | ⟨hc127, hF⟩
    ·refine JC.cond_t (b := p123) rfl hc127 ?_
     refine JC.seq (JC.region (by rfl) ?_)
     intro hQ
     refine JL.assign .none rfl ?_
     refine JL.done hQ (JQ.go (JC.ret (JQ.ret_block (JQ.ret_then (JQ.ret_then (JQ.ret_block (JQ.ret_join (JQ.ret_then ?_))))))))
     obtain rfl := Option.some.inj hF
     have ehr108 := hr108 _ rfl
     subst ehr108
     have hF := hKr65
     try dsimp only at hF
     obtain rfl := Option.some.inj hF
     exact JQ.outS rfl (.tmp .nil) rfl
    ·refine JC.cond_f (b := p123) rfl hc127 ?_
     refine JC.skip (JQ.normal_block (JQ.go (JC.region (by rfl) ?_)))
     intro hQ
     refine JL.move .none rfl ?_
     refine JL.bin rfl rfl rfl .none rfl ?_
     refine JL.assign .none rfl ?_
     refine JL.done hQ ?_
     obtain rfl := Option.some.inj hF
     refine JQ.mask [false, true] [] ?_
     exact JQ.next rfl ⟨rfl, rfl, rfl, rfl, rfl, rfl, hs107⟩
  ·refine JC.cond_f (b := decide (i_106 < (w_.Table.length : Int))) rfl hc110 ?_
   refine JC.exit (JQ.exit_then (JQ.exit_then (JQ.exit_block ?_)))
   obtain rfl := Option.some.inj hF
   have ehr108 := hr108 _ rfl
   subst ehr108
   exact JQ.join () ⟨rfl, rfl, rfl, rfl, rfl, hs107, rfl⟩
 ·rintro _ H64 f bs gs ⟨hf1, hf2, hf3, rfl, rfl, hs64, rfl⟩
  have hF := hKr65
  try dsimp only at hF
  refine (JQ.norm (i := 1) hf1 (JQ.norm (i := 2) hf2 (JQ.norm (i := 3) hf3 ?_)))
  refine JQ.go (JC.seq (JC.draw (by rfl) mo_ (by kernel_rfl) ?_))
  intro hQ
  refine JL.move .none rfl ?_
  refine JL.fieldAddr fo_48_0 rfl .none rfl ?_
  refine JL.loadOwn 0 az_44 rfl rfl rfl .none rfl ?_
  refine JL.move .none rfl ?_
  obtain ⟨y139, hy139, hF⟩ := bind_some hF
  refine JL.indexSL (R := R_Spare) sl_44 (SL.mono R_Spare_mono hs64 hw__0) rfl hy139 .none rfl ?_
  rintro b140 o141 cs142 hc143 - rfl
  refine JL.fieldAddr fo_131_2 rfl .none rfl ?_
  refine JL.fieldAddr fo_39_0 rfl .none rfl ?_
  refine JL.loadH 2 az_3 rfl hc143 rfl .none rfl ?_
  refine JL.fieldAddr fo_48_0 rfl .none rfl ?_
  refine JL.loadOwn 0 az_44 rfl rfl rfl .none rfl ?_
  refine JL.move .none rfl ?_
  obtain ⟨y144, hy144, hF⟩ := bind_some hF
  refine JL.indexSL (R := R_Spare) sl_44 (SL.mono R_Spare_mono hs64 hw__0) rfl hy144 .none rfl ?_
  rintro b145 o146 cs147 hc148 - rfl
  refine JL.fieldAddr fo_131_2 rfl .none rfl ?_
  refine JL.fieldAddr fo_39_1 rfl .none rfl ?_
  refine JL.loadH 3 az_3 rfl hc148 rfl .none rfl ?_
  obtain ⟨y149, hy149, hF⟩ := bind_some hF
  refine JL.callS (c_ref07_Within n H64 length y139.Length.Low y144.Length.High y149 hy149) rfl en_68 .none rfl ?_
  refine JL.assign .none rfl ?_
  refine JL.doneQ hQ ?_
  refine JQ.go (JC.fresh (fun f => f 6 = .bool y149) rfl ?_)
  rintro f hf6
  refine (JC.norm (i := 6) hf6 ?_)
  refine JC.ret ?_
  obtain rfl := Option.some.inj hF
  exact JQ.outS rfl (.tmp .nil) rfl
-- 118 ferrule/ferruleref07.all
def F_ref07_all_s1 (n : Nat) (w_ : Workshop) (spare : Int) : Int × List Int → Option ((Int × List Int) ⊕ (List Int))
 | (n_169, out_170) => (geti w_.Spares spare).bind fun y174 => if decide (n_169 ≤ y174.Length.High) = true then ((F_ref07_CanBe n w_ spare n_169).bind fun y180 => (if y180 = true then ((lim (out_170 ++ [n_169])).bind fun l192 => some l192) else (some out_170)).bind fun out_187 => some (Sum.inl ((w64 (n_169 + 1)), out_187))) else (some (Sum.inr out_170))
def F_ref07_all (n : Nat) (w_ : Workshop) (spare : Int) : Option (List Int) :=
 (geti w_.Spares spare).bind fun y2 => (loopO n (F_ref07_all_s1 n w_ spare) (y2.Length.Low, ([] : List Int))).bind fun out_116 => some out_116
theorem c_ref07_all (n : Nat) (H : Hp) (w_ : Workshop) (w__v0 : Value) (hw__0 : SL H 4 R_Spare w__v0 w_.Spares) (w__v1 : Value) (hw__1 : SL H 1 R_Make w__v1 w_.Makes) (w__v3 : Value) (hw__3 : SL H 4 R_Trial w__v3 w_.Table) (spare : Int) (y : (List Int)) (hF : F_ref07_all n w_ spare = some y) : HC Try.prog 118 [.agg [w__v0, w__v1, .int .i64 w_.Cut, w__v3].toArray, .int .i64 spare] H (fun H' ra_v0 => SL H' 1 RInt ra_v0 y) := by
 rw [F_ref07_all] at hF
 refine HC.of (N := 34) Try.func118 rfl rfl rfl fun w => ?_
 refine JC.seq (JC.region (by rfl) ?_)
 intro hQ
 refine JL.box (cs := [w__v0, w__v1, .int .i64 w_.Cut, w__v3]) rfl .none rfl ?_
 intro b1
 refine JL.assign .none rfl ?_
 refine JL.done hQ (JQ.go (JC.seq (JC.region (by rfl) ?_)))
 intro hQ
 refine JL.assign .none rfl ?_
 refine JL.done hQ (JQ.go (JC.seq (JC.seq (JC.region (by rfl) ?_))))
 intro hQ
 refine JL.fieldAddr fo_48_0 rfl .none rfl ?_
 refine JL.loadOwn 0 az_44 rfl rfl rfl .none rfl ?_
 refine JL.move .none rfl ?_
 obtain ⟨y2, hy2, hF⟩ := bind_some hF
 refine JL.indexSL (R := R_Spare) sl_44 hw__0 rfl hy2 .none rfl ?_
 rintro b3 o4 cs5 hc6 - rfl
 refine JL.fieldAddr fo_131_2 rfl .none rfl ?_
 refine JL.fieldAddr fo_39_0 rfl .none rfl ?_
 refine JL.loadH 2 az_3 rfl hc6 rfl .none rfl ?_
 refine JL.assign .none rfl ?_
 refine JL.done hQ (JQ.go (JC.newNil (e := 3) (sz := 1) ?_))
 obtain ⟨r118, hlr118, hKr118⟩ := bind_some hF
 refine JC.join (fun (out_116 : List Int) H117 f bs gs => ∃ (vout_116 : Value) (xsout_116 : List Value), f 5 = vout_116 ∧ bs = [] ∧ gs = [⟨vout_116, 3, 1, out_116.length, xsout_116⟩] ∧ CH H117 1 RInt xsout_116 out_116 ∧ HSub H H117 ∧ out_116 = r118) ?_ ?_
 ·skip
  refine JC.block (JC.loop hlr118 (fun (x : Int × List Int) H171 f bs gs => match x with | (n_169, out_170) => ∃ (vout_170 : Value) (xsout_170 : List Value), f 1 = .int .i64 spare ∧ f 2 = .pointer (some ⟨b1, 0, none⟩) ∧ f 5 = vout_170 ∧ f 6 = .int .i64 n_169 ∧ bs = [(b1, .cells [w__v0, w__v1, .int .i64 w_.Cut, w__v3].toArray 48)] ∧ gs = [⟨vout_170, 3, 1, out_170.length, xsout_170⟩] ∧ CH H171 1 RInt xsout_170 out_170 ∧ HSub H H171) ⟨(.slice none 0 0), [], rfl, rfl, rfl, rfl, rfl, rfl, CH.nil, (HSub.refl _)⟩ ?_)
  rintro ⟨n_169, out_170⟩ x173 H171 f bs gs ⟨vout_170, xsout_170, hf1, hf2, hf5, hf6, rfl, rfl, hout_170, hs171⟩ hF hr172
  rw [F_ref07_all_s1] at hF
  refine (JC.norm (i := 1) hf1 (JC.norm (i := 2) hf2 (JC.norm (i := 5) hf5 (JC.norm (i := 6) hf6 ?_))))
  refine JC.seq (JC.seq (JC.region (by rfl) ?_))
  intro hQ
  refine JL.move .none rfl ?_
  refine JL.fieldAddr fo_48_0 rfl .none rfl ?_
  refine JL.loadOwn 0 az_44 rfl rfl rfl .none rfl ?_
  refine JL.move .none rfl ?_
  obtain ⟨y174, hy174, hF⟩ := bind_some hF
  refine JL.indexSL (R := R_Spare) sl_44 (SL.mono R_Spare_mono hs171 hw__0) rfl hy174 .none rfl ?_
  rintro b175 o176 cs177 hc178 - rfl
  refine JL.fieldAddr fo_131_2 rfl .none rfl ?_
  refine JL.fieldAddr fo_39_1 rfl .none rfl ?_
  refine JL.loadH 3 az_3 rfl hc178 rfl .none rfl ?_
  refine JL.bin rfl rfl rfl .none rfl ?_
  refine JL.done hQ (JQ.go ?_)
  rcases ite_some hF with ⟨hc179, hF⟩ | ⟨hc179, hF⟩
  ·refine JC.cond_t (b := decide (n_169 ≤ y174.Length.High)) rfl hc179 ?_
   refine JC.skip (JQ.go (JC.seq (JC.block (JC.seq (JC.region (by rfl) ?_)))))
   intro hQ
   refine JL.loadOwn 0 az_48 rfl rfl rfl .none rfl ?_
   refine JL.move .none rfl ?_
   refine JL.move .none rfl ?_
   obtain ⟨y180, hy180, hF⟩ := bind_some hF
   refine JL.callS (c_ref07_CanBe n H171 w_ w__v0 (SL.mono R_Spare_mono hs171 hw__0) w__v1 (SL.mono R_Make_mono hs171 hw__1) w__v3 (SL.mono R_Trial_mono hs171 hw__3) spare n_169 y180 hy180) rfl en_169 .none rfl ?_
   refine JL.done hQ (JQ.go (JC.fresh (fun f => f 1 = .int .i64 spare ∧ f 2 = .pointer (some ⟨b1, 0, none⟩) ∧ f 5 = vout_170 ∧ f 6 = .int .i64 n_169 ∧ f 28 = .bool y180) ⟨rfl, rfl, rfl, rfl, rfl⟩ ?_))
   rintro f ⟨hf1, hf2, hf5, hf6, hf28⟩
   refine (JC.norm (i := 1) hf1 (JC.norm (i := 2) hf2 (JC.norm (i := 5) hf5 (JC.norm (i := 6) hf6 (JC.norm (i := 28) hf28 ?_)))))
   obtain ⟨r189, hlr189, hKr189⟩ := bind_some hF
   refine JC.join (fun (out_187 : List Int) H188 f bs gs => ∃ (vout_187 : Value) (xsout_187 : List Value), f 1 = .int .i64 spare ∧ f 2 = .pointer (some ⟨b1, 0, none⟩) ∧ f 5 = vout_187 ∧ f 6 = .int .i64 n_169 ∧ bs = [(b1, .cells [w__v0, w__v1, .int .i64 w_.Cut, w__v3].toArray 48)] ∧ gs = [⟨vout_187, 3, 1, out_187.length, xsout_187⟩] ∧ CH H188 1 RInt xsout_187 out_187 ∧ HSub H171 H188 ∧ out_187 = r189) ?_ ?_
   ·have hF := hlr189
    rcases ite_some hF with ⟨hc190, hF⟩ | ⟨hc190, hF⟩
    ·refine JC.cond_t (b := y180) rfl hc190 ?_
     refine JC.region (by rfl) ?_
     intro hQ
     refine JL.move .none rfl ?_
     refine JL.move .none rfl ?_
     refine JL.buildSlice (e := 3) (l := [.int .i64 n_169]) (by kernel_rfl) .none rfl ?_
     intro b191
     obtain ⟨l192, hl192, hF⟩ := bind_some hF
     refine JL.appO (R := RInt) 0 0 (l := out_170) (m := [n_169]) ap_23 rfl ⟨rfl, rfl⟩ rfl hout_170 rfl rfl rfl (CH.cons (cs := [.int .i64 n_169]) rfl rfl CH.nil) rfl (one_cons rfl one_nil) hl192 .none rfl ?_
     intro v193 xs194 hch195
     refine JL.assign .none rfl ?_
     refine JL.done hQ ?_
     obtain rfl := Option.some.inj hF
     refine JQ.mask [false, true] [true] ?_
     exact JQ.join l192 ⟨v193, xs194, rfl, rfl, rfl, rfl, rfl, rfl, hch195, (HSub.refl _), rfl⟩
    ·refine JC.cond_f (b := y180) rfl hc190 ?_
     refine JC.skip ?_
     obtain rfl := Option.some.inj hF
     exact JQ.join out_170 ⟨vout_170, xsout_170, rfl, rfl, rfl, rfl, rfl, rfl, hout_170, (HSub.refl _), rfl⟩
   ·rintro out_187 H188 f bs gs ⟨vout_187, xsout_187, hf1, hf2, hf5, hf6, rfl, rfl, hout_187, hs188, rfl⟩
    have hF := hKr189
    try dsimp only at hF
    refine (JQ.norm (i := 1) hf1 (JQ.norm (i := 2) hf2 (JQ.norm (i := 5) hf5 (JQ.norm (i := 6) hf6 ?_))))
    refine JQ.normal_block (JQ.go (JC.region (by rfl) ?_))
    intro hQ
    refine JL.move .none rfl ?_
    refine JL.bin rfl rfl rfl .none rfl ?_
    refine JL.assign .none rfl ?_
    refine JL.done hQ ?_
    obtain rfl := Option.some.inj hF
    exact JQ.next rfl ⟨vout_187, xsout_187, rfl, rfl, rfl, rfl, rfl, rfl, hout_187, (HSub.trans hs171 hs188)⟩
  ·refine JC.cond_f (b := decide (n_169 ≤ y174.Length.High)) rfl hc179 ?_
   refine JC.exit (JQ.exit_then (JQ.exit_then (JQ.exit_block ?_)))
   obtain rfl := Option.some.inj hF
   have ehr172 := hr172 _ rfl
   subst ehr172
   refine JQ.mask [false] [true] ?_
   exact JQ.join out_170 ⟨vout_170, xsout_170, rfl, rfl, rfl, hout_170, hs171, rfl⟩
 ·rintro out_116 H117 f bs gs ⟨vout_116, xsout_116, hf5, rfl, rfl, hout_116, hs117, rfl⟩
  have hF := hKr118
  try dsimp only at hF
  refine (JQ.norm (i := 5) hf5 ?_)
  refine JQ.go (JC.seq (JC.region (by rfl) ?_))
  intro hQ
  refine JL.move .none rfl ?_
  refine JL.assign .none rfl ?_
  refine JL.done hQ (JQ.go (JC.ret (JQ.freezeG 0 (R := RInt) rfl RInt.mono hout_116 rfl ?_)))
  intro H196 hs196 hg197
  obtain rfl := Option.some.inj hF
  exact JQ.outH rfl (.tmp .nil) hg197
-- 64 ferrule/ferruleref07.known
def F_ref07_known_s1 (n : Nat) (w_ : Workshop) : Int → Option (Int ⊕ (Int ⊕ Unit))
 | i_39 => if decide (i_39 < (w_.Spares.length : Int)) = true then ((F_ref07_all n w_ i_39).bind fun y44 => if ((y44.length : Int) == 0) = true then (some (Sum.inr (Sum.inl 3))) else (some (Sum.inl (w64 (i_39 + 1))))) else (some (Sum.inr (Sum.inr ())))
def F_ref07_known (n : Nat) (w_ : Workshop) (is : Bool) : Option Int :=
 (F_ref07_Check n w_).bind fun y2 => if (y2 != 0) = true then (some y2) else (if (!is) = true then (some 1) else ((loopO n (F_ref07_known_s1 n w_) 0).bind fun r26 => match r26 with | .inl o => some o | .inr _ => some 0))
theorem c_ref07_known (n : Nat) (H : Hp) (w_ : Workshop) (w__v0 : Value) (hw__0 : SL H 4 R_Spare w__v0 w_.Spares) (w__v1 : Value) (hw__1 : SL H 1 R_Make w__v1 w_.Makes) (w__v3 : Value) (hw__3 : SL H 4 R_Trial w__v3 w_.Table) (is : Bool) (y : Int) (hF : F_ref07_known n w_ is = some y) : SC Try.prog 64 [.agg [w__v0, w__v1, .int .i64 w_.Cut, w__v3].toArray, .bool is] (.int .i64 y) H := by
 rw [F_ref07_known] at hF
 refine SC.of (N := 26) Try.func64 rfl rfl rfl fun w => ?_
 refine JC.seq (JC.region (by rfl) ?_)
 intro hQ
 refine JL.box (cs := [w__v0, w__v1, .int .i64 w_.Cut, w__v3]) rfl .none rfl ?_
 intro b1
 refine JL.assign .none rfl ?_
 refine JL.done hQ (JQ.go (JC.seq (JC.seq (JC.region (by rfl) ?_))))
 intro hQ
 refine JL.loadOwn 0 az_48 rfl rfl rfl .none rfl ?_
 obtain ⟨y2, hy2, hF⟩ := bind_some hF
 refine JL.callS (c_ref07_Check n H w_ w__v0 hw__0 w__v1 hw__1 w__v3 hw__3 y2 hy2) rfl en_63 .none rfl ?_
 refine JL.assign .none rfl ?_
 refine JL.done hQ (JQ.go (JC.seq (JC.region (by rfl) ?_)))
 intro hQ
 refine JL.move .none rfl ?_
 refine JL.bin rfl rfl rfl .none rfl ?_
 refine JL.done hQ (JQ.go ?_)
 rcases ite_some hF with ⟨hc3, hF⟩ | ⟨hc3, hF⟩
 ·refine JC.cond_t (b := (y2 != 0)) rfl hc3 ?_
  refine JC.seq (JC.region (by rfl) ?_)
  intro hQ
  refine JL.move .none rfl ?_
  refine JL.assign .none rfl ?_
  refine JL.done hQ (JQ.go (JC.ret (JQ.ret_then ?_)))
  obtain rfl := Option.some.inj hF
  exact JQ.outS rfl (.tmp .nil) rfl
 ·refine JC.cond_f (b := (y2 != 0)) rfl hc3 ?_
  refine JC.skip (JQ.go (JC.seq (JC.seq (JC.region (by rfl) ?_))))
  intro hQ
  refine JL.move .none rfl ?_
  refine JL.not rfl .none rfl ?_
  refine JL.done hQ (JQ.go ?_)
  rcases ite_some hF with ⟨hc4, hF⟩ | ⟨hc4, hF⟩
  ·refine JC.cond_t (b := (!is)) rfl hc4 ?_
   refine JC.seq (JC.region (by rfl) ?_)
   intro hQ
   refine JL.assign .none rfl ?_
   refine JL.done hQ (JQ.go (JC.ret (JQ.ret_then ?_)))
   obtain rfl := Option.some.inj hF
   exact JQ.outS rfl (.tmp .nil) rfl
  ·refine JC.cond_f (b := (!is)) rfl hc4 ?_
   refine JC.skip (JQ.go (JC.seq (JC.seq (JC.region (by rfl) ?_))))
   intro hQ
   refine JL.assign .none rfl ?_
   refine JL.done hQ (JQ.go ?_)
   obtain ⟨r26, hlr26, hKr26⟩ := bind_some hF
   refine JC.join (fun (_ : Unit) H25 f bs gs => bs = [] ∧ gs = [] ∧ HSub H H25 ∧ Sum.inr () = r26) ?_ ?_
   ·skip
    refine JC.block (JC.loop hlr26 (fun (i_39 : Int) H40 f bs gs => f 2 = .pointer (some ⟨b1, 0, none⟩) ∧ f 6 = .int .i64 i_39 ∧ bs = [(b1, .cells [w__v0, w__v1, .int .i64 w_.Cut, w__v3].toArray 48)] ∧ gs = [] ∧ HSub H H40) ⟨rfl, rfl, rfl, rfl, (HSub.refl _)⟩ ?_)
    rintro i_39 x42 H40 f bs gs ⟨hf2, hf6, rfl, rfl, hs40⟩ hF hr41
    rw [F_ref07_known_s1] at hF
    refine (JC.norm (i := 2) hf2 (JC.norm (i := 6) hf6 ?_))
    refine JC.seq (JC.seq (JC.region (by rfl) ?_))
    intro hQ
    refine JL.move .none rfl ?_
    refine JL.fieldAddr fo_48_0 rfl .none rfl ?_
    refine JL.loadOwn 0 az_44 rfl rfl rfl .none rfl ?_
    refine JL.lenSL (R := R_Spare) ul_44 (SL.mono R_Spare_mono hs40 hw__0) .none rfl ?_
    refine JL.bin rfl rfl rfl .none rfl ?_
    refine JL.done hQ (JQ.go ?_)
    rcases ite_some hF with ⟨hc43, hF⟩ | ⟨hc43, hF⟩
    ·refine JC.cond_t (b := decide (i_39 < (w_.Spares.length : Int))) rfl hc43 ?_
     refine JC.skip (JQ.go (JC.seq (JC.block (JC.seq (JC.region (by rfl) ?_)))))
     intro hQ
     refine JL.loadOwn 0 az_48 rfl rfl rfl .none rfl ?_
     refine JL.move .none rfl ?_
     obtain ⟨y44, hy44, hF⟩ := bind_some hF
     refine JL.callH (c_ref07_all n H40 w_ w__v0 (SL.mono R_Spare_mono hs40 hw__0) w__v1 (SL.mono R_Make_mono hs40 hw__1) w__v3 (SL.mono R_Trial_mono hs40 hw__3) i_39 y44 hy44) rfl en_118 .none rfl ?_
     intro H45 y44a_v0 hs45 hy44a_0
     refine JL.lenSL (R := RInt) ul_23 hy44a_0 .none rfl ?_
     refine JL.bin rfl rfl rfl .none rfl ?_
     refine JL.done hQ (JQ.go ?_)
     rcases ite_some hF with ⟨hc46, hF⟩ | ⟨hc46, hF⟩
     ·refine JC.cond_t (b := ((y44.length : Int) == 0)) rfl hc46 ?_
      refine JC.seq (JC.region (by rfl) ?_)
      intro hQ
      refine JL.assign .none rfl ?_
      refine JL.done hQ (JQ.go (JC.ret (JQ.ret_block (JQ.ret_then (JQ.ret_then (JQ.ret_block (JQ.ret_join (JQ.ret_then ?_))))))))
      obtain rfl := Option.some.inj hF
      have ehr41 := hr41 _ rfl
      subst ehr41
      have hF := hKr26
      try dsimp only at hF
      obtain rfl := Option.some.inj hF
      exact JQ.outS rfl (.tmp .nil) rfl
     ·refine JC.cond_f (b := ((y44.length : Int) == 0)) rfl hc46 ?_
      refine JC.skip (JQ.normal_block (JQ.go (JC.region (by rfl) ?_)))
      intro hQ
      refine JL.move .none rfl ?_
      refine JL.bin rfl rfl rfl .none rfl ?_
      refine JL.assign .none rfl ?_
      refine JL.done hQ ?_
      obtain rfl := Option.some.inj hF
      exact JQ.next rfl ⟨rfl, rfl, rfl, rfl, (HSub.trans hs40 hs45)⟩
    ·refine JC.cond_f (b := decide (i_39 < (w_.Spares.length : Int))) rfl hc43 ?_
     refine JC.exit (JQ.exit_then (JQ.exit_then (JQ.exit_block ?_)))
     obtain rfl := Option.some.inj hF
     have ehr41 := hr41 _ rfl
     subst ehr41
     refine JQ.mask [false] [] ?_
     exact JQ.join () ⟨rfl, rfl, hs40, rfl⟩
   ·rintro _ H25 f bs gs ⟨rfl, rfl, hs25, rfl⟩
    have hF := hKr26
    try dsimp only at hF
    refine JQ.go (JC.seq (JC.region (by rfl) ?_))
    intro hQ
    refine JL.assign .none rfl ?_
    refine JL.done hQ (JQ.go (JC.ret ?_))
    obtain rfl := Option.some.inj hF
    exact JQ.outS rfl (.tmp .nil) rfl
-- 19 ferrule/ferruleref07.Known
def F_ref07_Known (n : Nat) (w_ : Workshop) : Option Int :=
 (F_ref07_known n w_ true).bind fun y2 => some y2
theorem c_ref07_Known (n : Nat) (H : Hp) (w_ : Workshop) (w__v0 : Value) (hw__0 : SL H 4 R_Spare w__v0 w_.Spares) (w__v1 : Value) (hw__1 : SL H 1 R_Make w__v1 w_.Makes) (w__v3 : Value) (hw__3 : SL H 4 R_Trial w__v3 w_.Table) (y : Int) (hF : F_ref07_Known n w_ = some y) : SC Try.prog 19 [.agg [w__v0, w__v1, .int .i64 w_.Cut, w__v3].toArray] (.int .i64 y) H := by
 rw [F_ref07_Known] at hF
 refine SC.of (N := 5) Try.func19 rfl rfl rfl fun w => ?_
 refine JC.seq (JC.region (by rfl) ?_)
 intro hQ
 refine JL.box (cs := [w__v0, w__v1, .int .i64 w_.Cut, w__v3]) rfl .none rfl ?_
 intro b1
 refine JL.assign .none rfl ?_
 refine JL.done hQ (JQ.go (JC.seq (JC.region (by rfl) ?_)))
 intro hQ
 refine JL.loadOwn 0 az_48 rfl rfl rfl .none rfl ?_
 obtain ⟨y2, hy2, hF⟩ := bind_some hF
 refine JL.callS (c_ref07_known n H w_ w__v0 hw__0 w__v1 hw__1 w__v3 hw__3 true y2 hy2) rfl en_64 .none rfl ?_
 refine JL.assign .none rfl ?_
 refine JL.done hQ (JQ.go (JC.ret ?_))
 obtain rfl := Option.some.inj hF
 exact JQ.outS rfl (.tmp .nil) rfl
-- 66 ferrule/ferruleref01.Within
def F_ref01_Within (n : Nat) (n_ : Int) (low : Int) (high : Int) : Option Bool :=
 some ((decide (low ≤ n_)) && (decide (n_ ≤ high)))
theorem c_ref01_Within (n : Nat) (H : Hp) (n_ : Int) (low : Int) (high : Int) (y : Bool) (hF : F_ref01_Within n n_ low high = some y) : SC Try.prog 66 [.int .i64 n_, .int .i64 low, .int .i64 high] (.bool y) H := by
 rw [F_ref01_Within] at hF
 refine SC.of (N := 15) Try.func66 rfl rfl rfl fun w => ?_
 refine JC.seq (JC.region (by rfl) ?_)
 intro hQ
 refine JL.assign .none rfl ?_
 refine JL.done hQ (JQ.go (JC.seq (JC.region (by rfl) ?_)))
 intro hQ
 refine JL.move .none rfl ?_
 refine JL.move .none rfl ?_
 refine JL.bin rfl rfl rfl .none rfl ?_
 refine JL.move .none rfl ?_
 refine JL.cut 4 (fun f => f 14 = .bool ((decide (low ≤ n_)) && (decide (n_ ≤ high)))) ?_ ?_
 ·intro hJ1
  rcases bcases (decide (low ≤ n_)) with hc2 | hc2
  ·skip
   refine JL.move (.some rfl rfl rfl hc2) rfl ?_
   refine JL.move (.some rfl rfl rfl hc2) rfl ?_
   refine JL.bin rfl rfl rfl (.some rfl rfl rfl hc2) rfl ?_
   refine JL.pick_t (b := decide (low ≤ n_)) rfl hc2 .none rfl ?_
   exact hJ1 _ (and_t hc2 rfl)
  ·skip
   refine JL.skip (.bool rfl rfl rfl hc2) rfl ?_
   refine JL.skip (.bool rfl rfl rfl hc2) rfl ?_
   refine JL.skip (.bool rfl rfl rfl hc2) rfl ?_
   refine JL.pick_f (b := decide (low ≤ n_)) rfl hc2 .none rfl ?_
   exact hJ1 _ (and_f hc2 rfl)
 ·rintro f hf14
  refine (JL.norm (i := 14) hf14 ?_)
  refine JL.assign .none rfl ?_
  refine JL.done hQ (JQ.go (JC.ret ?_))
  obtain rfl := Option.some.inj hF
  exact JQ.outS rfl (.tmp .nil) rfl
-- 65 ferrule/ferruleref01.isLong
def F_ref01_isLong (n : Nat) (s : Span) : Option Bool :=
 (F_ref01_Within n s.Low 1 s.High).bind fun y2 => some ((y2 && (decide (s.High ≤ 2000))) && (decide ((w64 (s.High - s.Low)) ≤ 6)))
theorem c_ref01_isLong (n : Nat) (H : Hp) (s : Span) (y : Bool) (hF : F_ref01_isLong n s = some y) : SC Try.prog 65 [.agg [.int .i64 s.Low, .int .i64 s.High].toArray] (.bool y) H := by
 rw [F_ref01_isLong] at hF
 refine SC.of (N := 21) Try.func65 rfl rfl rfl fun w => ?_
 refine JC.seq (JC.region (by rfl) ?_)
 intro hQ
 refine JL.box (cs := [.int .i64 s.Low, .int .i64 s.High]) rfl .none rfl ?_
 intro b1
 refine JL.assign .none rfl ?_
 refine JL.done hQ (JQ.go (JC.seq (JC.region (by rfl) ?_)))
 intro hQ
 refine JL.fieldAddr fo_39_0 rfl .none rfl ?_
 refine JL.loadOwn 0 az_3 rfl rfl rfl .none rfl ?_
 refine JL.fieldAddr fo_39_1 rfl .none rfl ?_
 refine JL.loadOwn 0 az_3 rfl rfl rfl .none rfl ?_
 obtain ⟨y2, hy2, hF⟩ := bind_some hF
 refine JL.callS (c_ref01_Within n H s.Low 1 s.High y2 hy2) rfl en_66 .none rfl ?_
 refine JL.move .none rfl ?_
 refine JL.cut 4 (fun f => f 1 = .pointer (some ⟨b1, 0, none⟩) ∧ f 12 = .bool (y2 && (decide (s.High ≤ 2000)))) ?_ ?_
 ·intro hJ3
  rcases bcases y2 with hc4 | hc4
  ·skip
   refine JL.fieldAddr fo_39_1 rfl (.some rfl rfl rfl hc4) rfl ?_
   refine JL.loadOwn 0 az_3 rfl rfl rfl (.some rfl rfl rfl hc4) rfl ?_
   refine JL.bin rfl rfl rfl (.some rfl rfl rfl hc4) rfl ?_
   refine JL.pick_t (b := y2) rfl hc4 .none rfl ?_
   exact hJ3 _ ⟨rfl, and_t hc4 rfl⟩
  ·skip
   refine JL.skip (.bool rfl rfl rfl hc4) rfl ?_
   refine JL.skip (.bool rfl rfl rfl hc4) rfl ?_
   refine JL.skip (.bool rfl rfl rfl hc4) rfl ?_
   refine JL.pick_f (b := y2) rfl hc4 .none rfl ?_
   exact hJ3 _ ⟨rfl, and_f hc4 rfl⟩
 ·rintro f ⟨hf1, hf12⟩
  refine (JL.norm (i := 1) hf1 (JL.norm (i := 12) hf12 ?_))
  refine JL.move .none rfl ?_
  refine JL.cut 7 (fun f => f 20 = .bool ((y2 && (decide (s.High ≤ 2000))) && (decide ((w64 (s.High - s.Low)) ≤ 6)))) ?_ ?_
  ·intro hJ5
   rcases bcases (y2 && (decide (s.High ≤ 2000))) with hc6 | hc6
   ·skip
    refine JL.fieldAddr fo_39_1 rfl (.some rfl rfl rfl hc6) rfl ?_
    refine JL.loadOwn 0 az_3 rfl rfl rfl (.some rfl rfl rfl hc6) rfl ?_
    refine JL.fieldAddr fo_39_0 rfl (.some rfl rfl rfl hc6) rfl ?_
    refine JL.loadOwn 0 az_3 rfl rfl rfl (.some rfl rfl rfl hc6) rfl ?_
    refine JL.bin rfl rfl rfl (.some rfl rfl rfl hc6) rfl ?_
    refine JL.bin rfl rfl rfl (.some rfl rfl rfl hc6) rfl ?_
    refine JL.pick_t (b := (y2 && (decide (s.High ≤ 2000)))) rfl hc6 .none rfl ?_
    exact hJ5 _ (and_t hc6 rfl)
   ·skip
    refine JL.skip (.bool rfl rfl rfl hc6) rfl ?_
    refine JL.skip (.bool rfl rfl rfl hc6) rfl ?_
    refine JL.skip (.bool rfl rfl rfl hc6) rfl ?_
    refine JL.skip (.bool rfl rfl rfl hc6) rfl ?_
    refine JL.skip (.bool rfl rfl rfl hc6) rfl ?_
    refine JL.skip (.bool rfl rfl rfl hc6) rfl ?_
    refine JL.pick_f (b := (y2 && (decide (s.High ≤ 2000)))) rfl hc6 .none rfl ?_
    exact hJ5 _ (and_f hc6 rfl)
  ·rintro f hf20
   refine (JL.norm (i := 20) hf20 ?_)
   refine JL.assign .none rfl ?_
   refine JL.done hQ (JQ.go (JC.ret ?_))
   obtain rfl := Option.some.inj hF
   exact JQ.outS rfl (.tmp .nil) rfl
-- 67 ferrule/ferruleref01.isShare
def F_ref01_isShare (n : Nat) (x_ : Frac) : Option Bool :=
 (F_ref01_Within n x_.Den 1 20).bind fun y2 => (if y2 = true then ((F_ref01_Within n x_.Num 0 x_.Den).bind fun y7 => some y7) else (some false) : Option Bool).bind fun p4 => some p4
theorem c_ref01_isShare (n : Nat) (H : Hp) (x_ : Frac) (y : Bool) (hF : F_ref01_isShare n x_ = some y) : SC Try.prog 67 [.agg [.int .i64 x_.Num, .int .i64 x_.Den].toArray] (.bool y) H := by
 rw [F_ref01_isShare] at hF
 refine SC.of (N := 13) Try.func67 rfl rfl rfl fun w => ?_
 refine JC.seq (JC.region (by rfl) ?_)
 intro hQ
 refine JL.box (cs := [.int .i64 x_.Num, .int .i64 x_.Den]) rfl .none rfl ?_
 intro b1
 refine JL.assign .none rfl ?_
 refine JL.done hQ (JQ.go (JC.seq (JC.region (by rfl) ?_)))
 intro hQ
 refine JL.fieldAddr fo_51_1 rfl .none rfl ?_
 refine JL.loadOwn 0 az_3 rfl rfl rfl .none rfl ?_
 obtain ⟨y2, hy2, hF⟩ := bind_some hF
 refine JL.callS (c_ref01_Within n H x_.Den 1 20 y2 hy2) rfl en_66 .none rfl ?_
 refine JL.move .none rfl ?_
 obtain ⟨p4, hp4, hF⟩ := bind_some hF
 refine JL.cut 6 (fun f => f 12 = .bool p4) ?_ ?_
 ·intro hJ5
  rcases ite_some hp4 with ⟨hc6, hF⟩ | ⟨hc6, hF⟩
  ·skip
   refine JL.fieldAddr fo_51_0 rfl (.some rfl rfl rfl hc6) rfl ?_
   refine JL.loadOwn 0 az_3 rfl rfl rfl (.some rfl rfl rfl hc6) rfl ?_
   refine JL.fieldAddr fo_51_1 rfl (.some rfl rfl rfl hc6) rfl ?_
   refine JL.loadOwn 0 az_3 rfl rfl rfl (.some rfl rfl rfl hc6) rfl ?_
   obtain ⟨y7, hy7, hF⟩ := bind_some hF
   refine JL.callS (c_ref01_Within n H x_.Num 0 x_.Den y7 hy7) rfl en_66 (.some rfl rfl rfl hc6) rfl ?_
   refine JL.pick_t (b := y2) rfl hc6 .none rfl ?_
   obtain rfl := Option.some.inj hF
   exact hJ5 _ (rfl)
  ·skip
   refine JL.skip (.bool rfl rfl rfl hc6) rfl ?_
   refine JL.skip (.bool rfl rfl rfl hc6) rfl ?_
   refine JL.skip (.bool rfl rfl rfl hc6) rfl ?_
   refine JL.skip (.bool rfl rfl rfl hc6) rfl ?_
   refine JL.skip (.bool rfl rfl rfl hc6) rfl ?_
   refine JL.pick_f (b := y2) rfl hc6 .none rfl ?_
   obtain rfl := Option.some.inj hF
   exact hJ5 _ (rfl)
 ·rintro f hf12
  refine (JL.norm (i := 12) hf12 ?_)
  refine JL.assign .none rfl ?_
  refine JL.done hQ (JQ.go (JC.ret ?_))
  obtain rfl := Option.some.inj hF
  exact JQ.outS rfl (.tmp .nil) rfl
end Go.Proofs.Yteihdclpiekmaaa
end
