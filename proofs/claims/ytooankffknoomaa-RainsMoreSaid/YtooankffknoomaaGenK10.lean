/-
  Printed by a program: functions of the translation as plain functions, and their contracts.
-/
import Derived.Test.YtooankffknoomaaGenK9
namespace Go.Proofs.Ytooankffknoomaa
open Go Go.RowKit Go.Dec
set_option linter.unusedVariables false
-- 6 ferrule/ferrulelaw11.RainsStock
def F_law11_RainsStock (n : Nat) (t : Tour) (by_ : Int) (route : List Int) : Option Bool :=
  (F_law11_ready n t).bind fun y2 => (if ((((!y2) || (decide (by_ < 0))) || (decide (999 < by_))) || (decide (20 < (route.length : Int)))) = true then (some true) else ((F_ref11_IsRoute n t route).bind fun y13 => some (!y13)) : Option Bool).bind fun p10 => if p10 = true then ((F_law11_works n).bind fun y15 => some y15) else ((F_ref11_Copy n t).bind fun y17 => (F_ref11_Copy n t).bind fun y20 => (F_rains_Best n t).bind fun y59 => (F_rains_Hopes n t).bind fun y60 => (F_law11_isKnown n y59.2).bind fun y61 => if ((!y61) || (y59.2 != y60.2)) = true then (some false) else (if (y59.2 != 0) = true then ((F_law11_works n).bind fun y66 => some y66) else ((F_rains_Best n (Tour.mk y17.Days y17.Step y17.Rains y17.Wrong y17.Fairs y17.Reach (min 999 (w64 (t.Stock + by_))))).bind fun y67 => (F_rains_Hopes n (Tour.mk y17.Days y17.Step y17.Rains y17.Wrong y17.Fairs y17.Reach (min 999 (w64 (t.Stock + by_))))).bind fun y68 => (F_rains_Best n (Tour.mk y20.Days y20.Step y20.Rains y20.Wrong y20.Fairs (min 4 (w64 (t.Reach + 1))) y20.Stock)).bind fun y69 => (F_rains_Hopes n (Tour.mk y20.Days y20.Step y20.Rains y20.Wrong y20.Fairs (min 4 (w64 (t.Reach + 1))) y20.Stock)).bind fun y70 => (F_rains_Takes n t route).bind fun y71 => (F_rains_Takes n (Tour.mk y17.Days y17.Step y17.Rains y17.Wrong y17.Fairs y17.Reach (min 999 (w64 (t.Stock + by_)))) route).bind fun y73 => (F_rains_Left n t route).bind fun y75 => (F_rains_Left n (Tour.mk y17.Days y17.Step y17.Rains y17.Wrong y17.Fairs y17.Reach (min 999 (w64 (t.Stock + by_)))) route).bind fun y77 => (if ((((((((((((((((y67.2 == 0) && (y68.2 == 0)) && (y69.2 == 0)) && (y70.2 == 0)) && (y71.2 == 0)) && (y73.2 == 0)) && (y75.2 == 0)) && (y77.2 == 0)) && (decide (y59.1 ≤ y67.1))) && (decide (y60.1 ≤ y68.1))) && (decide (y59.1 ≤ y69.1))) && (decide (y60.1 ≤ y70.1))) && (decide (y71.1.Low ≤ y73.1.Low))) && (decide (y71.1.High ≤ y73.1.High))) && (decide (y75.1.Low ≤ y77.1.Low))) && (decide (y75.1.High ≤ y77.1.High))) = true then ((F_law11_works n).bind fun y113 => some y113) else (some false) : Option Bool).bind fun p110 => some p110)))
set_option maxRecDepth 100000 in
set_option maxHeartbeats 40000000 in
theorem c_law11_RainsStock (n : Nat) (H : Hp) (t : Tour) (t_v2 : Value) (ht_2 : SL H 3 R_Rain t_v2 t.Rains) (t_v4 : Value) (ht_4 : SL H 2 R_Fair t_v4 t.Fairs) (by_ : Int) (route : List Int) (route_v0 : Value) (hroute_0 : SL H 1 RInt route_v0 route) (y : Bool) (hF : F_law11_RainsStock n t by_ route = some y) : SC Try.prog 6 [.agg [.int .i64 t.Days, .int .i64 t.Step, t_v2, .int .i64 t.Wrong, t_v4, .int .i64 t.Reach, .int .i64 t.Stock].toArray, .int .i64 by_, route_v0] (.bool y) H := by
  rw [F_law11_RainsStock] at hF
  refine SC.of (N := 213) Try.func6 rfl rfl rfl fun w => ?_
  refine JC.seq ?_
  refine JC.region (by rfl) ?_
  intro hQ
  refine JL.box (cs := [.int .i64 t.Days, .int .i64 t.Step, t_v2, .int .i64 t.Wrong, t_v4, .int .i64 t.Reach, .int .i64 t.Stock]) rfl .none rfl ?_
  intro b1
  refine JL.assign .none rfl ?_
  refine JL.done hQ ?_
  refine JQ.go ?_
  refine JC.seq ?_
  refine JC.seq ?_
  refine JC.region (by rfl) ?_
  intro hQ
  refine JL.loadOwn 0 az_25 rfl rfl rfl .none rfl ?_
  obtain ⟨y2, hy2, hF⟩ := bind_some hF
  refine JL.callS (c_law11_ready n H t t_v2 ht_2 t_v4 ht_4 y2 hy2) rfl en_19 .none rfl ?_
  refine JL.not rfl .none rfl ?_
  refine JL.move .none rfl ?_
  refine JL.cut 3 (fun f => f 1 = .int .i64 by_ ∧ f 2 = route_v0 ∧ f 3 = .pointer (some ⟨b1, 0, none⟩) ∧ f 35 = .bool ((!y2) || (decide (by_ < 0)))) ?_ ?_
  · intro hJ3
    rcases bcases (!y2) with hc4 | hc4
    · skip
      refine JL.skip (.bool rfl rfl rfl hc4) rfl ?_
      refine JL.skip (.bool rfl rfl rfl hc4) rfl ?_
      refine JL.pick_t (b := (!y2)) rfl hc4 .none rfl ?_
      exact hJ3 _ ⟨rfl, rfl, rfl, or_t hc4 rfl⟩
    · skip
      refine JL.move (.some rfl rfl rfl hc4) rfl ?_
      refine JL.bin rfl rfl rfl (.some rfl rfl rfl hc4) rfl ?_
      refine JL.pick_f (b := (!y2)) rfl hc4 .none rfl ?_
      exact hJ3 _ ⟨rfl, rfl, rfl, or_f hc4 rfl⟩
  · rintro f ⟨hf1, hf2, hf3, hf35⟩
    refine (JL.norm (i := 1) hf1 (JL.norm (i := 2) hf2 (JL.norm (i := 3) hf3 (JL.norm (i := 35) hf35 ?_))))
    refine JL.move .none rfl ?_
    refine JL.cut 3 (fun f => f 1 = .int .i64 by_ ∧ f 2 = route_v0 ∧ f 3 = .pointer (some ⟨b1, 0, none⟩) ∧ f 39 = .bool (((!y2) || (decide (by_ < 0))) || (decide (999 < by_)))) ?_ ?_
    · intro hJ5
      rcases bcases ((!y2) || (decide (by_ < 0))) with hc6 | hc6
      · skip
        refine JL.skip (.bool rfl rfl rfl hc6) rfl ?_
        refine JL.skip (.bool rfl rfl rfl hc6) rfl ?_
        refine JL.pick_t (b := ((!y2) || (decide (by_ < 0)))) rfl hc6 .none rfl ?_
        exact hJ5 _ ⟨rfl, rfl, rfl, or_t hc6 rfl⟩
      · skip
        refine JL.move (.some rfl rfl rfl hc6) rfl ?_
        refine JL.bin rfl rfl rfl (.some rfl rfl rfl hc6) rfl ?_
        refine JL.pick_f (b := ((!y2) || (decide (by_ < 0)))) rfl hc6 .none rfl ?_
        exact hJ5 _ ⟨rfl, rfl, rfl, or_f hc6 rfl⟩
    · rintro f ⟨hf1, hf2, hf3, hf39⟩
      refine (JL.norm (i := 1) hf1 (JL.norm (i := 2) hf2 (JL.norm (i := 3) hf3 (JL.norm (i := 39) hf39 ?_))))
      refine JL.move .none rfl ?_
      refine JL.cut 4 (fun f => f 1 = .int .i64 by_ ∧ f 2 = route_v0 ∧ f 3 = .pointer (some ⟨b1, 0, none⟩) ∧ f 44 = .bool ((((!y2) || (decide (by_ < 0))) || (decide (999 < by_))) || (decide (20 < (route.length : Int))))) ?_ ?_
      · intro hJ7
        rcases bcases (((!y2) || (decide (by_ < 0))) || (decide (999 < by_))) with hc8 | hc8
        · skip
          refine JL.skip (.bool rfl rfl rfl hc8) rfl ?_
          refine JL.skip (.bool rfl rfl rfl hc8) rfl ?_
          refine JL.skip (.bool rfl rfl rfl hc8) rfl ?_
          refine JL.pick_t (b := (((!y2) || (decide (by_ < 0))) || (decide (999 < by_)))) rfl hc8 .none rfl ?_
          exact hJ7 _ ⟨rfl, rfl, rfl, or_t hc8 rfl⟩
        · skip
          refine JL.move (.some rfl rfl rfl hc8) rfl ?_
          refine JL.lenSL (R := RInt) ul_26 hroute_0 (.some rfl rfl rfl hc8) rfl ?_
          refine JL.bin rfl rfl rfl (.some rfl rfl rfl hc8) rfl ?_
          refine JL.pick_f (b := (((!y2) || (decide (by_ < 0))) || (decide (999 < by_)))) rfl hc8 .none rfl ?_
          exact hJ7 _ ⟨rfl, rfl, rfl, or_f hc8 rfl⟩
      · rintro f ⟨hf1, hf2, hf3, hf44⟩
        refine (JL.norm (i := 1) hf1 (JL.norm (i := 2) hf2 (JL.norm (i := 3) hf3 (JL.norm (i := 44) hf44 ?_))))
        refine JL.move .none rfl ?_
        obtain ⟨p10, hp10, hF⟩ := bind_some hF
        refine JL.cut 5 (fun f => f 1 = .int .i64 by_ ∧ f 2 = route_v0 ∧ f 3 = .pointer (some ⟨b1, 0, none⟩) ∧ f 50 = .bool p10) ?_ ?_
        · intro hJ11
          rcases ite_some hp10 with ⟨hc12, hF⟩ | ⟨hc12, hF⟩
          · skip
            refine JL.skip (.bool rfl rfl rfl hc12) rfl ?_
            refine JL.skip (.bool rfl rfl rfl hc12) rfl ?_
            refine JL.skip (.bool rfl rfl rfl hc12) rfl ?_
            refine JL.skip (.bool rfl rfl rfl hc12) rfl ?_
            refine JL.pick_t (b := ((((!y2) || (decide (by_ < 0))) || (decide (999 < by_))) || (decide (20 < (route.length : Int))))) rfl hc12 .none rfl ?_
            obtain rfl := Option.some.inj hF
            exact hJ11 _ ⟨rfl, rfl, rfl, rfl⟩
          · skip
            refine JL.loadOwn 0 az_25 rfl rfl rfl (.some rfl rfl rfl hc12) rfl ?_
            refine JL.move (.some rfl rfl rfl hc12) rfl ?_
            obtain ⟨y13, hy13, hF⟩ := bind_some hF
            refine JL.callS (c_ref11_IsRoute n H t t_v2 ht_2 t_v4 ht_4 route route_v0 hroute_0 y13 hy13) rfl en_20 (.some rfl rfl rfl hc12) rfl ?_
            refine JL.not rfl (.some rfl rfl rfl hc12) rfl ?_
            refine JL.pick_f (b := ((((!y2) || (decide (by_ < 0))) || (decide (999 < by_))) || (decide (20 < (route.length : Int))))) rfl hc12 .none rfl ?_
            obtain rfl := Option.some.inj hF
            exact hJ11 _ ⟨rfl, rfl, rfl, rfl⟩
        · rintro f ⟨hf1, hf2, hf3, hf50⟩
          refine (JL.norm (i := 1) hf1 (JL.norm (i := 2) hf2 (JL.norm (i := 3) hf3 (JL.norm (i := 50) hf50 ?_))))
          refine JL.done hQ ?_
          refine JQ.go ?_
          rcases ite_some hF with ⟨hc14, hF⟩ | ⟨hc14, hF⟩
          · refine JC.cond_t (b := p10) rfl hc14 ?_
            refine JC.seq ?_
            refine JC.region (by rfl) ?_
            intro hQ
            obtain ⟨y15, hy15, hF⟩ := bind_some hF
            refine JL.callS (c_law11_works n H y15 hy15) rfl en_13 .none rfl ?_
            refine JL.assign .none rfl ?_
            refine JL.done hQ ?_
            refine JQ.go ?_
            refine JC.ret ?_
            refine JQ.ret_then ?_
            obtain rfl := Option.some.inj hF
            exact JQ.outS rfl (.tmp .nil) rfl
          · refine JC.cond_f (b := p10) rfl hc14 ?_
            refine JC.skip ?_
            refine JQ.go ?_
            refine JC.seq ?_
            obtain ⟨y17, hy17, hF⟩ := bind_some hF
            obtain ⟨y20, hy20, hF⟩ := bind_some hF
            refine JC.mixed 8 8 #[false, false, false, false, false, false, false, false] [(b1, .cells [.int .i64 t.Days, .int .i64 t.Step, t_v2, .int .i64 t.Wrong, t_v4, .int .i64 t.Reach, .int .i64 t.Stock].toArray 25)] (by rfl) mo_ (by kernel_rfl) (by kernel_rfl) ?_
            intro hQ hE
            refine JA.cut 2 #[true, true, true, true, true, true, false, false] (fun H53 f bs gs => ∃ (b49 : Nat) (b39 : Nat) (y17a_v2 : Value) (y17a_v4 : Value) (y20a_v2 : Value) (y20a_v4 : Value), f 1 = .int .i64 by_ ∧ f 2 = route_v0 ∧ f 3 = .pointer (some ⟨b1, 0, none⟩) ∧ f 7 = .pointer (some ⟨b39, 0, none⟩) ∧ f 8 = .pointer (some ⟨b49, 0, none⟩) ∧ f 53 = .agg [.int .i64 y17.Days, .int .i64 y17.Step, y17a_v2, .int .i64 y17.Wrong, y17a_v4, .int .i64 y17.Reach, .int .i64 y17.Stock].toArray ∧ f 55 = .agg [.int .i64 y20.Days, .int .i64 y20.Step, y20a_v2, .int .i64 y20.Wrong, y20a_v4, .int .i64 y20.Reach, .int .i64 y20.Stock].toArray ∧ bs = [(b49, .cells [.int .i64 0, .int .i64 0, .slice none 0 0, .int .i64 0, .slice none 0 0, .int .i64 0, .int .i64 0].toArray 25), (b39, .cells [.int .i64 0, .int .i64 0, .slice none 0 0, .int .i64 0, .slice none 0 0, .int .i64 0, .int .i64 0].toArray 25), (b1, .cells [.int .i64 t.Days, .int .i64 t.Step, t_v2, .int .i64 t.Wrong, t_v4, .int .i64 t.Reach, .int .i64 t.Stock].toArray 25)] ∧ gs = [] ∧ SL H53 3 R_Rain y17a_v2 y17.Rains ∧ SL H53 2 R_Fair y17a_v4 y17.Fairs ∧ SL H53 3 R_Rain y20a_v2 y20.Rains ∧ SL H53 2 R_Fair y20a_v4 y20.Fairs ∧ HSub H H53) ?_ ?_
            · rintro H53 f bs gs ⟨b49, b39, y17a_v2, y17a_v4, y20a_v2, y20a_v4, hf1, hf2, hf3, hf7, hf8, hf53, hf55, rfl, rfl, hm54, hm55, hm56, hm57, hs53⟩
              refine (JA.norm (i := 1) hf1 (JA.norm (i := 2) hf2 (JA.norm (i := 3) hf3 (JA.norm (i := 7) hf7 (JA.norm (i := 8) hf8 (JA.norm (i := 53) hf53 (JA.norm (i := 55) hf55 ?_)))))))
              refine JA.many [6] (by kernel_rfl) (by simp) (all_one ⟨_, #[true, true, true, true, true, true, true, false], rfl, (by kernel_rfl), ?_⟩)
              refine JL.storeOwn 1 (cs := [.int .i64 y17.Days, .int .i64 y17.Step, y17a_v2, .int .i64 y17.Wrong, y17a_v4, .int .i64 y17.Reach, .int .i64 y17.Stock]) az_25 rfl rfl rfl (one_cons rfl (one_cons rfl (one_cons (SL.one hm54) (one_cons rfl (one_cons (SL.one hm55) (one_cons rfl (one_cons rfl one_nil))))))) rfl rfl .none ?_
              refine JA.after hE hs53 (.cons _ (.cons _ (.cons_cons _ (List.nil_sublist _)))) ?_
              refine JA.many [7] (by kernel_rfl) (by simp) (all_one ⟨_, #[true, true, true, true, true, true, true, true], rfl, (by kernel_rfl), ?_⟩)
              refine JL.storeOwn 0 (cs := [.int .i64 y20.Days, .int .i64 y20.Step, y20a_v2, .int .i64 y20.Wrong, y20a_v4, .int .i64 y20.Reach, .int .i64 y20.Stock]) az_25 rfl rfl rfl (one_cons rfl (one_cons rfl (one_cons (SL.one hm56) (one_cons rfl (one_cons (SL.one hm57) (one_cons rfl (one_cons rfl one_nil))))))) rfl rfl .none ?_
              refine JA.after hE hs53 (.cons _ (.cons _ (.cons_cons _ (List.nil_sublist _)))) ?_
              refine JA.done hQ (by kernel_rfl) ?_
              refine JQ.go ?_
              refine JC.seq ?_
              refine JC.mixed 10 13 #[false, false, false, false, false, false, false, false, false, false, false, false, false] [(b49, .cells [.int .i64 y20.Days, .int .i64 y20.Step, y20a_v2, .int .i64 y20.Wrong, y20a_v4, .int .i64 y20.Reach, .int .i64 y20.Stock].toArray 25), (b39, .cells [.int .i64 y17.Days, .int .i64 y17.Step, y17a_v2, .int .i64 y17.Wrong, y17a_v4, .int .i64 y17.Reach, .int .i64 y17.Stock].toArray 25), (b1, .cells [.int .i64 t.Days, .int .i64 t.Step, t_v2, .int .i64 t.Wrong, t_v4, .int .i64 t.Reach, .int .i64 t.Stock].toArray 25)] (by rfl) mo_ (by kernel_rfl) (by kernel_rfl) ?_
              intro hQ hE
              refine JA.cut 2 #[true, true, true, true, true, true, true, true, true, true, true, false, false] (fun H58 f bs gs => f 2 = route_v0 ∧ f 3 = .pointer (some ⟨b1, 0, none⟩) ∧ f 7 = .pointer (some ⟨b39, 0, none⟩) ∧ f 8 = .pointer (some ⟨b49, 0, none⟩) ∧ f 64 = .int .i64 (min 4 (w64 (t.Reach + 1))) ∧ bs = [(b49, .cells [.int .i64 y20.Days, .int .i64 y20.Step, y20a_v2, .int .i64 y20.Wrong, y20a_v4, .int .i64 y20.Reach, .int .i64 y20.Stock].toArray 25), (b39, .cells [.int .i64 y17.Days, .int .i64 y17.Step, y17a_v2, .int .i64 y17.Wrong, y17a_v4, .int .i64 y17.Reach, .int .i64 (min 999 (w64 (t.Stock + by_)))].toArray 25), (b1, .cells [.int .i64 t.Days, .int .i64 t.Step, t_v2, .int .i64 t.Wrong, t_v4, .int .i64 t.Reach, .int .i64 t.Stock].toArray 25)] ∧ gs = [] ∧ HSub H53 H58) ?_ ?_
              · rintro H58 f bs gs ⟨hf2, hf3, hf7, hf8, hf64, rfl, rfl, hs58⟩
                refine (JA.norm (i := 2) hf2 (JA.norm (i := 3) hf3 (JA.norm (i := 7) hf7 (JA.norm (i := 8) hf8 (JA.norm (i := 64) hf64 ?_)))))
                refine JA.many [11] (by kernel_rfl) (by simp) (all_one ⟨_, #[true, true, true, true, true, true, true, true, true, true, true, true, false], rfl, (by kernel_rfl), ?_⟩)
                refine JL.fieldAddr fo_25_5 rfl .none rfl ?_
                refine JA.sink (by kernel_rfl) ?_
                refine JA.many [12] (by kernel_rfl) (by simp) (all_one ⟨_, #[true, true, true, true, true, true, true, true, true, true, true, true, true], rfl, (by kernel_rfl), ?_⟩)
                refine JL.storeOwn 0 (cs := [.int .i64 (min 4 (w64 (t.Reach + 1)))]) az_3 rfl rfl rfl (one_cons rfl one_nil) rfl rfl .none ?_
                refine JA.sink (by kernel_rfl) ?_
                refine JA.done hQ (by kernel_rfl) ?_
                refine JQ.go ?_
                refine JC.seq ?_
                refine JC.region (by rfl) ?_
                intro hQ
                refine JL.loadOwn 2 az_25 rfl rfl rfl .none rfl ?_
                obtain ⟨y59, hy59, hF⟩ := bind_some hF
                refine JL.callS (c_rains_Best n H58 t t_v2 (SL.mono R_Rain_mono (HSub.trans hs53 hs58) ht_2) t_v4 (SL.mono R_Fair_mono (HSub.trans hs53 hs58) ht_4) y59 hy59) rfl en_23 .none rfl ?_
                refine JL.move .none rfl ?_
                refine JL.extract rfl rfl .none rfl ?_
                refine JL.extract rfl rfl .none rfl ?_
                refine JL.assign .none rfl ?_
                refine JL.assign .none rfl ?_
                refine JL.done hQ ?_
                refine JQ.go ?_
                refine JC.seq ?_
                refine JC.region (by rfl) ?_
                intro hQ
                refine JL.loadOwn 2 az_25 rfl rfl rfl .none rfl ?_
                obtain ⟨y60, hy60, hF⟩ := bind_some hF
                refine JL.callS (c_rains_Hopes n H58 t t_v2 (SL.mono R_Rain_mono (HSub.trans hs53 hs58) ht_2) t_v4 (SL.mono R_Fair_mono (HSub.trans hs53 hs58) ht_4) y60 hy60) rfl en_24 .none rfl ?_
                refine JL.move .none rfl ?_
                refine JL.extract rfl rfl .none rfl ?_
                refine JL.extract rfl rfl .none rfl ?_
                refine JL.assign .none rfl ?_
                refine JL.assign .none rfl ?_
                refine JL.done hQ ?_
                refine JQ.go ?_
                refine JC.fresh (fun f => f 2 = route_v0 ∧ f 3 = .pointer (some ⟨b1, 0, none⟩) ∧ f 7 = .pointer (some ⟨b39, 0, none⟩) ∧ f 8 = .pointer (some ⟨b49, 0, none⟩) ∧ f 9 = .int .i64 y59.1 ∧ f 10 = .int .i64 y59.2 ∧ f 11 = .int .i64 y60.1 ∧ f 12 = .int .i64 y60.2) ⟨rfl, rfl, rfl, rfl, rfl, rfl, rfl, rfl⟩ ?_
                rintro f ⟨hf2, hf3, hf7, hf8, hf9, hf10, hf11, hf12⟩
                refine (JC.norm (i := 2) hf2 (JC.norm (i := 3) hf3 (JC.norm (i := 7) hf7 (JC.norm (i := 8) hf8 (JC.norm (i := 9) hf9 (JC.norm (i := 10) hf10 (JC.norm (i := 11) hf11 (JC.norm (i := 12) hf12 ?_))))))))
                refine JC.seq ?_
                refine JC.seq ?_
                refine JC.region (by rfl) ?_
                intro hQ
                refine JL.move .none rfl ?_
                obtain ⟨y61, hy61, hF⟩ := bind_some hF
                refine JL.callS (c_law11_isKnown n H58 y59.2 y61 hy61) rfl en_22 .none rfl ?_
                refine JL.not rfl .none rfl ?_
                refine JL.move .none rfl ?_
                refine JL.cut 4 (fun f => f 2 = route_v0 ∧ f 3 = .pointer (some ⟨b1, 0, none⟩) ∧ f 7 = .pointer (some ⟨b39, 0, none⟩) ∧ f 8 = .pointer (some ⟨b49, 0, none⟩) ∧ f 9 = .int .i64 y59.1 ∧ f 10 = .int .i64 y59.2 ∧ f 11 = .int .i64 y60.1 ∧ f 84 = .bool ((!y61) || (y59.2 != y60.2))) ?_ ?_
                · intro hJ62
                  rcases bcases (!y61) with hc63 | hc63
                  · skip
                    refine JL.skip (.bool rfl rfl rfl hc63) rfl ?_
                    refine JL.skip (.bool rfl rfl rfl hc63) rfl ?_
                    refine JL.skip (.bool rfl rfl rfl hc63) rfl ?_
                    refine JL.pick_t (b := (!y61)) rfl hc63 .none rfl ?_
                    exact hJ62 _ ⟨rfl, rfl, rfl, rfl, rfl, rfl, rfl, or_t hc63 rfl⟩
                  · skip
                    refine JL.move (.some rfl rfl rfl hc63) rfl ?_
                    refine JL.move (.some rfl rfl rfl hc63) rfl ?_
                    refine JL.bin rfl rfl rfl (.some rfl rfl rfl hc63) rfl ?_
                    refine JL.pick_f (b := (!y61)) rfl hc63 .none rfl ?_
                    exact hJ62 _ ⟨rfl, rfl, rfl, rfl, rfl, rfl, rfl, or_f hc63 rfl⟩
                · rintro f ⟨hf2, hf3, hf7, hf8, hf9, hf10, hf11, hf84⟩
                  refine (JL.norm (i := 2) hf2 (JL.norm (i := 3) hf3 (JL.norm (i := 7) hf7 (JL.norm (i := 8) hf8 (JL.norm (i := 9) hf9 (JL.norm (i := 10) hf10 (JL.norm (i := 11) hf11 (JL.norm (i := 84) hf84 ?_))))))))
                  refine JL.done hQ ?_
                  refine JQ.go ?_
                  rcases ite_some hF with ⟨hc64, hF⟩ | ⟨hc64, hF⟩
                  · refine JC.cond_t (b := ((!y61) || (y59.2 != y60.2))) rfl hc64 ?_
                    refine JC.seq ?_
                    refine JC.region (by rfl) ?_
                    intro hQ
                    refine JL.assign .none rfl ?_
                    refine JL.done hQ ?_
                    refine JQ.go ?_
                    refine JC.ret ?_
                    refine JQ.ret_then ?_
                    obtain rfl := Option.some.inj hF
                    exact JQ.outS rfl (.tmp .nil) rfl
                  · refine JC.cond_f (b := ((!y61) || (y59.2 != y60.2))) rfl hc64 ?_
                    refine JC.skip ?_
                    refine JQ.go ?_
                    refine JC.seq ?_
                    refine JC.seq ?_
                    refine JC.region (by rfl) ?_
                    intro hQ
                    refine JL.move .none rfl ?_
                    refine JL.bin rfl rfl rfl .none rfl ?_
                    refine JL.done hQ ?_
                    refine JQ.go ?_
                    rcases ite_some hF with ⟨hc65, hF⟩ | ⟨hc65, hF⟩
                    · refine JC.cond_t (b := (y59.2 != 0)) rfl hc65 ?_
                      refine JC.seq ?_
                      refine JC.region (by rfl) ?_
                      intro hQ
                      obtain ⟨y66, hy66, hF⟩ := bind_some hF
                      refine JL.callS (c_law11_works n H58 y66 hy66) rfl en_13 .none rfl ?_
                      refine JL.assign .none rfl ?_
                      refine JL.done hQ ?_
                      refine JQ.go ?_
                      refine JC.ret ?_
                      refine JQ.ret_then ?_
                      obtain rfl := Option.some.inj hF
                      exact JQ.outS rfl (.tmp .nil) rfl
                    · refine JC.cond_f (b := (y59.2 != 0)) rfl hc65 ?_
                      refine JC.skip ?_
                      refine JQ.go ?_
                      refine JC.seq ?_
                      refine JC.region (by rfl) ?_
                      intro hQ
                      refine JL.loadOwn 1 az_25 rfl rfl rfl .none rfl ?_
                      obtain ⟨y67, hy67, hF⟩ := bind_some hF
                      refine JL.callS (c_rains_Best n H58 (Tour.mk y17.Days y17.Step y17.Rains y17.Wrong y17.Fairs y17.Reach (min 999 (w64 (t.Stock + by_)))) y17a_v2 (SL.mono R_Rain_mono hs58 hm54) y17a_v4 (SL.mono R_Fair_mono hs58 hm55) y67 hy67) rfl en_23 .none rfl ?_
                      refine JL.move .none rfl ?_
                      refine JL.extract rfl rfl .none rfl ?_
                      refine JL.extract rfl rfl .none rfl ?_
                      refine JL.assign .none rfl ?_
                      refine JL.assign .none rfl ?_
                      refine JL.done hQ ?_
                      refine JQ.go ?_
                      refine JC.fresh (fun f => f 2 = route_v0 ∧ f 3 = .pointer (some ⟨b1, 0, none⟩) ∧ f 7 = .pointer (some ⟨b39, 0, none⟩) ∧ f 8 = .pointer (some ⟨b49, 0, none⟩) ∧ f 9 = .int .i64 y59.1 ∧ f 11 = .int .i64 y60.1 ∧ f 13 = .int .i64 y67.1 ∧ f 14 = .int .i64 y67.2) ⟨rfl, rfl, rfl, rfl, rfl, rfl, rfl, rfl⟩ ?_
                      rintro f ⟨hf2, hf3, hf7, hf8, hf9, hf11, hf13, hf14⟩
                      refine (JC.norm (i := 2) hf2 (JC.norm (i := 3) hf3 (JC.norm (i := 7) hf7 (JC.norm (i := 8) hf8 (JC.norm (i := 9) hf9 (JC.norm (i := 11) hf11 (JC.norm (i := 13) hf13 (JC.norm (i := 14) hf14 ?_))))))))
                      refine JC.seq ?_
                      refine JC.region (by rfl) ?_
                      intro hQ
                      refine JL.loadOwn 1 az_25 rfl rfl rfl .none rfl ?_
                      obtain ⟨y68, hy68, hF⟩ := bind_some hF
                      refine JL.callS (c_rains_Hopes n H58 (Tour.mk y17.Days y17.Step y17.Rains y17.Wrong y17.Fairs y17.Reach (min 999 (w64 (t.Stock + by_)))) y17a_v2 (SL.mono R_Rain_mono hs58 hm54) y17a_v4 (SL.mono R_Fair_mono hs58 hm55) y68 hy68) rfl en_24 .none rfl ?_
                      refine JL.move .none rfl ?_
                      refine JL.extract rfl rfl .none rfl ?_
                      refine JL.extract rfl rfl .none rfl ?_
                      refine JL.assign .none rfl ?_
                      refine JL.assign .none rfl ?_
                      refine JL.done hQ ?_
                      refine JQ.go ?_
                      refine JC.seq ?_
                      refine JC.region (by rfl) ?_
                      intro hQ
                      refine JL.loadOwn 0 az_25 rfl rfl rfl .none rfl ?_
                      obtain ⟨y69, hy69, hF⟩ := bind_some hF
                      refine JL.callS (c_rains_Best n H58 (Tour.mk y20.Days y20.Step y20.Rains y20.Wrong y20.Fairs (min 4 (w64 (t.Reach + 1))) y20.Stock) y20a_v2 (SL.mono R_Rain_mono hs58 hm56) y20a_v4 (SL.mono R_Fair_mono hs58 hm57) y69 hy69) rfl en_23 .none rfl ?_
                      refine JL.move .none rfl ?_
                      refine JL.extract rfl rfl .none rfl ?_
                      refine JL.extract rfl rfl .none rfl ?_
                      refine JL.assign .none rfl ?_
                      refine JL.assign .none rfl ?_
                      refine JL.done hQ ?_
                      refine JQ.go ?_
                      refine JC.fresh (fun f => f 2 = route_v0 ∧ f 3 = .pointer (some ⟨b1, 0, none⟩) ∧ f 7 = .pointer (some ⟨b39, 0, none⟩) ∧ f 8 = .pointer (some ⟨b49, 0, none⟩) ∧ f 9 = .int .i64 y59.1 ∧ f 11 = .int .i64 y60.1 ∧ f 13 = .int .i64 y67.1 ∧ f 14 = .int .i64 y67.2 ∧ f 15 = .int .i64 y68.1 ∧ f 16 = .int .i64 y68.2 ∧ f 17 = .int .i64 y69.1 ∧ f 18 = .int .i64 y69.2) ⟨rfl, rfl, rfl, rfl, rfl, rfl, rfl, rfl, rfl, rfl, rfl, rfl⟩ ?_
                      rintro f ⟨hf2, hf3, hf7, hf8, hf9, hf11, hf13, hf14, hf15, hf16, hf17, hf18⟩
                      refine (JC.norm (i := 2) hf2 (JC.norm (i := 3) hf3 (JC.norm (i := 7) hf7 (JC.norm (i := 8) hf8 (JC.norm (i := 9) hf9 (JC.norm (i := 11) hf11 (JC.norm (i := 13) hf13 (JC.norm (i := 14) hf14 (JC.norm (i := 15) hf15 (JC.norm (i := 16) hf16 (JC.norm (i := 17) hf17 (JC.norm (i := 18) hf18 ?_))))))))))))
                      refine JC.seq ?_
                      refine JC.region (by rfl) ?_
                      intro hQ
                      refine JL.loadOwn 0 az_25 rfl rfl rfl .none rfl ?_
                      obtain ⟨y70, hy70, hF⟩ := bind_some hF
                      refine JL.callS (c_rains_Hopes n H58 (Tour.mk y20.Days y20.Step y20.Rains y20.Wrong y20.Fairs (min 4 (w64 (t.Reach + 1))) y20.Stock) y20a_v2 (SL.mono R_Rain_mono hs58 hm56) y20a_v4 (SL.mono R_Fair_mono hs58 hm57) y70 hy70) rfl en_24 .none rfl ?_
                      refine JL.move .none rfl ?_
                      refine JL.extract rfl rfl .none rfl ?_
                      refine JL.extract rfl rfl .none rfl ?_
                      refine JL.assign .none rfl ?_
                      refine JL.assign .none rfl ?_
                      refine JL.done hQ ?_
                      refine JQ.go ?_
                      refine JC.seq ?_
                      refine JC.region (by rfl) ?_
                      intro hQ
                      refine JL.loadOwn 2 az_25 rfl rfl rfl .none rfl ?_
                      refine JL.move .none rfl ?_
                      obtain ⟨y71, hy71, hF⟩ := bind_some hF
                      refine JL.callS (c_rains_Takes n H58 t t_v2 (SL.mono R_Rain_mono (HSub.trans hs53 hs58) ht_2) t_v4 (SL.mono R_Fair_mono (HSub.trans hs53 hs58) ht_4) route route_v0 (SL.mono RInt.mono (HSub.trans hs53 hs58) hroute_0) y71 hy71) rfl en_15 .none rfl ?_
                      refine JL.move .none rfl ?_
                      refine JL.extract rfl rfl .none rfl ?_
                      refine JL.extract rfl rfl .none rfl ?_
                      refine JL.alloc ze_31 .none rfl ?_
                      intro b72
                      refine JL.storeOwn 0 (cs := [.int .i64 y71.1.Low, .int .i64 y71.1.High]) az_31 rfl rfl rfl (one_cons rfl (one_cons rfl one_nil)) rfl rfl .none ?_
                      refine JL.assign .none rfl ?_
                      refine JL.done hQ ?_
                      refine JQ.go ?_
                      refine JC.fresh (fun f => f 2 = route_v0 ∧ f 3 = .pointer (some ⟨b1, 0, none⟩) ∧ f 7 = .pointer (some ⟨b39, 0, none⟩) ∧ f 9 = .int .i64 y59.1 ∧ f 11 = .int .i64 y60.1 ∧ f 13 = .int .i64 y67.1 ∧ f 14 = .int .i64 y67.2 ∧ f 15 = .int .i64 y68.1 ∧ f 16 = .int .i64 y68.2 ∧ f 17 = .int .i64 y69.1 ∧ f 18 = .int .i64 y69.2 ∧ f 19 = .int .i64 y70.1 ∧ f 20 = .int .i64 y70.2 ∧ f 21 = .pointer (some ⟨b72, 0, none⟩) ∧ f 22 = .int .i64 y71.2) ⟨rfl, rfl, rfl, rfl, rfl, rfl, rfl, rfl, rfl, rfl, rfl, rfl, rfl, rfl, rfl⟩ ?_
                      rintro f ⟨hf2, hf3, hf7, hf9, hf11, hf13, hf14, hf15, hf16, hf17, hf18, hf19, hf20, hf21, hf22⟩
                      refine (JC.norm (i := 2) hf2 (JC.norm (i := 3) hf3 (JC.norm (i := 7) hf7 (JC.norm (i := 9) hf9 (JC.norm (i := 11) hf11 (JC.norm (i := 13) hf13 (JC.norm (i := 14) hf14 (JC.norm (i := 15) hf15 (JC.norm (i := 16) hf16 (JC.norm (i := 17) hf17 (JC.norm (i := 18) hf18 (JC.norm (i := 19) hf19 (JC.norm (i := 20) hf20 (JC.norm (i := 21) hf21 (JC.norm (i := 22) hf22 ?_)))))))))))))))
                      refine JC.seq ?_
                      refine JC.region (by rfl) ?_
                      intro hQ
                      refine JL.loadOwn 2 az_25 rfl rfl rfl .none rfl ?_
                      refine JL.move .none rfl ?_
                      obtain ⟨y73, hy73, hF⟩ := bind_some hF
                      refine JL.callS (c_rains_Takes n H58 (Tour.mk y17.Days y17.Step y17.Rains y17.Wrong y17.Fairs y17.Reach (min 999 (w64 (t.Stock + by_)))) y17a_v2 (SL.mono R_Rain_mono hs58 hm54) y17a_v4 (SL.mono R_Fair_mono hs58 hm55) route route_v0 (SL.mono RInt.mono (HSub.trans hs53 hs58) hroute_0) y73 hy73) rfl en_15 .none rfl ?_
                      refine JL.move .none rfl ?_
                      refine JL.extract rfl rfl .none rfl ?_
                      refine JL.extract rfl rfl .none rfl ?_
                      refine JL.alloc ze_31 .none rfl ?_
                      intro b74
                      refine JL.storeOwn 0 (cs := [.int .i64 y73.1.Low, .int .i64 y73.1.High]) az_31 rfl rfl rfl (one_cons rfl (one_cons rfl one_nil)) rfl rfl .none ?_
                      refine JL.assign .none rfl ?_
                      refine JL.done hQ ?_
                      refine JQ.go ?_
                      refine JC.seq ?_
                      refine JC.region (by rfl) ?_
                      intro hQ
                      refine JL.loadOwn 4 az_25 rfl rfl rfl .none rfl ?_
                      refine JL.move .none rfl ?_
                      obtain ⟨y75, hy75, hF⟩ := bind_some hF
                      refine JL.callS (c_rains_Left n H58 t t_v2 (SL.mono R_Rain_mono (HSub.trans hs53 hs58) ht_2) t_v4 (SL.mono R_Fair_mono (HSub.trans hs53 hs58) ht_4) route route_v0 (SL.mono RInt.mono (HSub.trans hs53 hs58) hroute_0) y75 hy75) rfl en_17 .none rfl ?_
                      refine JL.move .none rfl ?_
                      refine JL.extract rfl rfl .none rfl ?_
                      refine JL.extract rfl rfl .none rfl ?_
                      refine JL.alloc ze_31 .none rfl ?_
                      intro b76
                      refine JL.storeOwn 0 (cs := [.int .i64 y75.1.Low, .int .i64 y75.1.High]) az_31 rfl rfl rfl (one_cons rfl (one_cons rfl one_nil)) rfl rfl .none ?_
                      refine JL.assign .none rfl ?_
                      refine JL.done hQ ?_
                      refine JQ.go ?_
                      refine JC.fresh (fun f => f 2 = route_v0 ∧ f 7 = .pointer (some ⟨b39, 0, none⟩) ∧ f 9 = .int .i64 y59.1 ∧ f 11 = .int .i64 y60.1 ∧ f 13 = .int .i64 y67.1 ∧ f 14 = .int .i64 y67.2 ∧ f 15 = .int .i64 y68.1 ∧ f 16 = .int .i64 y68.2 ∧ f 17 = .int .i64 y69.1 ∧ f 18 = .int .i64 y69.2 ∧ f 19 = .int .i64 y70.1 ∧ f 20 = .int .i64 y70.2 ∧ f 21 = .pointer (some ⟨b72, 0, none⟩) ∧ f 22 = .int .i64 y71.2 ∧ f 23 = .pointer (some ⟨b74, 0, none⟩) ∧ f 24 = .int .i64 y73.2 ∧ f 25 = .pointer (some ⟨b76, 0, none⟩) ∧ f 26 = .int .i64 y75.2) ⟨rfl, rfl, rfl, rfl, rfl, rfl, rfl, rfl, rfl, rfl, rfl, rfl, rfl, rfl, rfl, rfl, rfl, rfl⟩ ?_
                      rintro f ⟨hf2, hf7, hf9, hf11, hf13, hf14, hf15, hf16, hf17, hf18, hf19, hf20, hf21, hf22, hf23, hf24, hf25, hf26⟩
                      refine (JC.norm (i := 2) hf2 (JC.norm (i := 7) hf7 (JC.norm (i := 9) hf9 (JC.norm (i := 11) hf11 (JC.norm (i := 13) hf13 (JC.norm (i := 14) hf14 (JC.norm (i := 15) hf15 (JC.norm (i := 16) hf16 (JC.norm (i := 17) hf17 (JC.norm (i := 18) hf18 (JC.norm (i := 19) hf19 (JC.norm (i := 20) hf20 (JC.norm (i := 21) hf21 (JC.norm (i := 22) hf22 (JC.norm (i := 23) hf23 (JC.norm (i := 24) hf24 (JC.norm (i := 25) hf25 (JC.norm (i := 26) hf26 ?_))))))))))))))))))
                      refine JC.seq ?_
                      refine JC.region (by rfl) ?_
                      intro hQ
                      refine JL.loadOwn 4 az_25 rfl rfl rfl .none rfl ?_
                      refine JL.move .none rfl ?_
                      obtain ⟨y77, hy77, hF⟩ := bind_some hF
                      refine JL.callS (c_rains_Left n H58 (Tour.mk y17.Days y17.Step y17.Rains y17.Wrong y17.Fairs y17.Reach (min 999 (w64 (t.Stock + by_)))) y17a_v2 (SL.mono R_Rain_mono hs58 hm54) y17a_v4 (SL.mono R_Fair_mono hs58 hm55) route route_v0 (SL.mono RInt.mono (HSub.trans hs53 hs58) hroute_0) y77 hy77) rfl en_17 .none rfl ?_
                      refine JL.move .none rfl ?_
                      refine JL.extract rfl rfl .none rfl ?_
                      refine JL.extract rfl rfl .none rfl ?_
                      refine JL.alloc ze_31 .none rfl ?_
                      intro b78
                      refine JL.storeOwn 0 (cs := [.int .i64 y77.1.Low, .int .i64 y77.1.High]) az_31 rfl rfl rfl (one_cons rfl (one_cons rfl one_nil)) rfl rfl .none ?_
                      refine JL.assign .none rfl ?_
                      refine JL.done hQ ?_
                      refine JQ.go ?_
                      refine JC.fresh (fun f => f 9 = .int .i64 y59.1 ∧ f 11 = .int .i64 y60.1 ∧ f 13 = .int .i64 y67.1 ∧ f 14 = .int .i64 y67.2 ∧ f 15 = .int .i64 y68.1 ∧ f 16 = .int .i64 y68.2 ∧ f 17 = .int .i64 y69.1 ∧ f 18 = .int .i64 y69.2 ∧ f 19 = .int .i64 y70.1 ∧ f 20 = .int .i64 y70.2 ∧ f 21 = .pointer (some ⟨b72, 0, none⟩) ∧ f 22 = .int .i64 y71.2 ∧ f 23 = .pointer (some ⟨b74, 0, none⟩) ∧ f 24 = .int .i64 y73.2 ∧ f 25 = .pointer (some ⟨b76, 0, none⟩) ∧ f 26 = .int .i64 y75.2 ∧ f 27 = .pointer (some ⟨b78, 0, none⟩) ∧ f 28 = .int .i64 y77.2) ⟨rfl, rfl, rfl, rfl, rfl, rfl, rfl, rfl, rfl, rfl, rfl, rfl, rfl, rfl, rfl, rfl, rfl, rfl⟩ ?_
                      rintro f ⟨hf9, hf11, hf13, hf14, hf15, hf16, hf17, hf18, hf19, hf20, hf21, hf22, hf23, hf24, hf25, hf26, hf27, hf28⟩
                      refine (JC.norm (i := 9) hf9 (JC.norm (i := 11) hf11 (JC.norm (i := 13) hf13 (JC.norm (i := 14) hf14 (JC.norm (i := 15) hf15 (JC.norm (i := 16) hf16 (JC.norm (i := 17) hf17 (JC.norm (i := 18) hf18 (JC.norm (i := 19) hf19 (JC.norm (i := 20) hf20 (JC.norm (i := 21) hf21 (JC.norm (i := 22) hf22 (JC.norm (i := 23) hf23 (JC.norm (i := 24) hf24 (JC.norm (i := 25) hf25 (JC.norm (i := 26) hf26 (JC.norm (i := 27) hf27 (JC.norm (i := 28) hf28 ?_))))))))))))))))))
                      refine JC.seq ?_
                      refine JC.region (by rfl) ?_
                      intro hQ
                      refine JL.move .none rfl ?_
                      refine JL.bin rfl rfl rfl .none rfl ?_
                      refine JL.move .none rfl ?_
                      refine JL.cut 3 (fun f => f 9 = .int .i64 y59.1 ∧ f 11 = .int .i64 y60.1 ∧ f 13 = .int .i64 y67.1 ∧ f 15 = .int .i64 y68.1 ∧ f 17 = .int .i64 y69.1 ∧ f 18 = .int .i64 y69.2 ∧ f 19 = .int .i64 y70.1 ∧ f 20 = .int .i64 y70.2 ∧ f 21 = .pointer (some ⟨b72, 0, none⟩) ∧ f 22 = .int .i64 y71.2 ∧ f 23 = .pointer (some ⟨b74, 0, none⟩) ∧ f 24 = .int .i64 y73.2 ∧ f 25 = .pointer (some ⟨b76, 0, none⟩) ∧ f 26 = .int .i64 y75.2 ∧ f 27 = .pointer (some ⟨b78, 0, none⟩) ∧ f 28 = .int .i64 y77.2 ∧ f 137 = .bool ((y67.2 == 0) && (y68.2 == 0))) ?_ ?_
                      · intro hJ79
                        rcases bcases (y67.2 == 0) with hc80 | hc80
                        · skip
                          refine JL.move (.some rfl rfl rfl hc80) rfl ?_
                          refine JL.bin rfl rfl rfl (.some rfl rfl rfl hc80) rfl ?_
                          refine JL.pick_t (b := (y67.2 == 0)) rfl hc80 .none rfl ?_
                          exact hJ79 _ ⟨rfl, rfl, rfl, rfl, rfl, rfl, rfl, rfl, rfl, rfl, rfl, rfl, rfl, rfl, rfl, rfl, and_t hc80 rfl⟩
                        · skip
                          refine JL.skip (.bool rfl rfl rfl hc80) rfl ?_
                          refine JL.skip (.bool rfl rfl rfl hc80) rfl ?_
                          refine JL.pick_f (b := (y67.2 == 0)) rfl hc80 .none rfl ?_
                          exact hJ79 _ ⟨rfl, rfl, rfl, rfl, rfl, rfl, rfl, rfl, rfl, rfl, rfl, rfl, rfl, rfl, rfl, rfl, and_f hc80 rfl⟩
                      · rintro f ⟨hf9, hf11, hf13, hf15, hf17, hf18, hf19, hf20, hf21, hf22, hf23, hf24, hf25, hf26, hf27, hf28, hf137⟩
                        refine (JL.norm (i := 9) hf9 (JL.norm (i := 11) hf11 (JL.norm (i := 13) hf13 (JL.norm (i := 15) hf15 (JL.norm (i := 17) hf17 (JL.norm (i := 18) hf18 (JL.norm (i := 19) hf19 (JL.norm (i := 20) hf20 (JL.norm (i := 21) hf21 (JL.norm (i := 22) hf22 (JL.norm (i := 23) hf23 (JL.norm (i := 24) hf24 (JL.norm (i := 25) hf25 (JL.norm (i := 26) hf26 (JL.norm (i := 27) hf27 (JL.norm (i := 28) hf28 (JL.norm (i := 137) hf137 ?_)))))))))))))))))
                        refine JL.move .none rfl ?_
                        refine JL.cut 3 (fun f => f 9 = .int .i64 y59.1 ∧ f 11 = .int .i64 y60.1 ∧ f 13 = .int .i64 y67.1 ∧ f 15 = .int .i64 y68.1 ∧ f 17 = .int .i64 y69.1 ∧ f 19 = .int .i64 y70.1 ∧ f 20 = .int .i64 y70.2 ∧ f 21 = .pointer (some ⟨b72, 0, none⟩) ∧ f 22 = .int .i64 y71.2 ∧ f 23 = .pointer (some ⟨b74, 0, none⟩) ∧ f 24 = .int .i64 y73.2 ∧ f 25 = .pointer (some ⟨b76, 0, none⟩) ∧ f 26 = .int .i64 y75.2 ∧ f 27 = .pointer (some ⟨b78, 0, none⟩) ∧ f 28 = .int .i64 y77.2 ∧ f 141 = .bool (((y67.2 == 0) && (y68.2 == 0)) && (y69.2 == 0))) ?_ ?_
                        · intro hJ81
                          rcases bcases ((y67.2 == 0) && (y68.2 == 0)) with hc82 | hc82
                          · skip
                            refine JL.move (.some rfl rfl rfl hc82) rfl ?_
                            refine JL.bin rfl rfl rfl (.some rfl rfl rfl hc82) rfl ?_
                            refine JL.pick_t (b := ((y67.2 == 0) && (y68.2 == 0))) rfl hc82 .none rfl ?_
                            exact hJ81 _ ⟨rfl, rfl, rfl, rfl, rfl, rfl, rfl, rfl, rfl, rfl, rfl, rfl, rfl, rfl, rfl, and_t hc82 rfl⟩
                          · skip
                            refine JL.skip (.bool rfl rfl rfl hc82) rfl ?_
                            refine JL.skip (.bool rfl rfl rfl hc82) rfl ?_
                            refine JL.pick_f (b := ((y67.2 == 0) && (y68.2 == 0))) rfl hc82 .none rfl ?_
                            exact hJ81 _ ⟨rfl, rfl, rfl, rfl, rfl, rfl, rfl, rfl, rfl, rfl, rfl, rfl, rfl, rfl, rfl, and_f hc82 rfl⟩
                        · rintro f ⟨hf9, hf11, hf13, hf15, hf17, hf19, hf20, hf21, hf22, hf23, hf24, hf25, hf26, hf27, hf28, hf141⟩
                          refine (JL.norm (i := 9) hf9 (JL.norm (i := 11) hf11 (JL.norm (i := 13) hf13 (JL.norm (i := 15) hf15 (JL.norm (i := 17) hf17 (JL.norm (i := 19) hf19 (JL.norm (i := 20) hf20 (JL.norm (i := 21) hf21 (JL.norm (i := 22) hf22 (JL.norm (i := 23) hf23 (JL.norm (i := 24) hf24 (JL.norm (i := 25) hf25 (JL.norm (i := 26) hf26 (JL.norm (i := 27) hf27 (JL.norm (i := 28) hf28 (JL.norm (i := 141) hf141 ?_))))))))))))))))
                          refine JL.move .none rfl ?_
                          refine JL.cut 3 (fun f => f 9 = .int .i64 y59.1 ∧ f 11 = .int .i64 y60.1 ∧ f 13 = .int .i64 y67.1 ∧ f 15 = .int .i64 y68.1 ∧ f 17 = .int .i64 y69.1 ∧ f 19 = .int .i64 y70.1 ∧ f 21 = .pointer (some ⟨b72, 0, none⟩) ∧ f 22 = .int .i64 y71.2 ∧ f 23 = .pointer (some ⟨b74, 0, none⟩) ∧ f 24 = .int .i64 y73.2 ∧ f 25 = .pointer (some ⟨b76, 0, none⟩) ∧ f 26 = .int .i64 y75.2 ∧ f 27 = .pointer (some ⟨b78, 0, none⟩) ∧ f 28 = .int .i64 y77.2 ∧ f 145 = .bool ((((y67.2 == 0) && (y68.2 == 0)) && (y69.2 == 0)) && (y70.2 == 0))) ?_ ?_
                          · intro hJ83
                            rcases bcases (((y67.2 == 0) && (y68.2 == 0)) && (y69.2 == 0)) with hc84 | hc84
                            · skip
                              refine JL.move (.some rfl rfl rfl hc84) rfl ?_
                              refine JL.bin rfl rfl rfl (.some rfl rfl rfl hc84) rfl ?_
                              refine JL.pick_t (b := (((y67.2 == 0) && (y68.2 == 0)) && (y69.2 == 0))) rfl hc84 .none rfl ?_
                              exact hJ83 _ ⟨rfl, rfl, rfl, rfl, rfl, rfl, rfl, rfl, rfl, rfl, rfl, rfl, rfl, rfl, and_t hc84 rfl⟩
                            · skip
                              refine JL.skip (.bool rfl rfl rfl hc84) rfl ?_
                              refine JL.skip (.bool rfl rfl rfl hc84) rfl ?_
                              refine JL.pick_f (b := (((y67.2 == 0) && (y68.2 == 0)) && (y69.2 == 0))) rfl hc84 .none rfl ?_
                              exact hJ83 _ ⟨rfl, rfl, rfl, rfl, rfl, rfl, rfl, rfl, rfl, rfl, rfl, rfl, rfl, rfl, and_f hc84 rfl⟩
                          · rintro f ⟨hf9, hf11, hf13, hf15, hf17, hf19, hf21, hf22, hf23, hf24, hf25, hf26, hf27, hf28, hf145⟩
                            refine (JL.norm (i := 9) hf9 (JL.norm (i := 11) hf11 (JL.norm (i := 13) hf13 (JL.norm (i := 15) hf15 (JL.norm (i := 17) hf17 (JL.norm (i := 19) hf19 (JL.norm (i := 21) hf21 (JL.norm (i := 22) hf22 (JL.norm (i := 23) hf23 (JL.norm (i := 24) hf24 (JL.norm (i := 25) hf25 (JL.norm (i := 26) hf26 (JL.norm (i := 27) hf27 (JL.norm (i := 28) hf28 (JL.norm (i := 145) hf145 ?_)))))))))))))))
                            refine JL.move .none rfl ?_
                            refine JL.cut 3 (fun f => f 9 = .int .i64 y59.1 ∧ f 11 = .int .i64 y60.1 ∧ f 13 = .int .i64 y67.1 ∧ f 15 = .int .i64 y68.1 ∧ f 17 = .int .i64 y69.1 ∧ f 19 = .int .i64 y70.1 ∧ f 21 = .pointer (some ⟨b72, 0, none⟩) ∧ f 23 = .pointer (some ⟨b74, 0, none⟩) ∧ f 24 = .int .i64 y73.2 ∧ f 25 = .pointer (some ⟨b76, 0, none⟩) ∧ f 26 = .int .i64 y75.2 ∧ f 27 = .pointer (some ⟨b78, 0, none⟩) ∧ f 28 = .int .i64 y77.2 ∧ f 149 = .bool (((((y67.2 == 0) && (y68.2 == 0)) && (y69.2 == 0)) && (y70.2 == 0)) && (y71.2 == 0))) ?_ ?_
                            · intro hJ85
                              rcases bcases ((((y67.2 == 0) && (y68.2 == 0)) && (y69.2 == 0)) && (y70.2 == 0)) with hc86 | hc86
                              · skip
                                refine JL.move (.some rfl rfl rfl hc86) rfl ?_
                                refine JL.bin rfl rfl rfl (.some rfl rfl rfl hc86) rfl ?_
                                refine JL.pick_t (b := ((((y67.2 == 0) && (y68.2 == 0)) && (y69.2 == 0)) && (y70.2 == 0))) rfl hc86 .none rfl ?_
                                exact hJ85 _ ⟨rfl, rfl, rfl, rfl, rfl, rfl, rfl, rfl, rfl, rfl, rfl, rfl, rfl, and_t hc86 rfl⟩
                              · skip
                                refine JL.skip (.bool rfl rfl rfl hc86) rfl ?_
                                refine JL.skip (.bool rfl rfl rfl hc86) rfl ?_
                                refine JL.pick_f (b := ((((y67.2 == 0) && (y68.2 == 0)) && (y69.2 == 0)) && (y70.2 == 0))) rfl hc86 .none rfl ?_
                                exact hJ85 _ ⟨rfl, rfl, rfl, rfl, rfl, rfl, rfl, rfl, rfl, rfl, rfl, rfl, rfl, and_f hc86 rfl⟩
                            · rintro f ⟨hf9, hf11, hf13, hf15, hf17, hf19, hf21, hf23, hf24, hf25, hf26, hf27, hf28, hf149⟩
                              refine (JL.norm (i := 9) hf9 (JL.norm (i := 11) hf11 (JL.norm (i := 13) hf13 (JL.norm (i := 15) hf15 (JL.norm (i := 17) hf17 (JL.norm (i := 19) hf19 (JL.norm (i := 21) hf21 (JL.norm (i := 23) hf23 (JL.norm (i := 24) hf24 (JL.norm (i := 25) hf25 (JL.norm (i := 26) hf26 (JL.norm (i := 27) hf27 (JL.norm (i := 28) hf28 (JL.norm (i := 149) hf149 ?_))))))))))))))
                              refine JL.move .none rfl ?_
                              refine JL.cut 3 (fun f => f 9 = .int .i64 y59.1 ∧ f 11 = .int .i64 y60.1 ∧ f 13 = .int .i64 y67.1 ∧ f 15 = .int .i64 y68.1 ∧ f 17 = .int .i64 y69.1 ∧ f 19 = .int .i64 y70.1 ∧ f 21 = .pointer (some ⟨b72, 0, none⟩) ∧ f 23 = .pointer (some ⟨b74, 0, none⟩) ∧ f 25 = .pointer (some ⟨b76, 0, none⟩) ∧ f 26 = .int .i64 y75.2 ∧ f 27 = .pointer (some ⟨b78, 0, none⟩) ∧ f 28 = .int .i64 y77.2 ∧ f 153 = .bool ((((((y67.2 == 0) && (y68.2 == 0)) && (y69.2 == 0)) && (y70.2 == 0)) && (y71.2 == 0)) && (y73.2 == 0))) ?_ ?_
                              · intro hJ87
                                rcases bcases (((((y67.2 == 0) && (y68.2 == 0)) && (y69.2 == 0)) && (y70.2 == 0)) && (y71.2 == 0)) with hc88 | hc88
                                · skip
                                  refine JL.move (.some rfl rfl rfl hc88) rfl ?_
                                  refine JL.bin rfl rfl rfl (.some rfl rfl rfl hc88) rfl ?_
                                  refine JL.pick_t (b := (((((y67.2 == 0) && (y68.2 == 0)) && (y69.2 == 0)) && (y70.2 == 0)) && (y71.2 == 0))) rfl hc88 .none rfl ?_
                                  exact hJ87 _ ⟨rfl, rfl, rfl, rfl, rfl, rfl, rfl, rfl, rfl, rfl, rfl, rfl, and_t hc88 rfl⟩
                                · skip
                                  refine JL.skip (.bool rfl rfl rfl hc88) rfl ?_
                                  refine JL.skip (.bool rfl rfl rfl hc88) rfl ?_
                                  refine JL.pick_f (b := (((((y67.2 == 0) && (y68.2 == 0)) && (y69.2 == 0)) && (y70.2 == 0)) && (y71.2 == 0))) rfl hc88 .none rfl ?_
                                  exact hJ87 _ ⟨rfl, rfl, rfl, rfl, rfl, rfl, rfl, rfl, rfl, rfl, rfl, rfl, and_f hc88 rfl⟩
                              · rintro f ⟨hf9, hf11, hf13, hf15, hf17, hf19, hf21, hf23, hf25, hf26, hf27, hf28, hf153⟩
                                refine (JL.norm (i := 9) hf9 (JL.norm (i := 11) hf11 (JL.norm (i := 13) hf13 (JL.norm (i := 15) hf15 (JL.norm (i := 17) hf17 (JL.norm (i := 19) hf19 (JL.norm (i := 21) hf21 (JL.norm (i := 23) hf23 (JL.norm (i := 25) hf25 (JL.norm (i := 26) hf26 (JL.norm (i := 27) hf27 (JL.norm (i := 28) hf28 (JL.norm (i := 153) hf153 ?_)))))))))))))
                                refine JL.move .none rfl ?_
                                refine JL.cut 3 (fun f => f 9 = .int .i64 y59.1 ∧ f 11 = .int .i64 y60.1 ∧ f 13 = .int .i64 y67.1 ∧ f 15 = .int .i64 y68.1 ∧ f 17 = .int .i64 y69.1 ∧ f 19 = .int .i64 y70.1 ∧ f 21 = .pointer (some ⟨b72, 0, none⟩) ∧ f 23 = .pointer (some ⟨b74, 0, none⟩) ∧ f 25 = .pointer (some ⟨b76, 0, none⟩) ∧ f 27 = .pointer (some ⟨b78, 0, none⟩) ∧ f 28 = .int .i64 y77.2 ∧ f 157 = .bool (((((((y67.2 == 0) && (y68.2 == 0)) && (y69.2 == 0)) && (y70.2 == 0)) && (y71.2 == 0)) && (y73.2 == 0)) && (y75.2 == 0))) ?_ ?_
                                · intro hJ89
                                  rcases bcases ((((((y67.2 == 0) && (y68.2 == 0)) && (y69.2 == 0)) && (y70.2 == 0)) && (y71.2 == 0)) && (y73.2 == 0)) with hc90 | hc90
                                  · skip
                                    refine JL.move (.some rfl rfl rfl hc90) rfl ?_
                                    refine JL.bin rfl rfl rfl (.some rfl rfl rfl hc90) rfl ?_
                                    refine JL.pick_t (b := ((((((y67.2 == 0) && (y68.2 == 0)) && (y69.2 == 0)) && (y70.2 == 0)) && (y71.2 == 0)) && (y73.2 == 0))) rfl hc90 .none rfl ?_
                                    exact hJ89 _ ⟨rfl, rfl, rfl, rfl, rfl, rfl, rfl, rfl, rfl, rfl, rfl, and_t hc90 rfl⟩
                                  · skip
                                    refine JL.skip (.bool rfl rfl rfl hc90) rfl ?_
                                    refine JL.skip (.bool rfl rfl rfl hc90) rfl ?_
                                    refine JL.pick_f (b := ((((((y67.2 == 0) && (y68.2 == 0)) && (y69.2 == 0)) && (y70.2 == 0)) && (y71.2 == 0)) && (y73.2 == 0))) rfl hc90 .none rfl ?_
                                    exact hJ89 _ ⟨rfl, rfl, rfl, rfl, rfl, rfl, rfl, rfl, rfl, rfl, rfl, and_f hc90 rfl⟩
                                · rintro f ⟨hf9, hf11, hf13, hf15, hf17, hf19, hf21, hf23, hf25, hf27, hf28, hf157⟩
                                  refine (JL.norm (i := 9) hf9 (JL.norm (i := 11) hf11 (JL.norm (i := 13) hf13 (JL.norm (i := 15) hf15 (JL.norm (i := 17) hf17 (JL.norm (i := 19) hf19 (JL.norm (i := 21) hf21 (JL.norm (i := 23) hf23 (JL.norm (i := 25) hf25 (JL.norm (i := 27) hf27 (JL.norm (i := 28) hf28 (JL.norm (i := 157) hf157 ?_))))))))))))
                                  refine JL.move .none rfl ?_
                                  refine JL.cut 3 (fun f => f 9 = .int .i64 y59.1 ∧ f 11 = .int .i64 y60.1 ∧ f 13 = .int .i64 y67.1 ∧ f 15 = .int .i64 y68.1 ∧ f 17 = .int .i64 y69.1 ∧ f 19 = .int .i64 y70.1 ∧ f 21 = .pointer (some ⟨b72, 0, none⟩) ∧ f 23 = .pointer (some ⟨b74, 0, none⟩) ∧ f 25 = .pointer (some ⟨b76, 0, none⟩) ∧ f 27 = .pointer (some ⟨b78, 0, none⟩) ∧ f 161 = .bool ((((((((y67.2 == 0) && (y68.2 == 0)) && (y69.2 == 0)) && (y70.2 == 0)) && (y71.2 == 0)) && (y73.2 == 0)) && (y75.2 == 0)) && (y77.2 == 0))) ?_ ?_
                                  · intro hJ91
                                    rcases bcases (((((((y67.2 == 0) && (y68.2 == 0)) && (y69.2 == 0)) && (y70.2 == 0)) && (y71.2 == 0)) && (y73.2 == 0)) && (y75.2 == 0)) with hc92 | hc92
                                    · skip
                                      refine JL.move (.some rfl rfl rfl hc92) rfl ?_
                                      refine JL.bin rfl rfl rfl (.some rfl rfl rfl hc92) rfl ?_
                                      refine JL.pick_t (b := (((((((y67.2 == 0) && (y68.2 == 0)) && (y69.2 == 0)) && (y70.2 == 0)) && (y71.2 == 0)) && (y73.2 == 0)) && (y75.2 == 0))) rfl hc92 .none rfl ?_
                                      exact hJ91 _ ⟨rfl, rfl, rfl, rfl, rfl, rfl, rfl, rfl, rfl, rfl, and_t hc92 rfl⟩
                                    · skip
                                      refine JL.skip (.bool rfl rfl rfl hc92) rfl ?_
                                      refine JL.skip (.bool rfl rfl rfl hc92) rfl ?_
                                      refine JL.pick_f (b := (((((((y67.2 == 0) && (y68.2 == 0)) && (y69.2 == 0)) && (y70.2 == 0)) && (y71.2 == 0)) && (y73.2 == 0)) && (y75.2 == 0))) rfl hc92 .none rfl ?_
                                      exact hJ91 _ ⟨rfl, rfl, rfl, rfl, rfl, rfl, rfl, rfl, rfl, rfl, and_f hc92 rfl⟩
                                  · rintro f ⟨hf9, hf11, hf13, hf15, hf17, hf19, hf21, hf23, hf25, hf27, hf161⟩
                                    refine (JL.norm (i := 9) hf9 (JL.norm (i := 11) hf11 (JL.norm (i := 13) hf13 (JL.norm (i := 15) hf15 (JL.norm (i := 17) hf17 (JL.norm (i := 19) hf19 (JL.norm (i := 21) hf21 (JL.norm (i := 23) hf23 (JL.norm (i := 25) hf25 (JL.norm (i := 27) hf27 (JL.norm (i := 161) hf161 ?_)))))))))))
                                    refine JL.move .none rfl ?_
                                    refine JL.cut 4 (fun f => f 9 = .int .i64 y59.1 ∧ f 11 = .int .i64 y60.1 ∧ f 15 = .int .i64 y68.1 ∧ f 17 = .int .i64 y69.1 ∧ f 19 = .int .i64 y70.1 ∧ f 21 = .pointer (some ⟨b72, 0, none⟩) ∧ f 23 = .pointer (some ⟨b74, 0, none⟩) ∧ f 25 = .pointer (some ⟨b76, 0, none⟩) ∧ f 27 = .pointer (some ⟨b78, 0, none⟩) ∧ f 166 = .bool (((((((((y67.2 == 0) && (y68.2 == 0)) && (y69.2 == 0)) && (y70.2 == 0)) && (y71.2 == 0)) && (y73.2 == 0)) && (y75.2 == 0)) && (y77.2 == 0)) && (decide (y59.1 ≤ y67.1)))) ?_ ?_
                                    · intro hJ93
                                      rcases bcases ((((((((y67.2 == 0) && (y68.2 == 0)) && (y69.2 == 0)) && (y70.2 == 0)) && (y71.2 == 0)) && (y73.2 == 0)) && (y75.2 == 0)) && (y77.2 == 0)) with hc94 | hc94
                                      · skip
                                        refine JL.move (.some rfl rfl rfl hc94) rfl ?_
                                        refine JL.move (.some rfl rfl rfl hc94) rfl ?_
                                        refine JL.bin rfl rfl rfl (.some rfl rfl rfl hc94) rfl ?_
                                        refine JL.pick_t (b := ((((((((y67.2 == 0) && (y68.2 == 0)) && (y69.2 == 0)) && (y70.2 == 0)) && (y71.2 == 0)) && (y73.2 == 0)) && (y75.2 == 0)) && (y77.2 == 0))) rfl hc94 .none rfl ?_
                                        exact hJ93 _ ⟨rfl, rfl, rfl, rfl, rfl, rfl, rfl, rfl, rfl, and_t hc94 rfl⟩
                                      · skip
                                        refine JL.skip (.bool rfl rfl rfl hc94) rfl ?_
                                        refine JL.skip (.bool rfl rfl rfl hc94) rfl ?_
                                        refine JL.skip (.bool rfl rfl rfl hc94) rfl ?_
                                        refine JL.pick_f (b := ((((((((y67.2 == 0) && (y68.2 == 0)) && (y69.2 == 0)) && (y70.2 == 0)) && (y71.2 == 0)) && (y73.2 == 0)) && (y75.2 == 0)) && (y77.2 == 0))) rfl hc94 .none rfl ?_
                                        exact hJ93 _ ⟨rfl, rfl, rfl, rfl, rfl, rfl, rfl, rfl, rfl, and_f hc94 rfl⟩
                                    · rintro f ⟨hf9, hf11, hf15, hf17, hf19, hf21, hf23, hf25, hf27, hf166⟩
                                      refine (JL.norm (i := 9) hf9 (JL.norm (i := 11) hf11 (JL.norm (i := 15) hf15 (JL.norm (i := 17) hf17 (JL.norm (i := 19) hf19 (JL.norm (i := 21) hf21 (JL.norm (i := 23) hf23 (JL.norm (i := 25) hf25 (JL.norm (i := 27) hf27 (JL.norm (i := 166) hf166 ?_))))))))))
                                      refine JL.move .none rfl ?_
                                      refine JL.cut 4 (fun f => f 9 = .int .i64 y59.1 ∧ f 11 = .int .i64 y60.1 ∧ f 17 = .int .i64 y69.1 ∧ f 19 = .int .i64 y70.1 ∧ f 21 = .pointer (some ⟨b72, 0, none⟩) ∧ f 23 = .pointer (some ⟨b74, 0, none⟩) ∧ f 25 = .pointer (some ⟨b76, 0, none⟩) ∧ f 27 = .pointer (some ⟨b78, 0, none⟩) ∧ f 171 = .bool ((((((((((y67.2 == 0) && (y68.2 == 0)) && (y69.2 == 0)) && (y70.2 == 0)) && (y71.2 == 0)) && (y73.2 == 0)) && (y75.2 == 0)) && (y77.2 == 0)) && (decide (y59.1 ≤ y67.1))) && (decide (y60.1 ≤ y68.1)))) ?_ ?_
                                      · intro hJ95
                                        rcases bcases (((((((((y67.2 == 0) && (y68.2 == 0)) && (y69.2 == 0)) && (y70.2 == 0)) && (y71.2 == 0)) && (y73.2 == 0)) && (y75.2 == 0)) && (y77.2 == 0)) && (decide (y59.1 ≤ y67.1))) with hc96 | hc96
                                        · skip
                                          refine JL.move (.some rfl rfl rfl hc96) rfl ?_
                                          refine JL.move (.some rfl rfl rfl hc96) rfl ?_
                                          refine JL.bin rfl rfl rfl (.some rfl rfl rfl hc96) rfl ?_
                                          refine JL.pick_t (b := (((((((((y67.2 == 0) && (y68.2 == 0)) && (y69.2 == 0)) && (y70.2 == 0)) && (y71.2 == 0)) && (y73.2 == 0)) && (y75.2 == 0)) && (y77.2 == 0)) && (decide (y59.1 ≤ y67.1)))) rfl hc96 .none rfl ?_
                                          exact hJ95 _ ⟨rfl, rfl, rfl, rfl, rfl, rfl, rfl, rfl, and_t hc96 rfl⟩
                                        · skip
                                          refine JL.skip (.bool rfl rfl rfl hc96) rfl ?_
                                          refine JL.skip (.bool rfl rfl rfl hc96) rfl ?_
                                          refine JL.skip (.bool rfl rfl rfl hc96) rfl ?_
                                          refine JL.pick_f (b := (((((((((y67.2 == 0) && (y68.2 == 0)) && (y69.2 == 0)) && (y70.2 == 0)) && (y71.2 == 0)) && (y73.2 == 0)) && (y75.2 == 0)) && (y77.2 == 0)) && (decide (y59.1 ≤ y67.1)))) rfl hc96 .none rfl ?_
                                          exact hJ95 _ ⟨rfl, rfl, rfl, rfl, rfl, rfl, rfl, rfl, and_f hc96 rfl⟩
                                      · rintro f ⟨hf9, hf11, hf17, hf19, hf21, hf23, hf25, hf27, hf171⟩
                                        refine (JL.norm (i := 9) hf9 (JL.norm (i := 11) hf11 (JL.norm (i := 17) hf17 (JL.norm (i := 19) hf19 (JL.norm (i := 21) hf21 (JL.norm (i := 23) hf23 (JL.norm (i := 25) hf25 (JL.norm (i := 27) hf27 (JL.norm (i := 171) hf171 ?_)))))))))
                                        refine JL.move .none rfl ?_
                                        refine JL.cut 4 (fun f => f 11 = .int .i64 y60.1 ∧ f 19 = .int .i64 y70.1 ∧ f 21 = .pointer (some ⟨b72, 0, none⟩) ∧ f 23 = .pointer (some ⟨b74, 0, none⟩) ∧ f 25 = .pointer (some ⟨b76, 0, none⟩) ∧ f 27 = .pointer (some ⟨b78, 0, none⟩) ∧ f 176 = .bool (((((((((((y67.2 == 0) && (y68.2 == 0)) && (y69.2 == 0)) && (y70.2 == 0)) && (y71.2 == 0)) && (y73.2 == 0)) && (y75.2 == 0)) && (y77.2 == 0)) && (decide (y59.1 ≤ y67.1))) && (decide (y60.1 ≤ y68.1))) && (decide (y59.1 ≤ y69.1)))) ?_ ?_
                                        · intro hJ97
                                          rcases bcases ((((((((((y67.2 == 0) && (y68.2 == 0)) && (y69.2 == 0)) && (y70.2 == 0)) && (y71.2 == 0)) && (y73.2 == 0)) && (y75.2 == 0)) && (y77.2 == 0)) && (decide (y59.1 ≤ y67.1))) && (decide (y60.1 ≤ y68.1))) with hc98 | hc98
                                          · skip
                                            refine JL.move (.some rfl rfl rfl hc98) rfl ?_
                                            refine JL.move (.some rfl rfl rfl hc98) rfl ?_
                                            refine JL.bin rfl rfl rfl (.some rfl rfl rfl hc98) rfl ?_
                                            refine JL.pick_t (b := ((((((((((y67.2 == 0) && (y68.2 == 0)) && (y69.2 == 0)) && (y70.2 == 0)) && (y71.2 == 0)) && (y73.2 == 0)) && (y75.2 == 0)) && (y77.2 == 0)) && (decide (y59.1 ≤ y67.1))) && (decide (y60.1 ≤ y68.1)))) rfl hc98 .none rfl ?_
                                            exact hJ97 _ ⟨rfl, rfl, rfl, rfl, rfl, rfl, and_t hc98 rfl⟩
                                          · skip
                                            refine JL.skip (.bool rfl rfl rfl hc98) rfl ?_
                                            refine JL.skip (.bool rfl rfl rfl hc98) rfl ?_
                                            refine JL.skip (.bool rfl rfl rfl hc98) rfl ?_
                                            refine JL.pick_f (b := ((((((((((y67.2 == 0) && (y68.2 == 0)) && (y69.2 == 0)) && (y70.2 == 0)) && (y71.2 == 0)) && (y73.2 == 0)) && (y75.2 == 0)) && (y77.2 == 0)) && (decide (y59.1 ≤ y67.1))) && (decide (y60.1 ≤ y68.1)))) rfl hc98 .none rfl ?_
                                            exact hJ97 _ ⟨rfl, rfl, rfl, rfl, rfl, rfl, and_f hc98 rfl⟩
                                        · rintro f ⟨hf11, hf19, hf21, hf23, hf25, hf27, hf176⟩
                                          refine (JL.norm (i := 11) hf11 (JL.norm (i := 19) hf19 (JL.norm (i := 21) hf21 (JL.norm (i := 23) hf23 (JL.norm (i := 25) hf25 (JL.norm (i := 27) hf27 (JL.norm (i := 176) hf176 ?_)))))))
                                          refine JL.move .none rfl ?_
                                          refine JL.cut 4 (fun f => f 21 = .pointer (some ⟨b72, 0, none⟩) ∧ f 23 = .pointer (some ⟨b74, 0, none⟩) ∧ f 25 = .pointer (some ⟨b76, 0, none⟩) ∧ f 27 = .pointer (some ⟨b78, 0, none⟩) ∧ f 181 = .bool ((((((((((((y67.2 == 0) && (y68.2 == 0)) && (y69.2 == 0)) && (y70.2 == 0)) && (y71.2 == 0)) && (y73.2 == 0)) && (y75.2 == 0)) && (y77.2 == 0)) && (decide (y59.1 ≤ y67.1))) && (decide (y60.1 ≤ y68.1))) && (decide (y59.1 ≤ y69.1))) && (decide (y60.1 ≤ y70.1)))) ?_ ?_
                                          · intro hJ99
                                            rcases bcases (((((((((((y67.2 == 0) && (y68.2 == 0)) && (y69.2 == 0)) && (y70.2 == 0)) && (y71.2 == 0)) && (y73.2 == 0)) && (y75.2 == 0)) && (y77.2 == 0)) && (decide (y59.1 ≤ y67.1))) && (decide (y60.1 ≤ y68.1))) && (decide (y59.1 ≤ y69.1))) with hc100 | hc100
                                            · skip
                                              refine JL.move (.some rfl rfl rfl hc100) rfl ?_
                                              refine JL.move (.some rfl rfl rfl hc100) rfl ?_
                                              refine JL.bin rfl rfl rfl (.some rfl rfl rfl hc100) rfl ?_
                                              refine JL.pick_t (b := (((((((((((y67.2 == 0) && (y68.2 == 0)) && (y69.2 == 0)) && (y70.2 == 0)) && (y71.2 == 0)) && (y73.2 == 0)) && (y75.2 == 0)) && (y77.2 == 0)) && (decide (y59.1 ≤ y67.1))) && (decide (y60.1 ≤ y68.1))) && (decide (y59.1 ≤ y69.1)))) rfl hc100 .none rfl ?_
                                              exact hJ99 _ ⟨rfl, rfl, rfl, rfl, and_t hc100 rfl⟩
                                            · skip
                                              refine JL.skip (.bool rfl rfl rfl hc100) rfl ?_
                                              refine JL.skip (.bool rfl rfl rfl hc100) rfl ?_
                                              refine JL.skip (.bool rfl rfl rfl hc100) rfl ?_
                                              refine JL.pick_f (b := (((((((((((y67.2 == 0) && (y68.2 == 0)) && (y69.2 == 0)) && (y70.2 == 0)) && (y71.2 == 0)) && (y73.2 == 0)) && (y75.2 == 0)) && (y77.2 == 0)) && (decide (y59.1 ≤ y67.1))) && (decide (y60.1 ≤ y68.1))) && (decide (y59.1 ≤ y69.1)))) rfl hc100 .none rfl ?_
                                              exact hJ99 _ ⟨rfl, rfl, rfl, rfl, and_f hc100 rfl⟩
                                          · rintro f ⟨hf21, hf23, hf25, hf27, hf181⟩
                                            refine (JL.norm (i := 21) hf21 (JL.norm (i := 23) hf23 (JL.norm (i := 25) hf25 (JL.norm (i := 27) hf27 (JL.norm (i := 181) hf181 ?_)))))
                                            refine JL.move .none rfl ?_
                                            refine JL.cut 6 (fun f => f 21 = .pointer (some ⟨b72, 0, none⟩) ∧ f 23 = .pointer (some ⟨b74, 0, none⟩) ∧ f 25 = .pointer (some ⟨b76, 0, none⟩) ∧ f 27 = .pointer (some ⟨b78, 0, none⟩) ∧ f 188 = .bool (((((((((((((y67.2 == 0) && (y68.2 == 0)) && (y69.2 == 0)) && (y70.2 == 0)) && (y71.2 == 0)) && (y73.2 == 0)) && (y75.2 == 0)) && (y77.2 == 0)) && (decide (y59.1 ≤ y67.1))) && (decide (y60.1 ≤ y68.1))) && (decide (y59.1 ≤ y69.1))) && (decide (y60.1 ≤ y70.1))) && (decide (y71.1.Low ≤ y73.1.Low)))) ?_ ?_
                                            · intro hJ101
                                              rcases bcases ((((((((((((y67.2 == 0) && (y68.2 == 0)) && (y69.2 == 0)) && (y70.2 == 0)) && (y71.2 == 0)) && (y73.2 == 0)) && (y75.2 == 0)) && (y77.2 == 0)) && (decide (y59.1 ≤ y67.1))) && (decide (y60.1 ≤ y68.1))) && (decide (y59.1 ≤ y69.1))) && (decide (y60.1 ≤ y70.1))) with hc102 | hc102
                                              · skip
                                                refine JL.fieldAddr fo_31_0 rfl (.some rfl rfl rfl hc102) rfl ?_
                                                refine JL.loadOwn 2 az_3 rfl rfl rfl (.some rfl rfl rfl hc102) rfl ?_
                                                refine JL.fieldAddr fo_31_0 rfl (.some rfl rfl rfl hc102) rfl ?_
                                                refine JL.loadOwn 3 az_3 rfl rfl rfl (.some rfl rfl rfl hc102) rfl ?_
                                                refine JL.bin rfl rfl rfl (.some rfl rfl rfl hc102) rfl ?_
                                                refine JL.pick_t (b := ((((((((((((y67.2 == 0) && (y68.2 == 0)) && (y69.2 == 0)) && (y70.2 == 0)) && (y71.2 == 0)) && (y73.2 == 0)) && (y75.2 == 0)) && (y77.2 == 0)) && (decide (y59.1 ≤ y67.1))) && (decide (y60.1 ≤ y68.1))) && (decide (y59.1 ≤ y69.1))) && (decide (y60.1 ≤ y70.1)))) rfl hc102 .none rfl ?_
                                                exact hJ101 _ ⟨rfl, rfl, rfl, rfl, and_t hc102 rfl⟩
                                              · skip
                                                refine JL.skip (.bool rfl rfl rfl hc102) rfl ?_
                                                refine JL.skip (.bool rfl rfl rfl hc102) rfl ?_
                                                refine JL.skip (.bool rfl rfl rfl hc102) rfl ?_
                                                refine JL.skip (.bool rfl rfl rfl hc102) rfl ?_
                                                refine JL.skip (.bool rfl rfl rfl hc102) rfl ?_
                                                refine JL.pick_f (b := ((((((((((((y67.2 == 0) && (y68.2 == 0)) && (y69.2 == 0)) && (y70.2 == 0)) && (y71.2 == 0)) && (y73.2 == 0)) && (y75.2 == 0)) && (y77.2 == 0)) && (decide (y59.1 ≤ y67.1))) && (decide (y60.1 ≤ y68.1))) && (decide (y59.1 ≤ y69.1))) && (decide (y60.1 ≤ y70.1)))) rfl hc102 .none rfl ?_
                                                exact hJ101 _ ⟨rfl, rfl, rfl, rfl, and_f hc102 rfl⟩
                                            · rintro f ⟨hf21, hf23, hf25, hf27, hf188⟩
                                              refine (JL.norm (i := 21) hf21 (JL.norm (i := 23) hf23 (JL.norm (i := 25) hf25 (JL.norm (i := 27) hf27 (JL.norm (i := 188) hf188 ?_)))))
                                              refine JL.move .none rfl ?_
                                              refine JL.cut 6 (fun f => f 25 = .pointer (some ⟨b76, 0, none⟩) ∧ f 27 = .pointer (some ⟨b78, 0, none⟩) ∧ f 195 = .bool ((((((((((((((y67.2 == 0) && (y68.2 == 0)) && (y69.2 == 0)) && (y70.2 == 0)) && (y71.2 == 0)) && (y73.2 == 0)) && (y75.2 == 0)) && (y77.2 == 0)) && (decide (y59.1 ≤ y67.1))) && (decide (y60.1 ≤ y68.1))) && (decide (y59.1 ≤ y69.1))) && (decide (y60.1 ≤ y70.1))) && (decide (y71.1.Low ≤ y73.1.Low))) && (decide (y71.1.High ≤ y73.1.High)))) ?_ ?_
                                              · intro hJ103
                                                rcases bcases (((((((((((((y67.2 == 0) && (y68.2 == 0)) && (y69.2 == 0)) && (y70.2 == 0)) && (y71.2 == 0)) && (y73.2 == 0)) && (y75.2 == 0)) && (y77.2 == 0)) && (decide (y59.1 ≤ y67.1))) && (decide (y60.1 ≤ y68.1))) && (decide (y59.1 ≤ y69.1))) && (decide (y60.1 ≤ y70.1))) && (decide (y71.1.Low ≤ y73.1.Low))) with hc104 | hc104
                                                · skip
                                                  refine JL.fieldAddr fo_31_1 rfl (.some rfl rfl rfl hc104) rfl ?_
                                                  refine JL.loadOwn 2 az_3 rfl rfl rfl (.some rfl rfl rfl hc104) rfl ?_
                                                  refine JL.fieldAddr fo_31_1 rfl (.some rfl rfl rfl hc104) rfl ?_
                                                  refine JL.loadOwn 3 az_3 rfl rfl rfl (.some rfl rfl rfl hc104) rfl ?_
                                                  refine JL.bin rfl rfl rfl (.some rfl rfl rfl hc104) rfl ?_
                                                  refine JL.pick_t (b := (((((((((((((y67.2 == 0) && (y68.2 == 0)) && (y69.2 == 0)) && (y70.2 == 0)) && (y71.2 == 0)) && (y73.2 == 0)) && (y75.2 == 0)) && (y77.2 == 0)) && (decide (y59.1 ≤ y67.1))) && (decide (y60.1 ≤ y68.1))) && (decide (y59.1 ≤ y69.1))) && (decide (y60.1 ≤ y70.1))) && (decide (y71.1.Low ≤ y73.1.Low)))) rfl hc104 .none rfl ?_
                                                  exact hJ103 _ ⟨rfl, rfl, and_t hc104 rfl⟩
                                                · skip
                                                  refine JL.skip (.bool rfl rfl rfl hc104) rfl ?_
                                                  refine JL.skip (.bool rfl rfl rfl hc104) rfl ?_
                                                  refine JL.skip (.bool rfl rfl rfl hc104) rfl ?_
                                                  refine JL.skip (.bool rfl rfl rfl hc104) rfl ?_
                                                  refine JL.skip (.bool rfl rfl rfl hc104) rfl ?_
                                                  refine JL.pick_f (b := (((((((((((((y67.2 == 0) && (y68.2 == 0)) && (y69.2 == 0)) && (y70.2 == 0)) && (y71.2 == 0)) && (y73.2 == 0)) && (y75.2 == 0)) && (y77.2 == 0)) && (decide (y59.1 ≤ y67.1))) && (decide (y60.1 ≤ y68.1))) && (decide (y59.1 ≤ y69.1))) && (decide (y60.1 ≤ y70.1))) && (decide (y71.1.Low ≤ y73.1.Low)))) rfl hc104 .none rfl ?_
                                                  exact hJ103 _ ⟨rfl, rfl, and_f hc104 rfl⟩
                                              · rintro f ⟨hf25, hf27, hf195⟩
                                                refine (JL.norm (i := 25) hf25 (JL.norm (i := 27) hf27 (JL.norm (i := 195) hf195 ?_)))
                                                refine JL.move .none rfl ?_
                                                refine JL.cut 6 (fun f => f 25 = .pointer (some ⟨b76, 0, none⟩) ∧ f 27 = .pointer (some ⟨b78, 0, none⟩) ∧ f 202 = .bool (((((((((((((((y67.2 == 0) && (y68.2 == 0)) && (y69.2 == 0)) && (y70.2 == 0)) && (y71.2 == 0)) && (y73.2 == 0)) && (y75.2 == 0)) && (y77.2 == 0)) && (decide (y59.1 ≤ y67.1))) && (decide (y60.1 ≤ y68.1))) && (decide (y59.1 ≤ y69.1))) && (decide (y60.1 ≤ y70.1))) && (decide (y71.1.Low ≤ y73.1.Low))) && (decide (y71.1.High ≤ y73.1.High))) && (decide (y75.1.Low ≤ y77.1.Low)))) ?_ ?_
                                                · intro hJ105
                                                  rcases bcases ((((((((((((((y67.2 == 0) && (y68.2 == 0)) && (y69.2 == 0)) && (y70.2 == 0)) && (y71.2 == 0)) && (y73.2 == 0)) && (y75.2 == 0)) && (y77.2 == 0)) && (decide (y59.1 ≤ y67.1))) && (decide (y60.1 ≤ y68.1))) && (decide (y59.1 ≤ y69.1))) && (decide (y60.1 ≤ y70.1))) && (decide (y71.1.Low ≤ y73.1.Low))) && (decide (y71.1.High ≤ y73.1.High))) with hc106 | hc106
                                                  · skip
                                                    refine JL.fieldAddr fo_31_0 rfl (.some rfl rfl rfl hc106) rfl ?_
                                                    refine JL.loadOwn 0 az_3 rfl rfl rfl (.some rfl rfl rfl hc106) rfl ?_
                                                    refine JL.fieldAddr fo_31_0 rfl (.some rfl rfl rfl hc106) rfl ?_
                                                    refine JL.loadOwn 1 az_3 rfl rfl rfl (.some rfl rfl rfl hc106) rfl ?_
                                                    refine JL.bin rfl rfl rfl (.some rfl rfl rfl hc106) rfl ?_
                                                    refine JL.pick_t (b := ((((((((((((((y67.2 == 0) && (y68.2 == 0)) && (y69.2 == 0)) && (y70.2 == 0)) && (y71.2 == 0)) && (y73.2 == 0)) && (y75.2 == 0)) && (y77.2 == 0)) && (decide (y59.1 ≤ y67.1))) && (decide (y60.1 ≤ y68.1))) && (decide (y59.1 ≤ y69.1))) && (decide (y60.1 ≤ y70.1))) && (decide (y71.1.Low ≤ y73.1.Low))) && (decide (y71.1.High ≤ y73.1.High)))) rfl hc106 .none rfl ?_
                                                    exact hJ105 _ ⟨rfl, rfl, and_t hc106 rfl⟩
                                                  · skip
                                                    refine JL.skip (.bool rfl rfl rfl hc106) rfl ?_
                                                    refine JL.skip (.bool rfl rfl rfl hc106) rfl ?_
                                                    refine JL.skip (.bool rfl rfl rfl hc106) rfl ?_
                                                    refine JL.skip (.bool rfl rfl rfl hc106) rfl ?_
                                                    refine JL.skip (.bool rfl rfl rfl hc106) rfl ?_
                                                    refine JL.pick_f (b := ((((((((((((((y67.2 == 0) && (y68.2 == 0)) && (y69.2 == 0)) && (y70.2 == 0)) && (y71.2 == 0)) && (y73.2 == 0)) && (y75.2 == 0)) && (y77.2 == 0)) && (decide (y59.1 ≤ y67.1))) && (decide (y60.1 ≤ y68.1))) && (decide (y59.1 ≤ y69.1))) && (decide (y60.1 ≤ y70.1))) && (decide (y71.1.Low ≤ y73.1.Low))) && (decide (y71.1.High ≤ y73.1.High)))) rfl hc106 .none rfl ?_
                                                    exact hJ105 _ ⟨rfl, rfl, and_f hc106 rfl⟩
                                                · rintro f ⟨hf25, hf27, hf202⟩
                                                  refine (JL.norm (i := 25) hf25 (JL.norm (i := 27) hf27 (JL.norm (i := 202) hf202 ?_)))
                                                  refine JL.move .none rfl ?_
                                                  refine JL.cut 6 (fun f => f 209 = .bool ((((((((((((((((y67.2 == 0) && (y68.2 == 0)) && (y69.2 == 0)) && (y70.2 == 0)) && (y71.2 == 0)) && (y73.2 == 0)) && (y75.2 == 0)) && (y77.2 == 0)) && (decide (y59.1 ≤ y67.1))) && (decide (y60.1 ≤ y68.1))) && (decide (y59.1 ≤ y69.1))) && (decide (y60.1 ≤ y70.1))) && (decide (y71.1.Low ≤ y73.1.Low))) && (decide (y71.1.High ≤ y73.1.High))) && (decide (y75.1.Low ≤ y77.1.Low))) && (decide (y75.1.High ≤ y77.1.High)))) ?_ ?_
                                                  · intro hJ107
                                                    rcases bcases (((((((((((((((y67.2 == 0) && (y68.2 == 0)) && (y69.2 == 0)) && (y70.2 == 0)) && (y71.2 == 0)) && (y73.2 == 0)) && (y75.2 == 0)) && (y77.2 == 0)) && (decide (y59.1 ≤ y67.1))) && (decide (y60.1 ≤ y68.1))) && (decide (y59.1 ≤ y69.1))) && (decide (y60.1 ≤ y70.1))) && (decide (y71.1.Low ≤ y73.1.Low))) && (decide (y71.1.High ≤ y73.1.High))) && (decide (y75.1.Low ≤ y77.1.Low))) with hc108 | hc108
                                                    · skip
                                                      refine JL.fieldAddr fo_31_1 rfl (.some rfl rfl rfl hc108) rfl ?_
                                                      refine JL.loadOwn 0 az_3 rfl rfl rfl (.some rfl rfl rfl hc108) rfl ?_
                                                      refine JL.fieldAddr fo_31_1 rfl (.some rfl rfl rfl hc108) rfl ?_
                                                      refine JL.loadOwn 1 az_3 rfl rfl rfl (.some rfl rfl rfl hc108) rfl ?_
                                                      refine JL.bin rfl rfl rfl (.some rfl rfl rfl hc108) rfl ?_
                                                      refine JL.pick_t (b := (((((((((((((((y67.2 == 0) && (y68.2 == 0)) && (y69.2 == 0)) && (y70.2 == 0)) && (y71.2 == 0)) && (y73.2 == 0)) && (y75.2 == 0)) && (y77.2 == 0)) && (decide (y59.1 ≤ y67.1))) && (decide (y60.1 ≤ y68.1))) && (decide (y59.1 ≤ y69.1))) && (decide (y60.1 ≤ y70.1))) && (decide (y71.1.Low ≤ y73.1.Low))) && (decide (y71.1.High ≤ y73.1.High))) && (decide (y75.1.Low ≤ y77.1.Low)))) rfl hc108 .none rfl ?_
                                                      exact hJ107 _ (and_t hc108 rfl)
                                                    · skip
                                                      refine JL.skip (.bool rfl rfl rfl hc108) rfl ?_
                                                      refine JL.skip (.bool rfl rfl rfl hc108) rfl ?_
                                                      refine JL.skip (.bool rfl rfl rfl hc108) rfl ?_
                                                      refine JL.skip (.bool rfl rfl rfl hc108) rfl ?_
                                                      refine JL.skip (.bool rfl rfl rfl hc108) rfl ?_
                                                      refine JL.pick_f (b := (((((((((((((((y67.2 == 0) && (y68.2 == 0)) && (y69.2 == 0)) && (y70.2 == 0)) && (y71.2 == 0)) && (y73.2 == 0)) && (y75.2 == 0)) && (y77.2 == 0)) && (decide (y59.1 ≤ y67.1))) && (decide (y60.1 ≤ y68.1))) && (decide (y59.1 ≤ y69.1))) && (decide (y60.1 ≤ y70.1))) && (decide (y71.1.Low ≤ y73.1.Low))) && (decide (y71.1.High ≤ y73.1.High))) && (decide (y75.1.Low ≤ y77.1.Low)))) rfl hc108 .none rfl ?_
                                                      exact hJ107 _ (and_f hc108 rfl)
                                                  · rintro f hf209
                                                    refine (JL.norm (i := 209) hf209 ?_)
                                                    refine JL.move .none rfl ?_
                                                    obtain ⟨p110, hp110, hF⟩ := bind_some hF
                                                    refine JL.cut 2 (fun f => f 212 = .bool p110) ?_ ?_
                                                    · intro hJ111
                                                      rcases ite_some hp110 with ⟨hc112, hF⟩ | ⟨hc112, hF⟩
                                                      · skip
                                                        obtain ⟨y113, hy113, hF⟩ := bind_some hF
                                                        refine JL.callS (c_law11_works n H58 y113 hy113) rfl en_13 (.some rfl rfl rfl hc112) rfl ?_
                                                        refine JL.pick_t (b := ((((((((((((((((y67.2 == 0) && (y68.2 == 0)) && (y69.2 == 0)) && (y70.2 == 0)) && (y71.2 == 0)) && (y73.2 == 0)) && (y75.2 == 0)) && (y77.2 == 0)) && (decide (y59.1 ≤ y67.1))) && (decide (y60.1 ≤ y68.1))) && (decide (y59.1 ≤ y69.1))) && (decide (y60.1 ≤ y70.1))) && (decide (y71.1.Low ≤ y73.1.Low))) && (decide (y71.1.High ≤ y73.1.High))) && (decide (y75.1.Low ≤ y77.1.Low))) && (decide (y75.1.High ≤ y77.1.High)))) rfl hc112 .none rfl ?_
                                                        obtain rfl := Option.some.inj hF
                                                        exact hJ111 _ (rfl)
                                                      · skip
                                                        refine JL.skip (.bool rfl rfl rfl hc112) rfl ?_
                                                        refine JL.pick_f (b := ((((((((((((((((y67.2 == 0) && (y68.2 == 0)) && (y69.2 == 0)) && (y70.2 == 0)) && (y71.2 == 0)) && (y73.2 == 0)) && (y75.2 == 0)) && (y77.2 == 0)) && (decide (y59.1 ≤ y67.1))) && (decide (y60.1 ≤ y68.1))) && (decide (y59.1 ≤ y69.1))) && (decide (y60.1 ≤ y70.1))) && (decide (y71.1.Low ≤ y73.1.Low))) && (decide (y71.1.High ≤ y73.1.High))) && (decide (y75.1.Low ≤ y77.1.Low))) && (decide (y75.1.High ≤ y77.1.High)))) rfl hc112 .none rfl ?_
                                                        obtain rfl := Option.some.inj hF
                                                        exact hJ111 _ (rfl)
                                                    · rintro f hf212
                                                      refine (JL.norm (i := 212) hf212 ?_)
                                                      refine JL.assign .none rfl ?_
                                                      refine JL.done hQ ?_
                                                      refine JQ.go ?_
                                                      refine JC.ret ?_
                                                      obtain rfl := Option.some.inj hF
                                                      exact JQ.outS rfl (.tmp .nil) rfl
              intro nd57_0
              refine JA.cut 3 #[true, true, true, true, true, true, true, true, false, true, true, false, false] (fun H114 f bs gs => f 2 = route_v0 ∧ f 3 = .pointer (some ⟨b1, 0, none⟩) ∧ f 7 = .pointer (some ⟨b39, 0, none⟩) ∧ f 8 = .pointer (some ⟨b49, 0, none⟩) ∧ f 63 = .int .i64 (w64 (t.Reach + 1)) ∧ bs = [(b49, .cells [.int .i64 y20.Days, .int .i64 y20.Step, y20a_v2, .int .i64 y20.Wrong, y20a_v4, .int .i64 y20.Reach, .int .i64 y20.Stock].toArray 25), (b39, .cells [.int .i64 y17.Days, .int .i64 y17.Step, y17a_v2, .int .i64 y17.Wrong, y17a_v4, .int .i64 y17.Reach, .int .i64 (min 999 (w64 (t.Stock + by_)))].toArray 25), (b1, .cells [.int .i64 t.Days, .int .i64 t.Step, t_v2, .int .i64 t.Wrong, t_v4, .int .i64 t.Reach, .int .i64 t.Stock].toArray 25)] ∧ gs = [] ∧ HSub H53 H114) ?_ ?_
              · rintro H114 f bs gs ⟨hf2, hf3, hf7, hf8, hf63, rfl, rfl, hs114⟩
                refine (JA.norm (i := 2) hf2 (JA.norm (i := 3) hf3 (JA.norm (i := 7) hf7 (JA.norm (i := 8) hf8 (JA.norm (i := 63) hf63 ?_)))))
                refine JA.many [8] (by kernel_rfl) (by simp) (all_one ⟨_, #[true, true, true, true, true, true, true, true, true, true, true, false, false], rfl, (by kernel_rfl), ?_⟩)
                refine JL.min rfl rfl .none rfl ?_
                refine JA.sink (by kernel_rfl) ?_
                exact nd57_0 _ _ _ _ ⟨rfl, rfl, rfl, rfl, rfl, rfl, rfl, hs114⟩
              intro nd57_1
              refine JA.cut 4 #[true, true, true, true, true, true, true, false, false, true, true, false, false] (fun H115 f bs gs => f 2 = route_v0 ∧ f 3 = .pointer (some ⟨b1, 0, none⟩) ∧ f 7 = .pointer (some ⟨b39, 0, none⟩) ∧ f 8 = .pointer (some ⟨b49, 0, none⟩) ∧ f 62 = .int .i64 t.Reach ∧ bs = [(b49, .cells [.int .i64 y20.Days, .int .i64 y20.Step, y20a_v2, .int .i64 y20.Wrong, y20a_v4, .int .i64 y20.Reach, .int .i64 y20.Stock].toArray 25), (b39, .cells [.int .i64 y17.Days, .int .i64 y17.Step, y17a_v2, .int .i64 y17.Wrong, y17a_v4, .int .i64 y17.Reach, .int .i64 (min 999 (w64 (t.Stock + by_)))].toArray 25), (b1, .cells [.int .i64 t.Days, .int .i64 t.Step, t_v2, .int .i64 t.Wrong, t_v4, .int .i64 t.Reach, .int .i64 t.Stock].toArray 25)] ∧ gs = [] ∧ HSub H53 H115) ?_ ?_
              · rintro H115 f bs gs ⟨hf2, hf3, hf7, hf8, hf62, rfl, rfl, hs115⟩
                refine (JA.norm (i := 2) hf2 (JA.norm (i := 3) hf3 (JA.norm (i := 7) hf7 (JA.norm (i := 8) hf8 (JA.norm (i := 62) hf62 ?_)))))
                refine JA.many [7] (by kernel_rfl) (by simp) (all_one ⟨_, #[true, true, true, true, true, true, true, true, false, true, true, false, false], rfl, (by kernel_rfl), ?_⟩)
                refine JL.bin rfl rfl rfl .none rfl ?_
                refine JA.sink (by kernel_rfl) ?_
                exact nd57_1 _ _ _ _ ⟨rfl, rfl, rfl, rfl, rfl, rfl, rfl, hs115⟩
              intro nd57_2
              refine JA.cut 5 #[true, true, true, true, true, true, false, false, false, true, true, false, false] (fun H116 f bs gs => f 2 = route_v0 ∧ f 3 = .pointer (some ⟨b1, 0, none⟩) ∧ f 7 = .pointer (some ⟨b39, 0, none⟩) ∧ f 8 = .pointer (some ⟨b49, 0, none⟩) ∧ f 61 = .pointer (some ⟨b1, 5, none⟩) ∧ bs = [(b49, .cells [.int .i64 y20.Days, .int .i64 y20.Step, y20a_v2, .int .i64 y20.Wrong, y20a_v4, .int .i64 y20.Reach, .int .i64 y20.Stock].toArray 25), (b39, .cells [.int .i64 y17.Days, .int .i64 y17.Step, y17a_v2, .int .i64 y17.Wrong, y17a_v4, .int .i64 y17.Reach, .int .i64 (min 999 (w64 (t.Stock + by_)))].toArray 25), (b1, .cells [.int .i64 t.Days, .int .i64 t.Step, t_v2, .int .i64 t.Wrong, t_v4, .int .i64 t.Reach, .int .i64 t.Stock].toArray 25)] ∧ gs = [] ∧ HSub H53 H116) ?_ ?_
              · rintro H116 f bs gs ⟨hf2, hf3, hf7, hf8, hf61, rfl, rfl, hs116⟩
                refine (JA.norm (i := 2) hf2 (JA.norm (i := 3) hf3 (JA.norm (i := 7) hf7 (JA.norm (i := 8) hf8 (JA.norm (i := 61) hf61 ?_)))))
                refine JA.many [6] (by kernel_rfl) (by simp) (all_one ⟨_, #[true, true, true, true, true, true, true, false, false, true, true, false, false], rfl, (by kernel_rfl), ?_⟩)
                refine JL.loadOwn 2 az_3 rfl rfl rfl .none rfl ?_
                refine JA.sink (by kernel_rfl) ?_
                exact nd57_2 _ _ _ _ ⟨rfl, rfl, rfl, rfl, rfl, rfl, rfl, hs116⟩
              intro nd57_3
              refine JA.take 0 (listed' := #[true, false, false, false, false, false, false, false, false, false, false, false, false]) hQ rfl (by kernel_rfl) (by kernel_rfl) (by kernel_rfl) (by kernel_rfl) (by kernel_rfl) hE (HSub.refl _) (.cons_cons _ (.cons_cons _ (.cons_cons _ (List.nil_sublist _)))) ?_
              refine JL.fieldAddr fo_25_6 rfl .none rfl ?_
              refine JA.cont ?_
              refine JA.take 1 (listed' := #[true, true, false, false, false, false, false, false, false, false, false, false, false]) hQ rfl (by kernel_rfl) (by kernel_rfl) (by kernel_rfl) (by kernel_rfl) (by kernel_rfl) hE (HSub.refl _) (.cons_cons _ (.cons_cons _ (.cons_cons _ (List.nil_sublist _)))) ?_
              refine JL.loadOwn 2 az_3 rfl rfl rfl .none rfl ?_
              refine JA.cont ?_
              refine JA.take 2 (listed' := #[true, true, true, false, false, false, false, false, false, false, false, false, false]) hQ rfl (by kernel_rfl) (by kernel_rfl) (by kernel_rfl) (by kernel_rfl) (by kernel_rfl) hE (HSub.refl _) (.cons_cons _ (.cons_cons _ (.cons_cons _ (List.nil_sublist _)))) ?_
              refine JL.move .none rfl ?_
              refine JA.cont ?_
              refine JA.take 3 (listed' := #[true, true, true, true, false, false, false, false, false, false, false, false, false]) hQ rfl (by kernel_rfl) (by kernel_rfl) (by kernel_rfl) (by kernel_rfl) (by kernel_rfl) hE (HSub.refl _) (.cons_cons _ (.cons_cons _ (.cons_cons _ (List.nil_sublist _)))) ?_
              refine JL.bin rfl rfl rfl .none rfl ?_
              refine JA.cont ?_
              refine JA.take 4 (listed' := #[true, true, true, true, true, false, false, false, false, false, false, false, false]) hQ rfl (by kernel_rfl) (by kernel_rfl) (by kernel_rfl) (by kernel_rfl) (by kernel_rfl) hE (HSub.refl _) (.cons_cons _ (.cons_cons _ (.cons_cons _ (List.nil_sublist _)))) ?_
              refine JL.min rfl rfl .none rfl ?_
              refine JA.cont ?_
              refine JA.take 9 (listed' := #[true, true, true, true, true, false, false, false, false, true, false, false, false]) hQ rfl (by kernel_rfl) (by kernel_rfl) (by kernel_rfl) (by kernel_rfl) (by kernel_rfl) hE (HSub.refl _) (.cons_cons _ (.cons_cons _ (.cons_cons _ (List.nil_sublist _)))) ?_
              refine JL.fieldAddr fo_25_6 rfl .none rfl ?_
              refine JA.cont ?_
              refine JA.many [5, 10] (by kernel_rfl) (by simp) (all_cons ⟨_, #[true, true, true, true, true, true, false, false, false, true, false, false, false], rfl, (by kernel_rfl), ?_⟩ (all_one ⟨_, #[true, true, true, true, true, false, false, false, false, true, true, false, false], rfl, (by kernel_rfl), ?_⟩))
              · skip
                refine JL.fieldAddr fo_25_5 rfl .none rfl ?_
                refine JA.after hE (HSub.refl _) (.cons_cons _ (.cons_cons _ (.cons_cons _ (List.nil_sublist _)))) ?_
                refine JA.many [6, 10] (by kernel_rfl) (by simp) (all_cons ⟨_, #[true, true, true, true, true, true, true, false, false, true, false, false, false], rfl, (by kernel_rfl), ?_⟩ (all_one ⟨_, #[true, true, true, true, true, true, false, false, false, true, true, false, false], rfl, (by kernel_rfl), ?_⟩))
                · skip
                  refine JL.loadOwn 2 az_3 rfl rfl rfl .none rfl ?_
                  refine JA.after hE (HSub.refl _) (.cons_cons _ (.cons_cons _ (.cons_cons _ (List.nil_sublist _)))) ?_
                  refine JA.many [7, 10] (by kernel_rfl) (by simp) (all_cons ⟨_, #[true, true, true, true, true, true, true, true, false, true, false, false, false], rfl, (by kernel_rfl), ?_⟩ (all_one ⟨_, #[true, true, true, true, true, true, true, false, false, true, true, false, false], rfl, (by kernel_rfl), ?_⟩))
                  · skip
                    refine JL.bin rfl rfl rfl .none rfl ?_
                    refine JA.after hE (HSub.refl _) (.cons_cons _ (.cons_cons _ (.cons_cons _ (List.nil_sublist _)))) ?_
                    refine JA.many [8, 10] (by kernel_rfl) (by simp) (all_cons ⟨_, #[true, true, true, true, true, true, true, true, true, true, false, false, false], rfl, (by kernel_rfl), ?_⟩ (all_one ⟨_, #[true, true, true, true, true, true, true, true, false, true, true, false, false], rfl, (by kernel_rfl), ?_⟩))
                    · skip
                      refine JL.min rfl rfl .none rfl ?_
                      refine JA.after hE (HSub.refl _) (.cons_cons _ (.cons_cons _ (.cons_cons _ (List.nil_sublist _)))) ?_
                      refine JA.many [10] (by kernel_rfl) (by simp) (all_one ⟨_, #[true, true, true, true, true, true, true, true, true, true, true, false, false], rfl, (by kernel_rfl), ?_⟩)
                      refine JL.storeOwn 1 (cs := [.int .i64 (min 999 (w64 (t.Stock + by_)))]) az_3 rfl rfl rfl (one_cons rfl one_nil) rfl rfl .none ?_
                      refine JA.sink (by kernel_rfl) ?_
                      exact nd57_0 _ _ _ _ ⟨rfl, rfl, rfl, rfl, rfl, rfl, rfl, (HSub.refl _)⟩
                    · skip
                      refine JL.storeOwn 1 (cs := [.int .i64 (min 999 (w64 (t.Stock + by_)))]) az_3 rfl rfl rfl (one_cons rfl one_nil) rfl rfl .none ?_
                      refine JA.sink (by kernel_rfl) ?_
                      exact nd57_1 _ _ _ _ ⟨rfl, rfl, rfl, rfl, rfl, rfl, rfl, (HSub.refl _)⟩
                  · skip
                    refine JL.storeOwn 1 (cs := [.int .i64 (min 999 (w64 (t.Stock + by_)))]) az_3 rfl rfl rfl (one_cons rfl one_nil) rfl rfl .none ?_
                    refine JA.sink (by kernel_rfl) ?_
                    exact nd57_2 _ _ _ _ ⟨rfl, rfl, rfl, rfl, rfl, rfl, rfl, (HSub.refl _)⟩
                · skip
                  refine JL.storeOwn 1 (cs := [.int .i64 (min 999 (w64 (t.Stock + by_)))]) az_3 rfl rfl rfl (one_cons rfl one_nil) rfl rfl .none ?_
                  refine JA.sink (by kernel_rfl) ?_
                  exact nd57_3 _ _ _ _ ⟨rfl, rfl, rfl, rfl, rfl, rfl, rfl, (HSub.refl _)⟩
              · skip
                refine JL.storeOwn 1 (cs := [.int .i64 (min 999 (w64 (t.Stock + by_)))]) az_3 rfl rfl rfl (one_cons rfl one_nil) rfl rfl .none ?_
                refine JA.sink (by kernel_rfl) ?_
                refine JA.many [5] (by kernel_rfl) (by simp) (all_one ⟨_, #[true, true, true, true, true, true, false, false, false, true, true, false, false], rfl, (by kernel_rfl), ?_⟩)
                refine JL.fieldAddr fo_25_5 rfl .none rfl ?_
                refine JA.sink (by kernel_rfl) ?_
                exact nd57_3 _ _ _ _ ⟨rfl, rfl, rfl, rfl, rfl, rfl, rfl, (HSub.refl _)⟩
            intro nd52_0
            refine JA.cut 3 #[true, true, true, true, true, false, false, false] (fun H117 f bs gs => ∃ (b39 : Nat) (y17a_v2 : Value) (y17a_v4 : Value) (y20a_v2 : Value) (y20a_v4 : Value), f 1 = .int .i64 by_ ∧ f 2 = route_v0 ∧ f 3 = .pointer (some ⟨b1, 0, none⟩) ∧ f 7 = .pointer (some ⟨b39, 0, none⟩) ∧ f 53 = .agg [.int .i64 y17.Days, .int .i64 y17.Step, y17a_v2, .int .i64 y17.Wrong, y17a_v4, .int .i64 y17.Reach, .int .i64 y17.Stock].toArray ∧ f 55 = .agg [.int .i64 y20.Days, .int .i64 y20.Step, y20a_v2, .int .i64 y20.Wrong, y20a_v4, .int .i64 y20.Reach, .int .i64 y20.Stock].toArray ∧ bs = [(b39, .cells [.int .i64 0, .int .i64 0, .slice none 0 0, .int .i64 0, .slice none 0 0, .int .i64 0, .int .i64 0].toArray 25), (b1, .cells [.int .i64 t.Days, .int .i64 t.Step, t_v2, .int .i64 t.Wrong, t_v4, .int .i64 t.Reach, .int .i64 t.Stock].toArray 25)] ∧ gs = [] ∧ SL H117 3 R_Rain y17a_v2 y17.Rains ∧ SL H117 2 R_Fair y17a_v4 y17.Fairs ∧ SL H117 3 R_Rain y20a_v2 y20.Rains ∧ SL H117 2 R_Fair y20a_v4 y20.Fairs ∧ HSub H H117) ?_ ?_
            · rintro H117 f bs gs ⟨b39, y17a_v2, y17a_v4, y20a_v2, y20a_v4, hf1, hf2, hf3, hf7, hf53, hf55, rfl, rfl, hm118, hm119, hm120, hm121, hs117⟩
              refine (JA.norm (i := 1) hf1 (JA.norm (i := 2) hf2 (JA.norm (i := 3) hf3 (JA.norm (i := 7) hf7 (JA.norm (i := 53) hf53 (JA.norm (i := 55) hf55 ?_))))))
              refine JA.many [5] (by kernel_rfl) (by simp) (all_one ⟨_, #[true, true, true, true, true, true, false, false], rfl, (by kernel_rfl), ?_⟩)
              refine JL.alloc ze_25 .none rfl ?_
              intro b122
              refine JA.after hE hs117 (.cons _ (.cons _ (.cons_cons _ (List.nil_sublist _)))) ?_
              exact nd52_0 _ _ _ _ ⟨b122, b39, y17a_v2, y17a_v4, y20a_v2, y20a_v4, rfl, rfl, rfl, rfl, rfl, rfl, rfl, rfl, rfl, hm118, hm119, hm120, hm121, hs117⟩
            intro nd52_1
            refine JA.cut 3 #[true, true, true, true, false, true, false, false] (fun H123 f bs gs => ∃ (b40 : Nat) (y17a_v2 : Value) (y17a_v4 : Value) (y20a_v2 : Value) (y20a_v4 : Value), f 1 = .int .i64 by_ ∧ f 2 = route_v0 ∧ f 3 = .pointer (some ⟨b1, 0, none⟩) ∧ f 8 = .pointer (some ⟨b40, 0, none⟩) ∧ f 53 = .agg [.int .i64 y17.Days, .int .i64 y17.Step, y17a_v2, .int .i64 y17.Wrong, y17a_v4, .int .i64 y17.Reach, .int .i64 y17.Stock].toArray ∧ f 55 = .agg [.int .i64 y20.Days, .int .i64 y20.Step, y20a_v2, .int .i64 y20.Wrong, y20a_v4, .int .i64 y20.Reach, .int .i64 y20.Stock].toArray ∧ bs = [(b40, .cells [.int .i64 0, .int .i64 0, .slice none 0 0, .int .i64 0, .slice none 0 0, .int .i64 0, .int .i64 0].toArray 25), (b1, .cells [.int .i64 t.Days, .int .i64 t.Step, t_v2, .int .i64 t.Wrong, t_v4, .int .i64 t.Reach, .int .i64 t.Stock].toArray 25)] ∧ gs = [] ∧ SL H123 3 R_Rain y17a_v2 y17.Rains ∧ SL H123 2 R_Fair y17a_v4 y17.Fairs ∧ SL H123 3 R_Rain y20a_v2 y20.Rains ∧ SL H123 2 R_Fair y20a_v4 y20.Fairs ∧ HSub H H123) ?_ ?_
            · rintro H123 f bs gs ⟨b40, y17a_v2, y17a_v4, y20a_v2, y20a_v4, hf1, hf2, hf3, hf8, hf53, hf55, rfl, rfl, hm124, hm125, hm126, hm127, hs123⟩
              refine (JA.norm (i := 1) hf1 (JA.norm (i := 2) hf2 (JA.norm (i := 3) hf3 (JA.norm (i := 8) hf8 (JA.norm (i := 53) hf53 (JA.norm (i := 55) hf55 ?_))))))
              refine JA.many [4] (by kernel_rfl) (by simp) (all_one ⟨_, #[true, true, true, true, true, true, false, false], rfl, (by kernel_rfl), ?_⟩)
              refine JL.alloc ze_25 .none rfl ?_
              intro b128
              refine JA.after hE hs123 (.cons _ (.cons _ (.cons_cons _ (List.nil_sublist _)))) ?_
              refine JA.perm (swapAt_perm 0 _) ?_
              exact nd52_0 _ _ _ _ ⟨b40, b128, y17a_v2, y17a_v4, y20a_v2, y20a_v4, rfl, rfl, rfl, rfl, rfl, rfl, rfl, rfl, rfl, hm124, hm125, hm126, hm127, hs123⟩
            intro nd52_2
            refine JA.cut 3 #[true, true, true, false, true, true, false, false] (fun H129 f bs gs => ∃ (b43 : Nat) (b31 : Nat) (y17a_v2 : Value) (y17a_v4 : Value), f 1 = .int .i64 by_ ∧ f 2 = route_v0 ∧ f 3 = .pointer (some ⟨b1, 0, none⟩) ∧ f 7 = .pointer (some ⟨b31, 0, none⟩) ∧ f 8 = .pointer (some ⟨b43, 0, none⟩) ∧ f 53 = .agg [.int .i64 y17.Days, .int .i64 y17.Step, y17a_v2, .int .i64 y17.Wrong, y17a_v4, .int .i64 y17.Reach, .int .i64 y17.Stock].toArray ∧ f 54 = .agg [.int .i64 t.Days, .int .i64 t.Step, t_v2, .int .i64 t.Wrong, t_v4, .int .i64 t.Reach, .int .i64 t.Stock].toArray ∧ bs = [(b43, .cells [.int .i64 0, .int .i64 0, .slice none 0 0, .int .i64 0, .slice none 0 0, .int .i64 0, .int .i64 0].toArray 25), (b31, .cells [.int .i64 0, .int .i64 0, .slice none 0 0, .int .i64 0, .slice none 0 0, .int .i64 0, .int .i64 0].toArray 25), (b1, .cells [.int .i64 t.Days, .int .i64 t.Step, t_v2, .int .i64 t.Wrong, t_v4, .int .i64 t.Reach, .int .i64 t.Stock].toArray 25)] ∧ gs = [] ∧ SL H129 3 R_Rain y17a_v2 y17.Rains ∧ SL H129 2 R_Fair y17a_v4 y17.Fairs ∧ HSub H H129) ?_ ?_
            · rintro H129 f bs gs ⟨b43, b31, y17a_v2, y17a_v4, hf1, hf2, hf3, hf7, hf8, hf53, hf54, rfl, rfl, hm130, hm131, hs129⟩
              refine (JA.norm (i := 1) hf1 (JA.norm (i := 2) hf2 (JA.norm (i := 3) hf3 (JA.norm (i := 7) hf7 (JA.norm (i := 8) hf8 (JA.norm (i := 53) hf53 (JA.norm (i := 54) hf54 ?_)))))))
              refine JA.many [3] (by kernel_rfl) (by simp) (all_one ⟨_, #[true, true, true, true, true, true, false, false], rfl, (by kernel_rfl), ?_⟩)
              refine JL.callH (c_ref11_Copy n H129 t t_v2 (SL.mono R_Rain_mono hs129 ht_2) t_v4 (SL.mono R_Fair_mono hs129 ht_4) y20 hy20) rfl en_14 .none rfl ?_
              rintro H132 vv133 hs132 ⟨y20a_v2, y20a_v4, rfl, hy20a_2, hy20a_4⟩
              refine JA.after hE (HSub.trans hs129 hs132) (.cons _ (.cons _ (.cons_cons _ (List.nil_sublist _)))) ?_
              exact nd52_0 _ _ _ _ ⟨b43, b31, y17a_v2, y17a_v4, y20a_v2, y20a_v4, rfl, rfl, rfl, rfl, rfl, rfl, rfl, rfl, rfl, (SL.mono R_Rain_mono hs132 hm130), (SL.mono R_Fair_mono hs132 hm131), hy20a_2, hy20a_4, (HSub.trans hs129 hs132)⟩
            intro nd52_3
            refine JA.cut 4 #[true, true, true, false, true, false, false, false] (fun H134 f bs gs => ∃ (b31 : Nat) (y17a_v2 : Value) (y17a_v4 : Value), f 1 = .int .i64 by_ ∧ f 2 = route_v0 ∧ f 3 = .pointer (some ⟨b1, 0, none⟩) ∧ f 7 = .pointer (some ⟨b31, 0, none⟩) ∧ f 53 = .agg [.int .i64 y17.Days, .int .i64 y17.Step, y17a_v2, .int .i64 y17.Wrong, y17a_v4, .int .i64 y17.Reach, .int .i64 y17.Stock].toArray ∧ f 54 = .agg [.int .i64 t.Days, .int .i64 t.Step, t_v2, .int .i64 t.Wrong, t_v4, .int .i64 t.Reach, .int .i64 t.Stock].toArray ∧ bs = [(b31, .cells [.int .i64 0, .int .i64 0, .slice none 0 0, .int .i64 0, .slice none 0 0, .int .i64 0, .int .i64 0].toArray 25), (b1, .cells [.int .i64 t.Days, .int .i64 t.Step, t_v2, .int .i64 t.Wrong, t_v4, .int .i64 t.Reach, .int .i64 t.Stock].toArray 25)] ∧ gs = [] ∧ SL H134 3 R_Rain y17a_v2 y17.Rains ∧ SL H134 2 R_Fair y17a_v4 y17.Fairs ∧ HSub H H134) ?_ ?_
            · rintro H134 f bs gs ⟨b31, y17a_v2, y17a_v4, hf1, hf2, hf3, hf7, hf53, hf54, rfl, rfl, hm135, hm136, hs134⟩
              refine (JA.norm (i := 1) hf1 (JA.norm (i := 2) hf2 (JA.norm (i := 3) hf3 (JA.norm (i := 7) hf7 (JA.norm (i := 53) hf53 (JA.norm (i := 54) hf54 ?_))))))
              refine JA.many [3, 5] (by kernel_rfl) (by simp) (all_cons ⟨_, #[true, true, true, true, true, false, false, false], rfl, (by kernel_rfl), ?_⟩ (all_one ⟨_, #[true, true, true, false, true, true, false, false], rfl, (by kernel_rfl), ?_⟩))
              · skip
                refine JL.callH (c_ref11_Copy n H134 t t_v2 (SL.mono R_Rain_mono hs134 ht_2) t_v4 (SL.mono R_Fair_mono hs134 ht_4) y20 hy20) rfl en_14 .none rfl ?_
                rintro H137 vv138 hs137 ⟨y20a_v2, y20a_v4, rfl, hy20a_2, hy20a_4⟩
                refine JA.after hE (HSub.trans hs134 hs137) (.cons _ (.cons_cons _ (List.nil_sublist _))) ?_
                exact nd52_1 _ _ _ _ ⟨b31, y17a_v2, y17a_v4, y20a_v2, y20a_v4, rfl, rfl, rfl, rfl, rfl, rfl, rfl, rfl, (SL.mono R_Rain_mono hs137 hm135), (SL.mono R_Fair_mono hs137 hm136), hy20a_2, hy20a_4, (HSub.trans hs134 hs137)⟩
              · skip
                refine JL.alloc ze_25 .none rfl ?_
                intro b139
                refine JA.after hE hs134 (.cons _ (.cons _ (.cons_cons _ (List.nil_sublist _)))) ?_
                exact nd52_3 _ _ _ _ ⟨b139, b31, y17a_v2, y17a_v4, rfl, rfl, rfl, rfl, rfl, rfl, rfl, rfl, rfl, hm135, hm136, hs134⟩
            intro nd52_4
            refine JA.cut 4 #[true, true, true, false, false, true, false, false] (fun H140 f bs gs => ∃ (b32 : Nat) (y17a_v2 : Value) (y17a_v4 : Value), f 1 = .int .i64 by_ ∧ f 2 = route_v0 ∧ f 3 = .pointer (some ⟨b1, 0, none⟩) ∧ f 8 = .pointer (some ⟨b32, 0, none⟩) ∧ f 53 = .agg [.int .i64 y17.Days, .int .i64 y17.Step, y17a_v2, .int .i64 y17.Wrong, y17a_v4, .int .i64 y17.Reach, .int .i64 y17.Stock].toArray ∧ f 54 = .agg [.int .i64 t.Days, .int .i64 t.Step, t_v2, .int .i64 t.Wrong, t_v4, .int .i64 t.Reach, .int .i64 t.Stock].toArray ∧ bs = [(b32, .cells [.int .i64 0, .int .i64 0, .slice none 0 0, .int .i64 0, .slice none 0 0, .int .i64 0, .int .i64 0].toArray 25), (b1, .cells [.int .i64 t.Days, .int .i64 t.Step, t_v2, .int .i64 t.Wrong, t_v4, .int .i64 t.Reach, .int .i64 t.Stock].toArray 25)] ∧ gs = [] ∧ SL H140 3 R_Rain y17a_v2 y17.Rains ∧ SL H140 2 R_Fair y17a_v4 y17.Fairs ∧ HSub H H140) ?_ ?_
            · rintro H140 f bs gs ⟨b32, y17a_v2, y17a_v4, hf1, hf2, hf3, hf8, hf53, hf54, rfl, rfl, hm141, hm142, hs140⟩
              refine (JA.norm (i := 1) hf1 (JA.norm (i := 2) hf2 (JA.norm (i := 3) hf3 (JA.norm (i := 8) hf8 (JA.norm (i := 53) hf53 (JA.norm (i := 54) hf54 ?_))))))
              refine JA.many [3, 4] (by kernel_rfl) (by simp) (all_cons ⟨_, #[true, true, true, true, false, true, false, false], rfl, (by kernel_rfl), ?_⟩ (all_one ⟨_, #[true, true, true, false, true, true, false, false], rfl, (by kernel_rfl), ?_⟩))
              · skip
                refine JL.callH (c_ref11_Copy n H140 t t_v2 (SL.mono R_Rain_mono hs140 ht_2) t_v4 (SL.mono R_Fair_mono hs140 ht_4) y20 hy20) rfl en_14 .none rfl ?_
                rintro H143 vv144 hs143 ⟨y20a_v2, y20a_v4, rfl, hy20a_2, hy20a_4⟩
                refine JA.after hE (HSub.trans hs140 hs143) (.cons _ (.cons_cons _ (List.nil_sublist _))) ?_
                exact nd52_2 _ _ _ _ ⟨b32, y17a_v2, y17a_v4, y20a_v2, y20a_v4, rfl, rfl, rfl, rfl, rfl, rfl, rfl, rfl, (SL.mono R_Rain_mono hs143 hm141), (SL.mono R_Fair_mono hs143 hm142), hy20a_2, hy20a_4, (HSub.trans hs140 hs143)⟩
              · skip
                refine JL.alloc ze_25 .none rfl ?_
                intro b145
                refine JA.after hE hs140 (.cons _ (.cons _ (.cons_cons _ (List.nil_sublist _)))) ?_
                refine JA.perm (swapAt_perm 0 _) ?_
                exact nd52_3 _ _ _ _ ⟨b32, b145, y17a_v2, y17a_v4, rfl, rfl, rfl, rfl, rfl, rfl, rfl, rfl, rfl, hm141, hm142, hs140⟩
            intro nd52_5
            refine JA.cut 4 #[true, false, true, false, true, true, false, false] (fun H146 f bs gs => ∃ (b35 : Nat) (b27 : Nat), f 1 = .int .i64 by_ ∧ f 2 = route_v0 ∧ f 3 = .pointer (some ⟨b1, 0, none⟩) ∧ f 7 = .pointer (some ⟨b27, 0, none⟩) ∧ f 8 = .pointer (some ⟨b35, 0, none⟩) ∧ f 52 = .agg [.int .i64 t.Days, .int .i64 t.Step, t_v2, .int .i64 t.Wrong, t_v4, .int .i64 t.Reach, .int .i64 t.Stock].toArray ∧ f 54 = .agg [.int .i64 t.Days, .int .i64 t.Step, t_v2, .int .i64 t.Wrong, t_v4, .int .i64 t.Reach, .int .i64 t.Stock].toArray ∧ bs = [(b35, .cells [.int .i64 0, .int .i64 0, .slice none 0 0, .int .i64 0, .slice none 0 0, .int .i64 0, .int .i64 0].toArray 25), (b27, .cells [.int .i64 0, .int .i64 0, .slice none 0 0, .int .i64 0, .slice none 0 0, .int .i64 0, .int .i64 0].toArray 25), (b1, .cells [.int .i64 t.Days, .int .i64 t.Step, t_v2, .int .i64 t.Wrong, t_v4, .int .i64 t.Reach, .int .i64 t.Stock].toArray 25)] ∧ gs = [] ∧ HSub H H146) ?_ ?_
            · rintro H146 f bs gs ⟨b35, b27, hf1, hf2, hf3, hf7, hf8, hf52, hf54, rfl, rfl, hs146⟩
              refine (JA.norm (i := 1) hf1 (JA.norm (i := 2) hf2 (JA.norm (i := 3) hf3 (JA.norm (i := 7) hf7 (JA.norm (i := 8) hf8 (JA.norm (i := 52) hf52 (JA.norm (i := 54) hf54 ?_)))))))
              refine JA.many [1] (by kernel_rfl) (by simp) (all_one ⟨_, #[true, true, true, false, true, true, false, false], rfl, (by kernel_rfl), ?_⟩)
              refine JL.callH (c_ref11_Copy n H146 t t_v2 (SL.mono R_Rain_mono hs146 ht_2) t_v4 (SL.mono R_Fair_mono hs146 ht_4) y17 hy17) rfl en_14 .none rfl ?_
              rintro H147 vv148 hs147 ⟨y17a_v2, y17a_v4, rfl, hy17a_2, hy17a_4⟩
              refine JA.after hE (HSub.trans hs146 hs147) (.cons _ (.cons _ (.cons_cons _ (List.nil_sublist _)))) ?_
              exact nd52_3 _ _ _ _ ⟨b35, b27, y17a_v2, y17a_v4, rfl, rfl, rfl, rfl, rfl, rfl, rfl, rfl, rfl, hy17a_2, hy17a_4, (HSub.trans hs146 hs147)⟩
            intro nd52_6
            refine JA.take 0 (listed' := #[true, false, false, false, false, false, false, false]) hQ rfl (by kernel_rfl) (by kernel_rfl) (by kernel_rfl) (by kernel_rfl) (by kernel_rfl) hE (HSub.refl _) (.cons_cons _ (List.nil_sublist _)) ?_
            refine JL.loadOwn 0 az_25 rfl rfl rfl .none rfl ?_
            refine JA.cont ?_
            refine JA.take 2 (listed' := #[true, false, true, false, false, false, false, false]) hQ rfl (by kernel_rfl) (by kernel_rfl) (by kernel_rfl) (by kernel_rfl) (by kernel_rfl) hE (HSub.refl _) (.cons_cons _ (List.nil_sublist _)) ?_
            refine JL.loadOwn 0 az_25 rfl rfl rfl .none rfl ?_
            refine JA.cont ?_
            refine JA.many [1, 4, 5] (by kernel_rfl) (by simp) (all_cons ⟨_, #[true, true, true, false, false, false, false, false], rfl, (by kernel_rfl), ?_⟩ (all_cons ⟨_, #[true, false, true, false, true, false, false, false], rfl, (by kernel_rfl), ?_⟩ (all_one ⟨_, #[true, false, true, false, false, true, false, false], rfl, (by kernel_rfl), ?_⟩)))
            · skip
              refine JL.callH (c_ref11_Copy n H t t_v2 ht_2 t_v4 ht_4 y17 hy17) rfl en_14 .none rfl ?_
              rintro H149 vv150 hs149 ⟨y17a_v2, y17a_v4, rfl, hy17a_2, hy17a_4⟩
              refine JA.after hE hs149 (.cons_cons _ (List.nil_sublist _)) ?_
              refine JA.many [3, 4, 5] (by kernel_rfl) (by simp) (all_cons ⟨_, #[true, true, true, true, false, false, false, false], rfl, (by kernel_rfl), ?_⟩ (all_cons ⟨_, #[true, true, true, false, true, false, false, false], rfl, (by kernel_rfl), ?_⟩ (all_one ⟨_, #[true, true, true, false, false, true, false, false], rfl, (by kernel_rfl), ?_⟩)))
              · skip
                refine JL.callH (c_ref11_Copy n H149 t t_v2 (SL.mono R_Rain_mono hs149 ht_2) t_v4 (SL.mono R_Fair_mono hs149 ht_4) y20 hy20) rfl en_14 .none rfl ?_
                rintro H151 vv152 hs151 ⟨y20a_v2, y20a_v4, rfl, hy20a_2, hy20a_4⟩
                refine JA.after hE (HSub.trans hs149 hs151) (.cons_cons _ (List.nil_sublist _)) ?_
                refine JA.many [4, 5] (by kernel_rfl) (by simp) (all_cons ⟨_, #[true, true, true, true, true, false, false, false], rfl, (by kernel_rfl), ?_⟩ (all_one ⟨_, #[true, true, true, true, false, true, false, false], rfl, (by kernel_rfl), ?_⟩))
                · skip
                  refine JL.alloc ze_25 .none rfl ?_
                  intro b153
                  refine JA.after hE (HSub.trans hs149 hs151) (.cons _ (.cons_cons _ (List.nil_sublist _))) ?_
                  exact nd52_1 _ _ _ _ ⟨b153, y17a_v2, y17a_v4, y20a_v2, y20a_v4, rfl, rfl, rfl, rfl, rfl, rfl, rfl, rfl, (SL.mono R_Rain_mono hs151 hy17a_2), (SL.mono R_Fair_mono hs151 hy17a_4), hy20a_2, hy20a_4, (HSub.trans hs149 hs151)⟩
                · skip
                  refine JL.alloc ze_25 .none rfl ?_
                  intro b154
                  refine JA.after hE (HSub.trans hs149 hs151) (.cons _ (.cons_cons _ (List.nil_sublist _))) ?_
                  exact nd52_2 _ _ _ _ ⟨b154, y17a_v2, y17a_v4, y20a_v2, y20a_v4, rfl, rfl, rfl, rfl, rfl, rfl, rfl, rfl, (SL.mono R_Rain_mono hs151 hy17a_2), (SL.mono R_Fair_mono hs151 hy17a_4), hy20a_2, hy20a_4, (HSub.trans hs149 hs151)⟩
              · skip
                refine JL.alloc ze_25 .none rfl ?_
                intro b155
                refine JA.after hE hs149 (.cons _ (.cons_cons _ (List.nil_sublist _))) ?_
                exact nd52_4 _ _ _ _ ⟨b155, y17a_v2, y17a_v4, rfl, rfl, rfl, rfl, rfl, rfl, rfl, rfl, hy17a_2, hy17a_4, hs149⟩
              · skip
                refine JL.alloc ze_25 .none rfl ?_
                intro b156
                refine JA.after hE hs149 (.cons _ (.cons_cons _ (List.nil_sublist _))) ?_
                exact nd52_5 _ _ _ _ ⟨b156, y17a_v2, y17a_v4, rfl, rfl, rfl, rfl, rfl, rfl, rfl, rfl, hy17a_2, hy17a_4, hs149⟩
            · skip
              refine JL.alloc ze_25 .none rfl ?_
              intro b157
              refine JA.after hE (HSub.refl _) (.cons _ (.cons_cons _ (List.nil_sublist _))) ?_
              refine JA.many [1, 5] (by kernel_rfl) (by simp) (all_cons ⟨_, #[true, true, true, false, true, false, false, false], rfl, (by kernel_rfl), ?_⟩ (all_one ⟨_, #[true, false, true, false, true, true, false, false], rfl, (by kernel_rfl), ?_⟩))
              · skip
                refine JL.callH (c_ref11_Copy n H t t_v2 ht_2 t_v4 ht_4 y17 hy17) rfl en_14 .none rfl ?_
                rintro H158 vv159 hs158 ⟨y17a_v2, y17a_v4, rfl, hy17a_2, hy17a_4⟩
                refine JA.after hE hs158 (.cons _ (.cons_cons _ (List.nil_sublist _))) ?_
                exact nd52_4 _ _ _ _ ⟨b157, y17a_v2, y17a_v4, rfl, rfl, rfl, rfl, rfl, rfl, rfl, rfl, hy17a_2, hy17a_4, hs158⟩
              · skip
                refine JL.alloc ze_25 .none rfl ?_
                intro b160
                refine JA.after hE (HSub.refl _) (.cons _ (.cons _ (.cons_cons _ (List.nil_sublist _)))) ?_
                exact nd52_6 _ _ _ _ ⟨b160, b157, rfl, rfl, rfl, rfl, rfl, rfl, rfl, rfl, rfl, (HSub.refl _)⟩
            · skip
              refine JL.alloc ze_25 .none rfl ?_
              intro b161
              refine JA.after hE (HSub.refl _) (.cons _ (.cons_cons _ (List.nil_sublist _))) ?_
              refine JA.many [1, 4] (by kernel_rfl) (by simp) (all_cons ⟨_, #[true, true, true, false, false, true, false, false], rfl, (by kernel_rfl), ?_⟩ (all_one ⟨_, #[true, false, true, false, true, true, false, false], rfl, (by kernel_rfl), ?_⟩))
              · skip
                refine JL.callH (c_ref11_Copy n H t t_v2 ht_2 t_v4 ht_4 y17 hy17) rfl en_14 .none rfl ?_
                rintro H162 vv163 hs162 ⟨y17a_v2, y17a_v4, rfl, hy17a_2, hy17a_4⟩
                refine JA.after hE hs162 (.cons _ (.cons_cons _ (List.nil_sublist _))) ?_
                exact nd52_5 _ _ _ _ ⟨b161, y17a_v2, y17a_v4, rfl, rfl, rfl, rfl, rfl, rfl, rfl, rfl, hy17a_2, hy17a_4, hs162⟩
              · skip
                refine JL.alloc ze_25 .none rfl ?_
                intro b164
                refine JA.after hE (HSub.refl _) (.cons _ (.cons _ (.cons_cons _ (List.nil_sublist _)))) ?_
                refine JA.perm (swapAt_perm 0 _) ?_
                exact nd52_6 _ _ _ _ ⟨b161, b164, rfl, rfl, rfl, rfl, rfl, rfl, rfl, rfl, rfl, (HSub.refl _)⟩

end Go.Proofs.Ytooankffknoomaa
