/-
  A part of the proof of CDome: the texts EngV, EngW, EngX, EngY, GenT.
-/
import Derived.Test.YtcipdblhopffbaaJCDome1
import Derived.Maps.RangeWalk
import Derived.DeepKeys4
import Derived.Test.YtcipdblhopffbaaRows
section
namespace Go.Dec
open Go Go.RowKit

/-! ### plain maps: keys are lists of numbers -/
abbrev Mp := List (List Int × Int)
def klt : List Int → List Int → Bool
  | [], [] => false
  | [], _ :: _ => true
  | _ :: _, [] => false
  | a :: l, b :: m => if a < b then true else if b < a then false else klt l m
theorem klt_irrefl : ∀ k, klt k k = false
  | [] => rfl
  | a :: l => by simp [klt, klt_irrefl l]
theorem klt_trans : ∀ {k l m}, klt k l = true → klt l m = true → klt k m = true
  | [], [], _, h, _ => by simp [klt] at h
  | [], _ :: _, [], _, h => by simp [klt] at h
  | [], _ :: _, _ :: _, _, _ => rfl
  | _ :: _, [], _, h, _ => by simp [klt] at h
  | _ :: _, _ :: _, [], _, h => by simp [klt] at h
  | a :: k, b :: l, c :: m, h1, h2 => by
    unfold klt at h1 h2 ⊢
    by_cases hab : a < b
    · by_cases hbc : b < c
      · rw [if_pos (by omega)]
      · rw [if_neg hbc] at h2
        by_cases hcb : c < b
        · rw [if_pos hcb] at h2; cases h2
        · rw [if_pos (by omega)]
    · rw [if_neg hab] at h1
      by_cases hba : b < a
      · rw [if_pos hba] at h1; cases h1
      · rw [if_neg hba] at h1
        by_cases hbc : b < c
        · rw [if_pos (by omega)]
        · rw [if_neg hbc] at h2
          by_cases hcb : c < b
          · rw [if_pos hcb] at h2; cases h2
          · rw [if_neg hcb] at h2
            rw [if_neg (by omega), if_neg (by omega)]
            exact klt_trans h1 h2
theorem klt_total : ∀ {k l}, k ≠ l → klt k l = false → klt l k = true
  | [], [], h, _ => absurd rfl h
  | [], _ :: _, _, h => by simp [klt] at h
  | _ :: _, [], _, _ => rfl
  | a :: k, b :: l, h, h1 => by
    unfold klt at h1 ⊢
    by_cases hab : a < b
    · rw [if_pos hab] at h1; cases h1
    · rw [if_neg hab] at h1
      by_cases hba : b < a
      · rw [if_pos hba]
      · rw [if_neg hba] at h1 ⊢
        rw [if_neg hab]
        have e : a = b := by omega
        subst e
        exact klt_total (fun e => h (by rw [e])) h1
def mget (m : Mp) (k : List Int) : Int := match m.find? (fun p => p.1 == k) with | some p => p.2 | none => 0
def mput : Mp → List Int → Int → Mp
  | [], k, v => [(k, v)]
  | p :: r, k, v => if p.1 == k then (k, v) :: r else if klt k p.1 then (k, v) :: p :: r else p :: mput r k v
def mdel (m : Mp) (k : List Int) : Mp := m.filter fun p => !(p.1 == k)
def Srt (m : Mp) : Prop := m.Pairwise fun p q => klt p.1 q.1 = true
def mhas (m : Mp) (k : List Int) : Bool := m.any fun p => p.1 == k

theorem srt_ne {m : Mp} (h : Srt m) : m.Pairwise fun p q => p.1 ≠ q.1 := h.imp fun {a b} hab e => by rw [e, klt_irrefl] at hab; cases hab
theorem srt_inj {m : Mp} (h : Srt m) {p q : List Int × Int} (hp : p ∈ m) (hq : q ∈ m) (e : p.1 = q.1) : p = q := by
  induction m with
  | nil => cases hp
  | cons a r ih =>
    obtain ⟨h1, h2⟩ := List.pairwise_cons.1 (srt_ne h)
    rcases List.mem_cons.1 hp with rfl | hp
    · rcases List.mem_cons.1 hq with rfl | hq
      · rfl
      · exact absurd e (h1 q hq)
    · rcases List.mem_cons.1 hq with rfl | hq
      · exact absurd e.symm (h1 p (by assumption))
      · exact ih (List.pairwise_cons.1 h).2 hp hq
theorem srt_nodup {m : Mp} (h : Srt m) : m.Nodup := (srt_ne h).imp fun hab e => hab (by rw [e])
theorem mem_mput {k : List Int} {v : Int} {q : List Int × Int} : ∀ {m : Mp}, Srt m → (q ∈ mput m k v ↔ q = (k, v) ∨ (q ∈ m ∧ q.1 ≠ k))
  | [], _ => by simp [mput]
  | p :: r, h => by
    obtain ⟨h1, h2⟩ := List.pairwise_cons.1 h
    unfold mput
    by_cases e : p.1 = k
    · rw [if_pos (by simpa using e)]
      subst e
      constructor
      · intro hq
        rcases List.mem_cons.1 hq with rfl | hq
        · exact .inl rfl
        · refine .inr ⟨List.mem_cons_of_mem _ hq, fun e => ?_⟩
          have := h1 q hq
          rw [e, klt_irrefl] at this
          cases this
      · rintro (rfl | ⟨hq, hne⟩)
        · exact List.mem_cons_self ..
        · rcases List.mem_cons.1 hq with rfl | hq
          · exact absurd rfl hne
          · exact List.mem_cons_of_mem _ hq
    · rw [if_neg (by simpa using e)]
      by_cases hl : klt k p.1 = true
      · rw [if_pos hl]
        constructor
        · intro hq
          rcases List.mem_cons.1 hq with rfl | hq
          · exact .inl rfl
          · refine .inr ⟨hq, fun e2 => ?_⟩
            rcases List.mem_cons.1 hq with rfl | hq
            · exact e e2
            · have := klt_trans hl (h1 q hq)
              rw [e2, klt_irrefl] at this
              cases this
        · rintro (rfl | ⟨hq, _⟩)
          · exact List.mem_cons_self ..
          · exact List.mem_cons_of_mem _ hq
      · rw [if_neg hl, List.mem_cons, mem_mput h2]
        constructor
        · rintro (rfl | rfl | ⟨hq, hne⟩)
          · exact .inr ⟨List.mem_cons_self .., e⟩
          · exact .inl rfl
          · exact .inr ⟨List.mem_cons_of_mem _ hq, hne⟩
        · rintro (rfl | ⟨hq, hne⟩)
          · exact .inr (.inl rfl)
          · rcases List.mem_cons.1 hq with rfl | hq
            · exact .inl rfl
            · exact .inr (.inr ⟨hq, hne⟩)
theorem srt_mput {k : List Int} {v : Int} : ∀ {m : Mp}, Srt m → Srt (mput m k v)
  | [], _ => by simp [mput, Srt]
  | p :: r, h => by
    obtain ⟨h1, h2⟩ := List.pairwise_cons.1 h
    unfold mput
    by_cases e : p.1 = k
    · rw [if_pos (by simpa using e)]
      subst e
      exact List.pairwise_cons.2 ⟨h1, h2⟩
    · rw [if_neg (by simpa using e)]
      by_cases hl : klt k p.1 = true
      · rw [if_pos hl]
        refine List.pairwise_cons.2 ⟨fun q hq => ?_, h⟩
        rcases List.mem_cons.1 hq with rfl | hq
        · exact hl
        · exact klt_trans hl (h1 q hq)
      · rw [if_neg hl]
        refine List.pairwise_cons.2 ⟨fun q hq => ?_, srt_mput h2⟩
        rcases (mem_mput h2).1 hq with rfl | ⟨hq, _⟩
        · exact klt_total (fun e2 => e e2.symm) (by simpa using hl)
        · exact h1 q hq
theorem mhas_iff {m : Mp} {k : List Int} : mhas m k = true ↔ ∃ v, (k, v) ∈ m := by
  simp only [mhas, List.any_eq_true, beq_iff_eq]
  constructor
  · rintro ⟨⟨a, v⟩, h, rfl⟩; exact ⟨v, h⟩
  · rintro ⟨v, h⟩; exact ⟨(k, v), h, rfl⟩
theorem length_mput {k : List Int} {v : Int} : ∀ {m : Mp}, Srt m → (mput m k v).length = if mhas m k = true then m.length else m.length + 1
  | [], _ => by simp [mput, mhas]
  | p :: r, h => by
    obtain ⟨h1, h2⟩ := List.pairwise_cons.1 h
    unfold mput mhas
    by_cases e : p.1 = k
    · rw [if_pos (by simpa using e)]; simp [e]
    · rw [if_neg (by simpa using e)]
      by_cases hl : klt k p.1 = true
      · rw [if_pos hl]
        have hn : (List.any (p :: r) fun p => p.1 == k) = false := by
          rw [List.any_eq_false]
          intro q hq
          have : q.1 ≠ k := fun e2 => by
            rcases List.mem_cons.1 hq with rfl | hq
            · exact e e2
            · have := klt_trans hl (h1 q hq)
              rw [e2, klt_irrefl] at this
              cases this
          simpa using this
        rw [hn]; simp
      · rw [if_neg hl, List.length_cons, length_mput h2]
        have hb : (p.1 == k) = false := by simpa using e
        simp only [List.any_cons, hb, Bool.false_or, mhas, List.length_cons]
        split <;> rename_i hh <;> simp [hh]
theorem mget_of_mem {m : Mp} (h : Srt m) {k : List Int} {v : Int} (hm : (k, v) ∈ m) : mget m k = v := by
  unfold mget
  have : (m.find? fun p => p.1 == k).isSome = true := List.find?_isSome.2 ⟨_, hm, by simp⟩
  obtain ⟨q, hq⟩ := Option.isSome_iff_exists.1 this
  rw [hq]
  have h1 := List.mem_of_find?_eq_some hq
  have h2 := List.find?_some hq
  have e : q.1 = k := by simpa using h2
  have := srt_inj h h1 hm e
  rw [this]
theorem mget_of_not {m : Mp} {k : List Int} (h : ∀ p ∈ m, p.1 ≠ k) : mget m k = 0 := by
  unfold mget
  rw [List.find?_eq_none.2 (fun p hp => by simpa using h p hp)]
/-- two sorted lists with the same members are one -/
theorem srt_ext : ∀ {m n : Mp}, Srt m → Srt n → (∀ p, p ∈ m ↔ p ∈ n) → m = n
  | [], [], _, _, _ => rfl
  | [], q :: _, _, _, h => by have := (h q).2 (List.mem_cons_self ..); cases this
  | p :: _, [], _, _, h => by have := (h p).1 (List.mem_cons_self ..); cases this
  | p :: r, q :: s, h1, h2, h => by
    obtain ⟨a1, a2⟩ := List.pairwise_cons.1 h1
    obtain ⟨b1, b2⟩ := List.pairwise_cons.1 h2
    have e : p = q := by
      rcases List.mem_cons.1 ((h p).1 (List.mem_cons_self ..)) with e | hp
      · exact e
      · rcases List.mem_cons.1 ((h q).2 (List.mem_cons_self ..)) with e | hq
        · exact e.symm
        · have := klt_trans (a1 q hq) (b1 p hp)
          rw [klt_irrefl] at this
          cases this
    subst e
    rw [srt_ext a2 b2 fun x => ⟨fun hx => by
      rcases List.mem_cons.1 ((h x).1 (List.mem_cons_of_mem _ hx)) with e | hx'
      · subst e; have := a1 x hx; rw [klt_irrefl] at this; cases this
      · exact hx', fun hx => by
      rcases List.mem_cons.1 ((h x).2 (List.mem_cons_of_mem _ hx)) with e | hx'
      · subst e; have := b1 x hx; rw [klt_irrefl] at this; cases this
      · exact hx'⟩]
theorem mget_mput {m : Mp} {k : List Int} {v : Int} (h : Srt m) : mget (mput m k v) k = v := mget_of_mem (srt_mput h) ((mem_mput h).2 (.inl rfl))
theorem srt_mdel {m : Mp} {k : List Int} (h : Srt m) : Srt (mdel m k) := h.filter _
theorem mem_mdel {m : Mp} {k : List Int} {q : List Int × Int} : q ∈ mdel m k ↔ q ∈ m ∧ q.1 ≠ k := by simp [mdel]

/-! ### maps in the heap -/
/-- keys of n numbers -/
def Kok (n : Nat) (k : List Int) : Prop := k.length = n ∧ ∀ x ∈ k, -9223372036854775808 ≤ x ∧ x ≤ 9223372036854775807
def kok (n : Nat) (k : List Int) : Option Unit := if k.length = n ∧ (k.all fun x => decide (-9223372036854775808 ≤ x ∧ x ≤ 9223372036854775807)) = true then some () else none
theorem kok_some {n : Nat} {k : List Int} {u : Unit} (h : kok n k = some u) : Kok n k := by
  unfold kok at h
  split at h
  · rename_i hh; exact ⟨hh.1, fun x hx => by simpa using List.all_eq_true.1 hh.2 x hx⟩
  · cases h
theorem kok_ok {n : Nat} {k : List Int} (h : Kok n k) : kok n k = some () := by
  unfold kok
  rw [if_pos ⟨h.1, List.all_eq_true.2 fun x hx => by simpa using h.2 x hx⟩]
structure KT (P : Program) (kt : TypeId) (n : Nat) (ek : List Int → Value) : Prop where
  keyed : Maps.Keyed P kt
  read : ∀ k, Kok n k → ∃ l, keyOf P kt (ek k) = some l
  inj : ∀ k k', Kok n k → Kok n k' → ek k = ek k' → k = k'
def ekI (k : List Int) : Value := .int .i64 (k.headD 0)
def ekA (k : List Int) : Value := .agg (k.map (Value.int .i64)).toArray
theorem KT.int {P : Program} {kt : TypeId} (h : P.underlying kt = some (.int .i64)) : KT P kt 1 ekI where
  keyed := Maps.int_keyed h
  read := fun k hk => by
    obtain ⟨h1, h2⟩ := hk
    match k, h1 with
    | [x], _ =>
      refine ⟨_, Maps.keyOf_int_mk h ?_⟩
      have := h2 x (List.mem_singleton.2 rfl)
      simp [Lit.wf, IntKind.min, IntKind.max, IntKind.signed, IntKind.bits]; omega
  inj := fun k k' hk hk' e => by
    match k, hk.1, k', hk'.1 with
    | [x], _, [y], _ => simp [ekI] at e; rw [e]
def isI64 (P : Program) (t : TypeId) : Bool := match P.underlying t with | some (.int .i64) => Nat.beq (P.cellsOf t) 1 | _ => false
theorem isI64_spec {P : Program} {t : TypeId} (h : isI64 P t = true) : P.underlying t = some (.int .i64) ∧ P.cellsOf t = 1 := by
  unfold isI64 at h
  split at h
  · rename_i hu; exact ⟨hu, Nat.eq_of_beq_eq_true h⟩
  · cases h
/-- keys of n numbers, one behind the other -/
def keyShape (P : Program) (kt : TypeId) (n : Nat) : Bool :=
  match P.underlying kt with
  | some (.array m e) => isI64 P e && Nat.beq m n && Nat.beq (P.cellsOf kt) n
  | some (.struct fs) => Nat.beq (P.cellsOf kt) n && (fs.all (·.name != "_") && fs.toList.all fun f => isI64 P f.type && Nat.blt f.offset n)
  | _ => false
theorem mapM_some_of {α β : Type} {f : α → Option β} : ∀ (l : List α), (∀ x ∈ l, ∃ y, f x = some y) → ∃ r, l.mapM f = some r
  | [], _ => ⟨[], rfl⟩
  | a :: l, h => by
    obtain ⟨y, hy⟩ := h a (List.mem_cons_self ..)
    obtain ⟨r, hr⟩ := mapM_some_of l fun x hx => h x (List.mem_cons_of_mem _ hx)
    exact ⟨y :: r, by rw [List.mapM_cons, hy, hr]; rfl⟩
theorem keyLits_int {P : Program} {t : TypeId} (h : isI64 P t = true) {d : Nat} {cs : List Value} {x : Int} (hc : cs = [.int .i64 x]) (hx : -9223372036854775808 ≤ x ∧ x ≤ 9223372036854775807) : ∃ y, P.keyLits (d + 1) t cs = some y := by
  obtain ⟨hu, _⟩ := isI64_spec h
  subst hc
  have hw : (Lit.int .i64 x).wf = true := by simp [Lit.wf, IntKind.min, IntKind.max, IntKind.signed, IntKind.bits]; omega
  exact ⟨[.int .i64 x], by simp [Program.keyLits, hu, hw]⟩
theorem keyOf_shape {P : Program} {kt : TypeId} {n : Nat} (hs : keyShape P kt n = true) (hk : P.keyType kt = true) (hsz : Nat.blt 0 P.types.size = true) {k : List Int} (h : Kok n k) : ∃ l, keyOf P kt (ekA k) = some l := by
  obtain ⟨h1, h2⟩ := h
  have hlen : ((k.map (Value.int .i64)).toArray).toList.length = n := by simp [h1]
  have hsz : 0 < P.types.size := Nat.le_of_ble_eq_true hsz
  obtain ⟨m, hm⟩ : ∃ m, P.types.size = m + 1 := ⟨P.types.size - 1, by omega⟩
  have one : ∀ i, i < n → ∃ x, (((k.map (Value.int .i64)).toArray.toList).drop i).take 1 = [.int .i64 x] ∧ (-9223372036854775808 ≤ x ∧ x ≤ 9223372036854775807) := fun i hi => by
    have hi' : i < k.length := by omega
    refine ⟨k[i], ?_, h2 _ (List.getElem_mem hi')⟩
    simp only [List.toList_toArray]
    rw [List.drop_eq_getElem_cons (by simpa using hi')]
    simp
  unfold keyShape at hs
  split at hs
  · rename_i m' e hu
    simp only [Bool.and_eq_true] at hs
    obtain ⟨⟨he, hmn⟩, hc⟩ := hs
    have hmn := Nat.eq_of_beq_eq_true hmn
    have hc := Nat.eq_of_beq_eq_true hc
    subst hmn
    obtain ⟨r, hr⟩ := mapM_some_of (f := fun i => P.keyLits P.types.size e ((((k.map (Value.int .i64)).toArray.toList).drop (i * P.cellsOf e)).take (P.cellsOf e))) (List.range m') fun i hi => by
      obtain ⟨x, hx, hb⟩ := one i (List.mem_range.1 hi)
      rw [(isI64_spec he).2, Nat.mul_one, hm]
      exact keyLits_int he hx hb
    refine ⟨.string (keyBytes r.flatten), ?_⟩
    simp only [keyOf, hu, ekA, hk, Value.formed, hc, Bool.true_and]
    have e1 : ((k.map (Value.int .i64)).toArray.size == m') = true := by simp [h1]
    rw [if_pos e1]
    simp only [Program.keyLits, hu, Value.cells, hlen, hc, if_true, hr, Option.map_some]
  · rename_i fs hu
    simp only [Bool.and_eq_true] at hs
    obtain ⟨hc, hnm, hf⟩ := hs
    have hc := Nat.eq_of_beq_eq_true hc
    obtain ⟨r, hr⟩ := mapM_some_of (f := fun (f : Field) => P.keyLits P.types.size f.type ((((k.map (Value.int .i64)).toArray.toList).drop f.offset).take (P.cellsOf f.type))) fs.toList fun fl hfl => by
      have h3 := List.all_eq_true.1 hf fl hfl
      simp only [Bool.and_eq_true] at h3
      obtain ⟨x, hx, hb⟩ := one fl.offset (Nat.le_of_ble_eq_true h3.2)
      rw [(isI64_spec h3.1).2, hm]
      exact keyLits_int h3.1 hx hb
    refine ⟨.string (keyBytes r.flatten), ?_⟩
    simp only [keyOf, hu, ekA, hk, Value.formed, hc, Bool.true_and]
    have e1 : ((k.map (Value.int .i64)).toArray.size == n) = true := by simp [h1]
    rw [if_pos e1]
    simp only [Program.keyLits, hu, Value.cells, hlen, hc, hnm, and_self, if_true, hr, Option.map_some]
  · cases hs
theorem KT.agg {P : Program} {kt : TypeId} {n : Nat} (hl : laidOutB P = true) (hrow : Nat.blt kt P.types.size = true) (hk : P.keyTypeAt 4 kt = true) (hkt : P.keyType kt = true) (hs : keyShape P kt n = true) : KT P kt n ekA where
  keyed := Maps.Keyed.of_law (deep_law_laid hl (m := 4) (by omega) (Nat.le_of_ble_eq_true hrow) hk (by
    unfold keyShape at hs
    split at hs
    · rename_i hu; rw [hu]
    · rename_i hu; rw [hu]
    · cases hs))
  read := fun k h => keyOf_shape hs hkt (Nat.ble_eq_true_of_le (by have := Nat.le_of_ble_eq_true hrow; omega)) h
  inj := fun k k' _ _ e => by
    have e := congrArg Array.toList (Value.agg.inj e)
    have key : ∀ (a b : List Int), a.map (Value.int .i64) = b.map (Value.int .i64) → a = b := by
      intro a
      induction a with
      | nil => intro b h; cases b with
        | nil => rfl
        | cons _ _ => simp at h
      | cons x a ih => intro b h; cases b with
        | nil => simp at h
        | cons y b => simp only [List.map_cons, List.cons.injEq, Value.int.injEq, true_and] at h; rw [h.1, ih b h.2]
    exact key _ _ e

structure MR (n : Nat) (ek : List Int → Value) (m : Mp) (es : Array MapEntry) (ck : Nat) : Prop where
  st : MapKept.Stamped es ck
  mem : ∀ p ∈ m, ∃ e ∈ es.toList, e.key = ek p.1 ∧ e.val = .int .i64 p.2
  mem' : ∀ e ∈ es.toList, ∃ p ∈ m, e.key = ek p.1 ∧ e.val = .int .i64 p.2
  len : es.size = m.length
  srt : Srt m
  okk : ∀ p ∈ m, Kok n p.1

section
variable {P : Program} {kt : TypeId} {n : Nat} {ek : List Int → Value} {m : Mp} {es : Array MapEntry} {ck : Nat}
theorem MR.empty : MR n ek [] #[] 0 := ⟨MapKept.stamped_empty 0, by simp, by simp, rfl, List.Pairwise.nil, by simp⟩
theorem MR.keys (h : MR n ek m es ck) (K : KT P kt n ek) : ∀ e ∈ es.toList, ∃ l, keyOf P kt e.key = some l := fun e he => by
  obtain ⟨p, hp, h1, _⟩ := h.mem' e he
  obtain ⟨l, hl⟩ := K.read p.1 (h.okk p hp)
  exact ⟨l, by rw [h1]; exact hl⟩
/-- is the key there? -/
theorem MR.find (h : MR n ek m es ck) (K : KT P kt n ek) {k : List Int} (hk : Kok n k) (w : World) :
    ((Instr.findKey kt (ek k) es.toList).run P w = .ok none w ∧ (∀ p ∈ m, p.1 ≠ k) ∧ ∀ e ∈ es.toList, e.key ≠ ek k) ∨
    ∃ j e v, (Instr.findKey kt (ek k) es.toList).run P w = .ok (some (j, .int .i64 v)) w ∧ es.toList[j]? = some e ∧ e.key = ek k ∧ e.val = .int .i64 v ∧ (k, v) ∈ m := by
  obtain ⟨l, hl⟩ := K.read k hk
  rcases K.keyed.find w hl es.toList (h.keys K) with ⟨h1, h2⟩ | ⟨j, e, h1, h2, h3⟩
  · refine .inl ⟨h1, fun p hp e => ?_, h2⟩
    obtain ⟨x, hx, hx1, _⟩ := h.mem p hp
    exact h2 x hx (by rw [hx1, e])
  · obtain ⟨p, hp, hp1, hp2⟩ := h.mem' e (List.mem_of_getElem? h2)
    have hpk : p.1 = k := K.inj _ _ (h.okk p hp) hk (by rw [← hp1, h3])
    refine .inr ⟨j, e, p.2, ?_, h2, h3, hp2, ?_⟩
    · rw [h1, hp2]
    · rw [← hpk]; exact hp
theorem MR.check (K : KT P kt n ek) {k : List Int} (hk : Kok n k) (em : Bool) (w : World) : (Instr.checkKey em 10000 kt (ek k)).run P w = .ok () w := by
  obtain ⟨l, hl⟩ := K.read k hk
  exact K.keyed.check w em hl
theorem MR.stays (K : KT P kt n ek) {k : List Int} (hk : Kok n k) (w : World) : (Instr.keyThatStays (ek k) (ek k)).run P w = .ok (ek k) w := by
  obtain ⟨l, hl⟩ := K.read k hk
  exact K.keyed.stays w hl

/-- an entry's value is written -/
theorem MR.set (h : MR n ek m es ck) (K : KT P kt n ek) {k : List Int} (hk : Kok n k) {j : Nat} {e0 : MapEntry} (hj : es.toList[j]? = some e0) (he : e0.key = ek k) (v : Int) (g : MapEntry → MapEntry) (hg : g e0 = ⟨ek k, .int .i64 v, e0.born⟩) (hgb : ∀ e ∈ es.toList, (g e).born = e.born) :
    MR n ek (mput m k v) (es.modify j g) ck := by
  have hmem0 := List.mem_of_getElem? hj
  have hjl := (List.getElem?_eq_some_iff.1 hj).1
  have hja : es[j]? = some e0 := by simpa using hj
  obtain ⟨p0, hp0, hp01, _⟩ := h.mem' e0 hmem0
  have hp0k : p0.1 = k := K.inj _ _ (h.okk p0 hp0) hk (by rw [← hp01, he])
  have hst := (MapKept.stamped_iff es ck).1 h.st
  have hto : (es.modify j g).toList = es.toList.set j ⟨ek k, .int .i64 v, e0.born⟩ := by
    rw [Array.toList_modify, List.modify_eq_set]
    simp [hj, hg]
  have hother : ∀ i e, es.toList[i]? = some e → i ≠ j → e.key ≠ ek k := fun i e hi hne hek => by
    have hp := hst.2.2
    obtain ⟨hil, hi2⟩ := List.getElem?_eq_some_iff.1 hi
    obtain ⟨hjl, hj2⟩ := List.getElem?_eq_some_iff.1 hj
    rcases Nat.lt_or_gt_of_ne hne with hlt | hgt
    · exact List.pairwise_iff_getElem.1 hp i j hil hjl hlt (by rw [hi2, hj2, hek, he])
    · exact List.pairwise_iff_getElem.1 hp j i hjl hil hgt (by rw [hi2, hj2, hek, he])
  refine ⟨MapKept.stamped_modify h.st j g hgb fun e he' hje => ?_, fun p hp => ?_, fun e he' => ?_, ?_, srt_mput h.srt, fun p hp => ?_⟩
  · rw [hja] at hje
    cases hje
    rw [hg, he]
  · rcases (mem_mput h.srt).1 hp with rfl | ⟨hp, hne⟩
    · refine ⟨⟨ek k, .int .i64 v, e0.born⟩, ?_, rfl, rfl⟩
      rw [hto]
      exact List.mem_of_getElem? (i := j) (by rw [List.getElem?_set, if_pos rfl, if_pos hjl])
    · obtain ⟨x, hx, hx1, hx2⟩ := h.mem p hp
      refine ⟨x, ?_, hx1, hx2⟩
      obtain ⟨i, hi⟩ := List.mem_iff_getElem?.1 hx
      have hij : i ≠ j := fun e => by
        subst e
        rw [hj] at hi
        cases hi
        exact hne (K.inj _ _ (h.okk p hp) hk (by rw [← hx1, he]))
      rw [hto]
      exact List.mem_of_getElem? (i := i) (by rw [List.getElem?_set_ne (Ne.symm hij)]; exact hi)
  · rw [hto] at he'
    obtain ⟨i, hi⟩ := List.mem_iff_getElem?.1 he'
    rw [List.getElem?_set] at hi
    by_cases hij : j = i
    · subst hij
      simp only [if_true, hjl] at hi
      cases hi
      exact ⟨(k, v), (mem_mput h.srt).2 (.inl rfl), rfl, rfl⟩
    · rw [if_neg hij] at hi
      obtain ⟨p, hp, hp1, hp2⟩ := h.mem' e (List.mem_of_getElem? hi)
      refine ⟨p, (mem_mput h.srt).2 (.inr ⟨hp, fun e2 => hother i e hi (Ne.symm hij) (by rw [hp1, e2])⟩), hp1, hp2⟩
  · rw [Array.size_modify, h.len, length_mput h.srt, if_pos]
    exact mhas_iff.2 ⟨p0.2, by rw [← hp0k]; exact hp0⟩
  · rcases (mem_mput h.srt).1 hp with rfl | ⟨hp, _⟩
    · exact hk
    · exact h.okk p hp
/-- a new entry -/
theorem MR.push (h : MR n ek m es ck) {k : List Int} (hk : Kok n k) (hno : ∀ p ∈ m, p.1 ≠ k) (hne : ∀ e ∈ es.toList, e.key ≠ ek k) (v : Int) : MR n ek (mput m k v) (es.push ⟨ek k, .int .i64 v, ck⟩) (ck + 1) := by
  refine ⟨MapKept.stamped_push h.st hne, fun p hp => ?_, fun e he => ?_, ?_, srt_mput h.srt, fun p hp => ?_⟩
  · rcases (mem_mput h.srt).1 hp with rfl | ⟨hp, _⟩
    · exact ⟨⟨ek k, .int .i64 v, ck⟩, by simp, rfl, rfl⟩
    · obtain ⟨x, hx, hx1, hx2⟩ := h.mem p hp
      exact ⟨x, by simp [Array.mem_toList_iff.1 hx], hx1, hx2⟩
  · simp only [Array.toList_push, List.mem_append, List.mem_singleton] at he
    rcases he with he | rfl
    · obtain ⟨p, hp, hp1, hp2⟩ := h.mem' e he
      exact ⟨p, (mem_mput h.srt).2 (.inr ⟨hp, hno p hp⟩), hp1, hp2⟩
    · exact ⟨(k, v), (mem_mput h.srt).2 (.inl rfl), rfl, rfl⟩
  · rw [Array.size_push, h.len, length_mput h.srt, if_neg]
    intro hh
    obtain ⟨u, hu⟩ := mhas_iff.1 hh
    exact hno _ hu rfl
  · rcases (mem_mput h.srt).1 hp with rfl | ⟨hp, _⟩
    · exact hk
    · exact h.okk p hp
/-- an entry is gone -/
theorem MR.erase (h : MR n ek m es ck) (K : KT P kt n ek) {k : List Int} (hk : Kok n k) {j : Nat} {e0 : MapEntry} (hj : es.toList[j]? = some e0) (he : e0.key = ek k) : MR n ek (mdel m k) (es.eraseIdxIfInBounds j) ck := by
  have hjl := (List.getElem?_eq_some_iff.1 hj).1
  have hjs : j < es.size := by simpa using hjl
  have hto : (es.eraseIdxIfInBounds j).toList = es.toList.eraseIdx j := by
    unfold Array.eraseIdxIfInBounds
    rw [dif_pos hjs]
    simp
  obtain ⟨p0, hp0, hp01, _⟩ := h.mem' e0 (List.mem_of_getElem? hj)
  have hp0k : p0.1 = k := K.inj _ _ (h.okk p0 hp0) hk (by rw [← hp01, he])
  have hst := (MapKept.stamped_iff es ck).1 h.st
  have hother : ∀ i e, es.toList[i]? = some e → i ≠ j → e.key ≠ ek k := fun i e hi hne hek => by
    have hp := hst.2.2
    obtain ⟨hil, hi2⟩ := List.getElem?_eq_some_iff.1 hi
    obtain ⟨hjl, hj2⟩ := List.getElem?_eq_some_iff.1 hj
    rcases Nat.lt_or_gt_of_ne hne with hlt | hgt
    · exact List.pairwise_iff_getElem.1 hp i j hil hjl hlt (by rw [hi2, hj2, hek, he])
    · exact List.pairwise_iff_getElem.1 hp j i hjl hil hgt (by rw [hi2, hj2, hek, he])
  refine ⟨MapKept.stamped_erase h.st j, fun p hp => ?_, fun e he' => ?_, ?_, srt_mdel h.srt, fun p hp => h.okk p (mem_mdel.1 hp).1⟩
  · obtain ⟨hp, hne⟩ := mem_mdel.1 hp
    obtain ⟨x, hx, hx1, hx2⟩ := h.mem p hp
    refine ⟨x, ?_, hx1, hx2⟩
    obtain ⟨i, hi⟩ := List.mem_iff_getElem?.1 hx
    have hij : i ≠ j := fun e => by
      subst e
      rw [hj] at hi
      cases hi
      exact hne (K.inj _ _ (h.okk p hp) hk (by rw [← hx1, he]))
    rw [hto]
    exact List.mem_eraseIdx_iff_getElem?.2 ⟨i, hij, hi⟩
  · rw [hto] at he'
    obtain ⟨i, hij, hi⟩ := List.mem_eraseIdx_iff_getElem?.1 he'
    obtain ⟨p, hp, hp1, hp2⟩ := h.mem' e (List.mem_of_getElem? hi)
    exact ⟨p, mem_mdel.2 ⟨hp, fun e2 => hother i e hi hij (by rw [hp1, e2])⟩, hp1, hp2⟩
  · have h1 : (es.eraseIdxIfInBounds j).size + 1 = es.size := by
      have : (es.eraseIdxIfInBounds j).toList.length = (es.eraseIdxIfInBounds j).size := Array.length_toList
      rw [← this, hto, List.length_eraseIdx_of_lt hjl]
      simp only [Array.length_toList]
      omega
    have hfl : ∀ (l : Mp), l.Nodup → p0 ∈ l → (∀ q ∈ l, q.1 = k → q = p0) → (l.filter fun p => !(p.1 == k)).length + 1 = l.length := by
      intro l
      induction l with
      | nil => intro _ hh _; cases hh
      | cons a r ih =>
        intro hn hm hu
        obtain ⟨n1, n2⟩ := List.nodup_cons.1 hn
        by_cases ha : a.1 = k
        · have ea := hu a (List.mem_cons_self ..) ha
          subst ea
          have hr : r.filter (fun p => !(p.1 == k)) = r := List.filter_eq_self.2 fun q hq => by
            have : q.1 ≠ k := fun e => n1 (by have := hu q (List.mem_cons_of_mem _ hq) e; rw [← this]; exact hq)
            simpa using this
          rw [List.filter_cons_of_neg (by simp [ha]), hr]
          rfl
        · rcases List.mem_cons.1 hm with e | hm
          · exact absurd (by rw [← e]; exact hp0k) ha
          · rw [List.filter_cons_of_pos (by simp [ha]), List.length_cons, List.length_cons, ih n2 hm fun q hq => hu q (List.mem_cons_of_mem _ hq)]
    have h2 := hfl m (srt_nodup h.srt) hp0 fun q hq e => srt_inj h.srt hq hp0 (by rw [e, hp0k])
    have h3 := h.len
    simp only [mdel]
    omega

/-! ### the operations -/
variable {w : World} {b : Nat}
theorem run_lookupM {t e : TypeId} {i : TypeInfo} (h : MR n ek m es ck) (K : KT P kt n ek) (ht : P.underlying t = some (.map kt e)) (hi : P.info? e = some i) (hz : i.zero = some (.int .i64 0)) (hb : w.heap[b]? = some (.map es ck)) {k : List Int} (hk : Kok n k) :
    (Instr.lookup t (.map (some b)) (ek k) false).run P w = .ok (.int .i64 (mget m k)) w := by
  rcases h.find K hk w with ⟨h1, h2, _⟩ | ⟨j, e0, v, h1, _, _, _, h5⟩
  · simp [Instr.lookup, run_underlying ht, MapKept.run_getObj_map hb, MR.check K hk, h1, zeroValue, typeInfo, hi, hz, mget_of_not h2]
  · simp [Instr.lookup, run_underlying ht, MapKept.run_getObj_map hb, MR.check K hk, h1, mget_of_mem h.srt h5]
theorem run_updateM {t e : TypeId} (h : MR n ek m es ck) (K : KT P kt n ek) (ht : P.underlying t = some (.map kt e)) (hb : w.heap[b]? = some (.map es ck)) {k : List Int} (hk : Kok n k) (v : Int) :
    ∃ es' ck', (Instr.mapUpdate t (.map (some b)) (ek k) (.int .i64 v)).run P w = .ok () (w.putObj b (.map es' ck')) ∧ MR n ek (mput m k v) es' ck' := by
  rcases h.find K hk w with ⟨h1, h2, h3⟩ | ⟨j, e0, v0, h1, h4, h5, h6, h7⟩
  · refine ⟨_, _, ?_, h.push hk h2 h3 v⟩
    simp [Instr.mapUpdate, run_underlying ht, MapKept.run_getObj_map hb, MR.check K hk, h1, MapKept.run_setObj_map _ hb, World.putObj]
  · have hja : es[j]? = some e0 := by simpa using h4
    refine ⟨_, _, ?_, h.set K hk h4 h5 v (fun e => { e with key := ek k, val := .int .i64 v }) rfl (fun _ _ => rfl)⟩
    simp [Instr.mapUpdate, run_underlying ht, MapKept.run_getObj_map hb, MR.check K hk, h1, hja, h5, MR.stays K hk, MapKept.run_setObj_map _ hb, World.putObj]
/-- the entry of a key, to be written next -/
def EAt (es : Array MapEntry) (st : Int) (key : Value) : Prop := ∃ (j : Nat) (e : MapEntry), es.toList[j]? = some e ∧ (e.born : Int) = st ∧ e.key = key
theorem run_entryM {t e : TypeId} {i : TypeInfo} (h : MR n ek m es ck) (K : KT P kt n ek) (ht : P.underlying t = some (.map kt e)) (hi : P.info? e = some i) (hz : i.zero = some (.int .i64 0)) (hb : w.heap[b]? = some (.map es ck)) {k : List Int} (hk : Kok n k) :
    ∃ es' ck' st, (Instr.mapEntry t (.map (some b)) (ek k)).run P w = .ok (.tuple #[.int .i64 (mget m k), goInt st]) (w.putObj b (.map es' ck')) ∧ MR n ek (mput m k (mget m k)) es' ck' ∧ EAt es' st (ek k) := by
  rcases h.find K hk w with ⟨h1, h2, h3⟩ | ⟨j, e0, v0, h1, h4, h5, h6, h7⟩
  · refine ⟨_, _, ck, ?_, h.push hk h2 h3 _, es.size, ⟨ek k, .int .i64 (mget m k), ck⟩, by simp, rfl, rfl⟩
    simp [Instr.mapEntry, run_underlying ht, MapKept.run_getObj_map hb, MR.check K hk, h1, zeroValue, typeInfo, hi, hz, MapKept.run_setObj_map _ hb, World.putObj, mget_of_not h2]
  · have hja : es[j]? = some e0 := by simpa using h4
    have hmg := mget_of_mem h.srt h7
    refine ⟨_, _, e0.born, ?_, h.set K hk h4 h5 _ (fun e => { e with key := ek k }) (by cases e0; simp only at h5 h6; rw [h6, hmg]) (fun _ _ => rfl), j, ⟨ek k, e0.val, e0.born⟩, ?_, rfl, rfl⟩
    · simp [Instr.mapEntry, run_underlying ht, MapKept.run_getObj_map hb, MR.check K hk, h1, hja, h5, MR.stays K hk, MapKept.run_setObj_map _ hb, World.putObj, hmg]
    · rw [Array.toList_modify, List.getElem?_modify]
      simp [h4]
theorem run_storeM {t : TypeId} (h : MR n ek m es ck) (K : KT P kt n ek) (hb : w.heap[b]? = some (.map es ck)) {k : List Int} (hk : Kok n k) {st : Int} (he : EAt es st (ek k)) (v : Int) :
    ∃ es', (Instr.entryStore t (.map (some b)) (goInt st) (.int .i64 v)).run P w = .ok () (w.putObj b (.map es' ck)) ∧ MR n ek (mput m k v) es' ck := by
  obtain ⟨j, e, h1, h2, h3⟩ := he
  have hst := (MapKept.stamped_iff es ck).1 h.st
  have hja : es[j]? = some e := by simpa using h1
  have hjl := (List.getElem?_eq_some_iff.1 h1).1
  have hf : es.findIdx? (fun e => (e.born : Int) == st) = some j := by
    rw [Array.findIdx?_eq_some_iff_getElem]
    refine ⟨by simpa using hjl, ?_, fun i hi => ?_⟩
    · have := (Array.getElem?_eq_some_iff.1 hja).2
      rw [this]; simp [h2]
    · have hil : i < es.toList.length := by omega
      have hnd := hst.2.1
      have := List.pairwise_iff_getElem.1 hnd i j (by simpa using hil) (by simpa using hjl) hi
      simp only [List.getElem_map] at this
      have e2 := (List.getElem?_eq_some_iff.1 h1).2
      rw [e2] at this
      simp only [Array.getElem_toList] at this
      simp only [beq_iff_eq]
      intro e3
      omega
  refine ⟨_, ?_, h.set K hk h1 h3 v (fun e => { e with val := .int .i64 v }) (by cases e; simp only at h3; rw [h3]) (fun _ _ => rfl)⟩
  simp [Instr.entryStore, MapKept.run_getObj_map hb, asInt, asIntOf, goInt, hf, MapKept.run_setObj_map _ hb, World.putObj]
theorem run_deleteM {t e ty : TypeId} (h : MR n ek m es ck) (K : KT P kt n ek) (ht : P.underlying t = some (.map kt e)) (hb : w.heap[b]? = some (.map es ck)) {k : List Int} (hk : Kok n k) :
    ∃ es', (Builtin.delete_ #[t, kt] ty #[.map (some b), ek k]).run P w = .ok (.tuple #[]) (w.putObj b (.map es' ck)) ∧ MR n ek (mdel m k) es' ck ∧ es'.toList.Sublist es.toList ∧ (∀ x ∈ es.toList, x.key ≠ ek k → x ∈ es'.toList) ∧ ∀ x ∈ es'.toList, x.key ≠ ek k := by
  rcases h.find K hk w with ⟨h1, h2, h3⟩ | ⟨j, e0, v0, h1, h4, h5, h6, h7⟩
  · refine ⟨es, ?_, ?_, List.Sublist.refl _, fun x hx _ => hx, h3⟩
    · simp [Builtin.delete_, run_underlying ht, MapKept.run_getObj_map hb, MR.check K hk, h1, MapKept.run_setObj_map _ hb, World.putObj]
    · have : mdel m k = m := List.filter_eq_self.2 fun p hp => by simpa using h2 p hp
      rw [this]; exact h
  · have hjl := (List.getElem?_eq_some_iff.1 h4).1
    have hto : (es.eraseIdxIfInBounds j).toList = es.toList.eraseIdx j := by
      unfold Array.eraseIdxIfInBounds
      rw [dif_pos (by simpa using hjl)]
      simp
    refine ⟨_, ?_, h.erase K hk h4 h5, by rw [hto]; exact List.eraseIdx_sublist .., fun x hx hne => ?_, fun x hx => ?_⟩
    · simp [Builtin.delete_, run_underlying ht, MapKept.run_getObj_map hb, MR.check K hk, h1, MapKept.run_setObj_map _ hb, World.putObj]
    · rw [hto]
      obtain ⟨i, hi⟩ := List.mem_iff_getElem?.1 hx
      refine List.mem_eraseIdx_iff_getElem?.2 ⟨i, fun e => hne ?_, hi⟩
      subst e
      rw [h4] at hi
      cases hi
      exact h5
    · rw [hto] at hx
      obtain ⟨i, hij, hi⟩ := List.mem_eraseIdx_iff_getElem?.1 hx
      have hp := ((MapKept.stamped_iff es ck).1 h.st).2.2
      obtain ⟨hil, hi2⟩ := List.getElem?_eq_some_iff.1 hi
      obtain ⟨hjl, hj2⟩ := List.getElem?_eq_some_iff.1 h4
      intro hek
      rcases Nat.lt_or_gt_of_ne hij with hlt | hgt
      · exact List.pairwise_iff_getElem.1 hp i j hil hjl hlt (by rw [hi2, hj2, hek, h5])
      · exact List.pairwise_iff_getElem.1 hp j i hjl hil hgt (by rw [hi2, hj2, hek, h5])
end
end Go.Dec
end
section
namespace Go.Dec
open Go Go.RowKit

/-- facts on a map type: key, element, an element's zero -/
def mpT (P : Program) (t : TypeId) : Option (TypeId × TypeId) :=
  match P.underlying t with
  | some (.map k e) => (match P.info? e with | some i => (match i.zero with | some (.int .i64 0) => some (k, e) | _ => none) | none => none)
  | _ => none
theorem mpT_spec {P : Program} {t k e : TypeId} (h : mpT P t = some (k, e)) : ∃ i, P.underlying t = some (.map k e) ∧ P.info? e = some i ∧ i.zero = some (.int .i64 0) := by
  unfold mpT at h
  split at h
  · rename_i k' e' hu
    split at h
    · rename_i i hi
      split at h
      · rename_i hz
        simp only [Option.some.injEq, Prod.mk.injEq] at h
        obtain ⟨rfl, rfl⟩ := h
        exact ⟨i, hu, hi, hz⟩
      · cases h
    · cases h
  · cases h

/-- a map as data -/
def MD (n : Nat) (ek : List Int → Value) (H : Hp) (v : Value) (m : Mp) : Prop := (v = .map none ∧ m = []) ∨ ∃ b es ck, v = .map (some b) ∧ H b = some (.map es ck) ∧ MR n ek m es ck
theorem MD.mono {n : Nat} {ek : List Int → Value} {H H' : Hp} (h : HSub H H') {v : Value} {m : Mp} (hm : MD n ek H v m) : MD n ek H' v m :=
  hm.imp id fun ⟨b, es, ck, h1, h2, h3⟩ => ⟨b, es, ck, h1, h.le _ _ h2, h3⟩
theorem MD.nil {n : Nat} {ek : List Int → Value} {H : Hp} : MD n ek H (.map none) [] := .inl ⟨rfl, rfl⟩
theorem MD.one {n : Nat} {ek : List Int → Value} {H : Hp} {v : Value} {m : Mp} (h : MD n ek H v m) : v.oneCell' = true := by
  rcases h with ⟨rfl, _⟩ | ⟨b, es, ck, rfl, _⟩ <;> rfl
theorem MD.vc {n : Nat} {ek : List Int → Value} {H : Hp} {v : Value} {m : Mp} (h : MD n ek H v m) : vcells v = [v] := by
  rcases h with ⟨rfl, _⟩ | ⟨b, es, ck, rfl, _⟩ <;> rfl

section
variable {q : Md} {P : Program} {ro : Option Nat} {N : Nat} {ds : List Deferred} {B : Bs} {H : Hp} {ops : List Oper} {Q : Exit → Act → World → Prop} {rest : List Oper} {f : Nat → Value} {bs : List (Nat × Obj)} {gs : List GS}
variable {d : Nat} {t : TypeId} {p : String} {af : Array Edge} {g : Option (Nat × Bool)} {kt : TypeId} {n : Nat} {ek : List Int → Value} {m : Mp} {es : Array MapEntry} {ck : Nat}

theorem JL.makeMap {t' : TypeId} (hw : Want ops f g) (hd : Nat.blt d N = true)
    (h : ∀ b, JL .plain P N ds B H ops Q rest (upd f d (.map (some b))) ((b, .map #[] 0) :: bs) gs) : JL .plain P N ds B H ops Q (⟨some d, .makeMap t' none, t, p, af, g⟩ :: rest) f bs gs :=
  .step hw fun a w ha hs => by
    unfold Oper.wp
    have hr : (execOp (ev f) ⟨some d, .makeMap t' none, t, p, af, g⟩).run P w = .ok (.value (.map (some w.heap.size))) (w.alloc (.map #[] 0)) := by
      simp [execOp, Instr.makeMap]
    rw [ha.eval, hr]
    exact h _ _ _ (ha.put hd _) (hs.alloc _)
/-- where the map lies: in an own block, or in the data -/
inductive MAt (H : Hp) (bs : List (Nat × Obj)) (b : Nat) (o : Obj) : Prop
  | own (i : Nat) (hi : bs[i]? = some (b, o))
  | data (h : H b = some o)
theorem MAt.at {b : Nat} {o : Obj} (h : MAt H bs b o) {w : World} (hs : St B H bs gs w) : w.heap[b]? = some o := by
  cases h with
  | own i hi => exact (hs.own _ (List.mem_of_getElem? hi)).1
  | data h => exact hs.hle.le _ _ h
theorem JL.lookupM {t' e : TypeId} {x ix : Operand} {b : Nat} {k : List Int} (ht : mpT P t' = some (kt, e)) (K : KT P kt n ek) (hx : ev f x = .map (some b)) (hb : MAt H bs b (.map es ck)) (hm : MR n ek m es ck) (hi : ev f ix = ek k) {u : Unit} (hk : kok n k = some u) (hw : Want ops f g) (hd : Nat.blt d N = true)
    (h : JL q P N ds B H ops Q rest (upd f d (.int .i64 (mget m k))) bs gs) : JL q P N ds B H ops Q (⟨some d, .lookup t' x ix false, t, p, af, g⟩ :: rest) f bs gs :=
  .val hw hd (fun w hs => by
    obtain ⟨i, h1, h2, h3⟩ := mpT_spec ht
    have := run_lookupM hm K h1 h2 h3 (hb.at hs) (kok_some hk)
    simp [execOp, hx, hi, this]) h
theorem JL.lookupMv {t' e : TypeId} {x ix : Operand} {b : Nat} {k : List Int} {v : Int} (ht : mpT P t' = some (kt, e)) (K : KT P kt n ek) (hx : ev f x = .map (some b)) (hb : MAt H bs b (.map es ck)) (hm : MR n ek m es ck) (hi : ev f ix = ek k) {u : Unit} (hk : kok n k = some u) (hv : mget m k = v) (hw : Want ops f g) (hd : Nat.blt d N = true)
    (h : JL q P N ds B H ops Q rest (upd f d (.int .i64 v)) bs gs) : JL q P N ds B H ops Q (⟨some d, .lookup t' x ix false, t, p, af, g⟩ :: rest) f bs gs := JL.lookupM ht K hx hb hm hi hk hw hd (by rw [hv]; exact h)
theorem JL.lenM {t' e : TypeId} {x : Operand} {b : Nat} (ht : mpT P t' = some (kt, e)) (hx : ev f x = .map (some b)) (hb : MAt H bs b (.map es ck)) (hm : MR n ek m es ck) (hw : Want ops f g) (hd : Nat.blt d N = true)
    (h : JL q P N ds B H ops Q rest (upd f d (.int .i64 (m.length : Nat))) bs gs) : JL q P N ds B H ops Q (⟨some d, .call ⟨.builtin .len, #[x], #[t']⟩, t, p, af, g⟩ :: rest) f bs gs :=
  .val hw hd (fun w hs => by
    obtain ⟨i, h1, h2, h3⟩ := mpT_spec ht
    have hb := hb.at hs
    simp [execOp, resolve, invoke, builtin, Builtin.len_, hx, run_underlying h1, MapKept.run_getObj_map hb, goInt, hm.len]) h
theorem JL.updateM {od : Option Nat} {t' e : TypeId} {x ix y : Operand} (i : Nat) {b : Nat} {k : List Int} {v : Int} (ht : mpT P t' = some (kt, e)) (K : KT P kt n ek) (hx : ev f x = .map (some b)) (hb : bs[i]? = some (b, .map es ck)) (hm : MR n ek m es ck) (hi : ev f ix = ek k) {u : Unit} (hk : kok n k = some u) (hy : ev f y = .int .i64 v) (hw : Want ops f g) (hd : od = none)
    (h : ∀ es' ck', MR n ek (mput m k v) es' ck' → JL .plain P N ds B H ops Q rest f (bs.set i (b, .map es' ck')) gs) : JL .plain P N ds B H ops Q (⟨od, .mapUpdate t' x ix y, t, p, af, g⟩ :: rest) f bs gs :=
  .step hw fun a w ha hs => by
    obtain ⟨_, h1, _, _⟩ := mpT_spec ht
    obtain ⟨es', ck', hr, hm'⟩ := run_updateM hm K h1 (hs.own _ (List.mem_of_getElem? hb)).1 (kok_some hk) v
    unfold Oper.wp
    subst hd
    have hr2 : (execOp (ev f) ⟨none, .mapUpdate t' x ix y, t, p, af, g⟩).run P w = .ok .skip (w.putObj b (.map es' ck')) := by
      simp [execOp, hx, hi, hy, hr]
    rw [ha.eval, hr2]
    exact h es' ck' hm' a _ ha (hs.put _ hb)
theorem JL.entryM {t' e : TypeId} {x ix : Operand} (i : Nat) {b : Nat} {k : List Int} (ht : mpT P t' = some (kt, e)) (K : KT P kt n ek) (hx : ev f x = .map (some b)) (hb : bs[i]? = some (b, .map es ck)) (hm : MR n ek m es ck) (hi : ev f ix = ek k) {u : Unit} (hk : kok n k = some u) (hw : Want ops f g) (hd : Nat.blt d N = true)
    (h : ∀ es' ck' st, MR n ek (mput m k (mget m k)) es' ck' → EAt es' st (ek k) → JL .plain P N ds B H ops Q rest (upd f d (.tuple [.int .i64 (mget m k), .int .i64 st].toArray)) (bs.set i (b, .map es' ck')) gs) : JL .plain P N ds B H ops Q (⟨some d, .mapEntry t' x ix, t, p, af, g⟩ :: rest) f bs gs :=
  .step hw fun a w ha hs => by
    obtain ⟨_, h1, h2, h3⟩ := mpT_spec ht
    obtain ⟨es', ck', st, hr, hm', he⟩ := run_entryM hm K h1 h2 h3 (hs.own _ (List.mem_of_getElem? hb)).1 (kok_some hk)
    unfold Oper.wp
    have hr2 : (execOp (ev f) ⟨some d, .mapEntry t' x ix, t, p, af, g⟩).run P w = .ok (.value (.tuple [.int .i64 (mget m k), .int .i64 st].toArray)) (w.putObj b (.map es' ck')) := by
      simp [execOp, hx, hi, hr, goInt]
    rw [ha.eval, hr2]
    exact h es' ck' st hm' he _ _ (ha.put hd _) (hs.put _ hb)
theorem JL.storeM {od : Option Nat} {t' : TypeId} {x sx y : Operand} (i : Nat) {b : Nat} {k : List Int} {st v : Int} (K : KT P kt n ek) (hx : ev f x = .map (some b)) (hb : bs[i]? = some (b, .map es ck)) (hm : MR n ek m es ck) (hk : Kok n k) (hsx : ev f sx = .int .i64 st) (he : EAt es st (ek k)) (hy : ev f y = .int .i64 v) (hw : Want ops f g) (hd : od = none)
    (h : ∀ es', MR n ek (mput m k v) es' ck → JL .plain P N ds B H ops Q rest f (bs.set i (b, .map es' ck)) gs) : JL .plain P N ds B H ops Q (⟨od, .entryStore t' x sx y, t, p, af, g⟩ :: rest) f bs gs :=
  .step hw fun a w ha hs => by
    obtain ⟨es', hr, hm'⟩ := run_storeM (t := t') hm K (hs.own _ (List.mem_of_getElem? hb)).1 hk he v
    unfold Oper.wp
    subst hd
    have hr2 : (execOp (ev f) ⟨none, .entryStore t' x sx y, t, p, af, g⟩).run P w = .ok .skip (w.putObj b (.map es' ck)) := by
      simp only [goInt] at hr
      simp [execOp, hx, hsx, hy, hr]
    rw [ha.eval, hr2]
    exact h es' hm' a _ ha (hs.put _ hb)

/-! ### a loop over a map -/
/-- what is known while a loop over a map is under way: m0: what lay there at its start, d: what has come -/
structure IR (n : Nat) (ek : List Int → Value) (m0 m : Mp) (es : Array MapEntry) (ck since : Nat) (seen : Array Nat) (c0 : Nat) (d : Mp) : Prop where
  hold : ∀ x ∈ es.toList, x.born < since
  sc : since ≤ c0
  sk : since ≤ ck
  sub : ∀ p ∈ d, p ∈ m0
  nd : d.Nodup
  seen : ∀ e ∈ es.toList, ∀ p ∈ m, e.key = ek p.1 → (p ∈ d ↔ seen.contains e.born = true)
  left : ∀ p ∈ m0, p ∉ d → p ∈ m
  old : ∀ p ∈ m, p ∈ m0
  srt : Srt m0
theorem IR.start (h : MR n ek m es ck) : IR n ek m m es ck ck #[] ck [] := ⟨((MapKept.stamped_iff es ck).1 h.st).1, Nat.le_refl _, Nat.le_refl _, by simp, .nil, by simp, fun _ h _ => h, fun _ h => h, h.srt⟩
theorem IR.drop {m0 : Mp} {since c0 : Nat} {seen : Array Nat} {d : Mp} {es' : Array MapEntry} {x : List Int × Int} (h : IR n ek m0 m es ck since seen c0 d) (hs : es'.toList.Sublist es.toList) (hx : x ∈ d) : IR n ek m0 (mdel m x.1) es' ck since seen c0 d :=
  ⟨fun y hy => h.hold y (hs.subset hy), h.sc, h.sk, h.sub, h.nd, fun e he p hp => h.seen e (hs.subset he) p (mem_mdel.1 hp).1, fun p hp hn => mem_mdel.2 ⟨h.left p hp hn, fun e => hn (by rw [srt_inj h.srt hp (h.sub x hx) e]; exact hx)⟩, fun p hp => h.old p (mem_mdel.1 hp).1, h.srt⟩
theorem JL.rangeM {t' e : TypeId} {x : Operand} {b : Nat} (ht : mpT P t' = some (kt, e)) (hx : ev f x = .map (some b)) (hb : MAt H bs b (.map es ck)) (hm : MR n ek m es ck) (hw : Want ops f g) (hd : Nat.blt d N = true)
    (h : ∀ r since seen c0, IR n ek m m es ck since seen c0 [] → JL .plain P N ds B H ops Q rest (upd f d (.pointer (some ⟨r, 0, none⟩))) ((r, .mapIter (some b) since seen c0) :: bs) gs) : JL .plain P N ds B H ops Q (⟨some d, .range t' x, t, p, af, g⟩ :: rest) f bs gs :=
  .step hw fun a w ha hs => by
    obtain ⟨_, h1, _, _⟩ := mpT_spec ht
    have hb := hb.at hs
    unfold Oper.wp
    have hr : (execOp (ev f) ⟨some d, .range t' x, t, p, af, g⟩).run P w = .ok (.value (.pointer (some ⟨w.heap.size, 0, none⟩))) (w.alloc (.mapIter (some b) ck #[] ck)) := by
      have := run_range_map (P := P) w t' kt e b es ck h1 hb
      simp [execOp, hx, this]
    rw [ha.eval, hr]
    exact h _ _ _ _ (.start hm) _ _ (ha.put hd _) (hs.alloc _)
/-- what the last step has handed out -/
def EN (ek : List Int → Value) (es : Array MapEntry) (ck : Nat) (seen : Array Nat) (c0 : Nat) (x : List Int × Int) : Prop :=
  c0 = ck ∧ ∃ (s : Array Nat) (e : MapEntry), seen = s.push e.born ∧ e ∈ es.toList ∧ e.key = ek x.1 ∧ e.val = .int .i64 x.2
theorem nodup_snoc {d : Mp} {x : List Int × Int} (h : d.Nodup) (hx : x ∉ d) : (d ++ [x]).Nodup := by
  rw [List.nodup_append]
  refine ⟨h, by simp, fun a ha b hb e => ?_⟩
  rw [List.mem_singleton] at hb
  subst hb; subst e
  exact hx ha
theorem JL.nextM {it : Operand} (i : Nat) {r b since c0 : Nat} {seen : Array Nat} {m0 dd : Mp} (K : KT P kt n ek) (hx : ev f it = .pointer (some ⟨r, 0, none⟩)) (hi : bs[i]? = some (r, .mapIter (some b) since seen c0)) (hb : MAt H bs b (.map es ck)) (hm : MR n ek m es ck) (hI : IR n ek m0 m es ck since seen c0 dd) (hw : Want ops f g) (hd : Nat.blt d N = true)
    (hdone : dd.Perm m0 → JL .plain P N ds B H ops Q rest (upd f d (.tuple [.bool false].toArray)) bs gs)
    (hgo : ∀ x seen' c0', x ∈ m0 → x ∈ m → x ∉ dd → IR n ek m0 m es ck since seen' c0' (dd ++ [x]) → EN ek es ck seen' c0' x → JL .plain P N ds B H ops Q rest (upd f d (.tuple [.bool true, ek x.1, .int .i64 x.2].toArray)) (bs.set i (r, .mapIter (some b) since seen' c0')) gs) :
    JL .plain P N ds B H ops Q (⟨some d, .next it false, t, p, af, g⟩ :: rest) f bs gs :=
  .step hw fun a w ha hs => by
    have hbw := hb.at hs
    have hrw := (hs.own _ (List.mem_of_getElem? hi)).1
    unfold Oper.wp
    rw [ha.eval]
    rcases run_next_at (P := P) w t r b since c0 seen es ck hrw hbw hI.hold hI.sc with ⟨h0, hr⟩ | ⟨e, he, w1, hal, hr⟩
    · have hr2 : (execOp (ev f) ⟨some d, .next it false, t, p, af, g⟩).run P w = .ok (.value (.tuple [.bool false].toArray)) w := by
        simp [execOp, hx, hr]
      rw [hr2]
      refine hdone ?_ _ _ (ha.put hd _) hs
      refine (List.perm_ext_iff_of_nodup hI.nd (srt_nodup hI.srt)).2 fun x => ⟨hI.sub x, fun hxm0 => ?_⟩
      by_cases hxd : x ∈ dd
      · exact hxd
      · have hxm := hI.left x hxm0 hxd
        obtain ⟨y, hy, hy1, _⟩ := hm.mem x hxm
        exact (hI.seen y hy x hxm hy1).2 (all_seen es seen h0 y hy)
    · obtain ⟨hem, hes⟩ := mem_left he
      obtain ⟨x, hxm, hx1, hx2⟩ := hm.mem' e hem
      have hxd : x ∉ dd := fun hh => by
        have := (hI.seen e hem x hxm hx1).1 hh
        rw [hes] at this
        cases this
      have hr2 : (execOp (ev f) ⟨some d, .next it false, t, p, af, g⟩).run P w = .ok (.value (.tuple [.bool true, ek x.1, .int .i64 x.2].toArray)) (ChangeMaps.setBlock w1 r (.mapIter (some b) since (seen.push e.born) ck)) := by
        simp [execOp, hx, hr, hx1, hx2]
      rw [hr2]
      have hst := (MapKept.stamped_iff es ck).1 hm.st
      refine hgo x (seen.push e.born) ck (hI.old x hxm) hxm hxd ⟨hI.hold, hI.sk, hI.sk, fun y hy => ?_, nodup_snoc hI.nd hxd, fun y hy z hz hyz => ?_, fun z hz hn => hI.left z hz (fun h => hn (List.mem_append_left _ h)), hI.old, hI.srt⟩ ⟨rfl, seen, e, rfl, hem, hx1, hx2⟩ _ _ (ha.put hd _) ?_
      · rcases List.mem_append.1 hy with hy | hy
        · exact hI.sub y hy
        · rw [List.mem_singleton.1 hy]; exact hI.old x hxm
      · rw [contains_push, List.mem_append, hI.seen y hy z hz hyz, List.mem_singleton]
        constructor
        · rintro (h1 | rfl)
          · rw [h1]; rfl
          · have : y = e := entry_eq_of_key hst.2.2 hy hem (by rw [hyz, hx1])
            subst this; simp
        · intro h1
          simp only [Bool.or_eq_true, beq_iff_eq] at h1
          rcases h1 with h1 | h1
          · exact .inl h1
          · right
            have : y = e := born_inj hst.2.1 hy hem h1
            subst this
            have : z.1 = x.1 := K.inj _ _ (hm.okk z hz) (hm.okk x hxm) (by rw [← hyz, ← hx1])
            exact srt_inj hm.srt hz hxm this
      · have hs1 : St B H bs gs w1 := by
          rcases hal with rfl | rfl
          · exact hs
          · exact hs.drew _
        exact hs1.put _ hi

theorem JL.entryIt {it : Operand} (i : Nat) {r b since c0 : Nat} {seen : Array Nat} {y : List Int × Int} (hx : ev f it = .pointer (some ⟨r, 0, none⟩)) (hi : bs[i]? = some (r, .mapIter (some b) since seen c0)) (hb : MAt H bs b (.map es ck)) (hm : MR n ek m es ck) (hE : EN ek es ck seen c0 y) (hw : Want ops f g) (hd : Nat.blt d N = true)
    (h : JL q P N ds B H ops Q rest (upd f d (.tuple [ek y.1, .int .i64 y.2].toArray)) bs gs) : JL q P N ds B H ops Q (⟨some d, .entry it, t, p, af, g⟩ :: rest) f bs gs :=
  .val hw hd (fun w hs => by
    obtain ⟨rfl, s, e, rfl, he, h1, h2⟩ := hE
    have := run_entry_at (P := P) w r b since s es c0 e (hs.own _ (List.mem_of_getElem? hi)).1 (hb.at hs) he ((MapKept.stamped_iff es c0).1 hm.st).2.1
    simp [execOp, hx, this, h1, h2]) h
theorem JL.insertM {od : Option Nat} {t' e : TypeId} {x ix y : Operand} (i : Nat) {b : Nat} {k : List Int} {v : Int} (ht : mpT P t' = some (kt, e)) (K : KT P kt n ek) (hx : ev f x = .map (some b)) (hb : bs[i]? = some (b, .map es ck)) (hm : MR n ek m es ck) (hi : ev f ix = ek k) {u : Unit} (hk : kok n k = some u) (hy : ev f y = .int .i64 v) (hw : Want ops f g) (hd : od = none)
    (h : ∀ es' ck', MR n ek (mput m k v) es' ck' → JL .plain P N ds B H ops Q rest f (bs.set i (b, .map es' ck')) gs) : JL .plain P N ds B H ops Q (⟨od, .insert t' x ix y, t, p, af, g⟩ :: rest) f bs gs :=
  .step hw fun a w ha hs => by
    obtain ⟨_, h1, _, _⟩ := mpT_spec ht
    obtain ⟨es', ck', hr, hm'⟩ := run_updateM hm K h1 (hs.own _ (List.mem_of_getElem? hb)).1 (kok_some hk) v
    unfold Oper.wp
    subst hd
    have hr2 : (execOp (ev f) ⟨none, .insert t' x ix y, t, p, af, g⟩).run P w = .ok .skip (w.putObj b (.map es' ck')) := by
      simp [execOp, hx, hi, hy, hr]
    rw [ha.eval, hr2]
    exact h es' ck' hm' a _ ha (hs.put _ hb)
theorem JL.deleteM {od : Option Nat} {t' e : TypeId} {x ix : Operand} (i : Nat) {b : Nat} {k : List Int} (ht : mpT P t' = some (kt, e)) (K : KT P kt n ek) (hx : ev f x = .map (some b)) (hb : bs[i]? = some (b, .map es ck)) (hm : MR n ek m es ck) (hi : ev f ix = ek k) (hk : Kok n k) (hw : Want ops f g) (hd : od = none)
    (h : ∀ es', MR n ek (mdel m k) es' ck → es'.toList.Sublist es.toList → JL .plain P N ds B H ops Q rest f (bs.set i (b, .map es' ck)) gs) : JL .plain P N ds B H ops Q (⟨od, .call ⟨.builtin .delete, #[x, ix], #[t', kt]⟩, t, p, af, g⟩ :: rest) f bs gs :=
  .step hw fun a w ha hs => by
    obtain ⟨_, h1, _, _⟩ := mpT_spec ht
    obtain ⟨es', hr, hm', hsub, _⟩ := run_deleteM (ty := t) hm K h1 (hs.own _ (List.mem_of_getElem? hb)).1 hk
    unfold Oper.wp
    subst hd
    have hr2 : (execOp (ev f) ⟨none, .call ⟨.builtin .delete, #[x, ix], #[t', kt]⟩, t, p, af, g⟩).run P w = .ok (.value (.tuple [].toArray)) (w.putObj b (.map es' ck)) := by
      simp [execOp, resolve, invoke, builtin, hx, hi, hr]
    rw [ha.eval, hr2]
    exact h es' hm' hsub _ _ ha (hs.put _ hb)

/-- the loop's step over a list -/
def foldP {S : Type} (step : S → List Int × Int → Option S) : S → Mp → Option S
  | s, [] => some s
  | s, x :: l => (step s x).bind fun s' => foldP step s' l
theorem foldP_append {S : Type} {step : S → List Int × Int → Option S} : ∀ (l l' : Mp) (s : S), foldP step s (l ++ l') = (foldP step s l).bind fun s' => foldP step s' l'
  | [], _, _ => rfl
  | x :: l, l', s => by
    simp only [List.cons_append, foldP]
    cases step s x with
    | none => rfl
    | some s' => exact foldP_append l l' s'
open Classical in
/-- a loop over a map whose outcome does not hang on the order -/
noncomputable def permO {S : Type} (step : S → List Int × Int → Option S) (s : S) (m : Mp) : Option S :=
  if ∀ l : Mp, l.Perm m → foldP step s l = foldP step s m then foldP step s m else none
theorem permO_all {S : Type} {step : S → List Int × Int → Option S} {s r : S} {m : Mp} (h : permO step s m = some r) {l : Mp} (hl : l.Perm m) : foldP step s l = some r := by
  unfold permO at h
  split at h
  · rename_i hp; rw [hp l hl]; exact h
  · cases h
theorem permO_of {S : Type} {step : S → List Int × Int → Option S} {s r : S} {m : Mp} (h : ∀ l : Mp, l.Perm m → foldP step s l = some r) : permO step s m = some r := by
  unfold permO
  rw [if_pos (fun l hl => by rw [h l hl, h m (List.Perm.refl _)]), h m (List.Perm.refl _)]

abbrev MAsn (S : Type) := Mp → S → Hp → (Nat → Value) → List (Nat × Obj) → List GS → Prop
/-- the next round's start -/
def MNext {S : Type} (N : Nat) (ds : List Deferred) (B : Bs) (m : Mp) (step : S → List Int × Int → Option S) (A : MAsn S) (dd : Mp) (s : S) : Act → World → Prop := fun a w =>
  ∃ x s', x ∈ m ∧ x ∉ dd ∧ step s x = some s' ∧ ∃ H f bs gs, A (dd ++ [x]) s' H f bs gs ∧ Fr N ds a f ∧ St B H bs gs w
theorem JQ.mnext {S : Type} {step : S → List Int × Int → Option S} {A : MAsn S} {dd : Mp} {s s' : S} {x : List Int × Int} (hx : x ∈ m) (hn : x ∉ dd) (hs : step s x = some s') (hA : A (dd ++ [x]) s' H f bs gs) : JQ N ds B H .normal (Exit.then (MNext N ds B m step A dd s) Q) f bs gs :=
  fun _ _ _ ha hst => ⟨x, s', hx, hn, hs, H, f, bs, gs, hA, ha, hst⟩
theorem rest_of {m d : Mp} (hd : d.Nodup) (hm : m.Nodup) (hsub : ∀ x ∈ d, x ∈ m) {x : List Int × Int} (hx : x ∈ m) (hn : x ∉ d) : ∃ l, (d ++ x :: l).Perm m := by
  refine ⟨m.filter fun y => decide (y ∉ d ∧ y ≠ x), (List.perm_ext_iff_of_nodup ?_ hm).2 fun y => ?_⟩
  · rw [List.nodup_append]
    refine ⟨hd, List.nodup_cons.2 ⟨by simp, hm.filter _⟩, fun a ha b hb e => ?_⟩
    subst e
    rcases List.mem_cons.1 hb with rfl | hb
    · exact hn ha
    · have := (List.mem_filter.1 hb).2
      simp only [decide_eq_true_eq] at this
      exact this.1 ha
  · simp only [List.mem_append, List.mem_cons, List.mem_filter, decide_eq_true_eq]
    constructor
    · rintro (h | rfl | h)
      · exact hsub y h
      · exact hx
      · exact h.1
    · intro h
      by_cases h1 : y ∈ d
      · exact .inl h1
      · by_cases h2 : y = x
        · exact .inr (.inl h2)
        · exact .inr (.inr ⟨h, h1, h2⟩)
theorem JC.mapLoop {S : Type} {c : Code} {step : S → List Int × Int → Option S} {s0 r : S} (hm : m.Nodup) (hF : permO step s0 m = some r) (A : MAsn S) (h0 : A [] s0 H f bs gs)
    (body : ∀ dd s H f bs gs, A dd s H f bs gs → (dd.Perm m → s = r) → (∀ x, x ∈ m → x ∉ dd → ∃ s', step s x = some s') → JC P ro N ds B H c (Exit.then (MNext N ds B m step A dd s) Q) f bs gs) : JC P ro N ds B H (.loop c) Q f bs gs := fun hQ a w ha hs => by
  refine wpIn_loop_ind (fun k a w => ∃ dd s H f bs gs, A dd s H f bs gs ∧ foldP step s0 dd = some s ∧ dd.Nodup ∧ (∀ x ∈ dd, x ∈ m) ∧ k = m.length - dd.length ∧ Fr N ds a f ∧ St B H bs gs w) (n := m.length) ⟨[], s0, H, f, bs, gs, h0, rfl, .nil, by simp, by simp, ha, hs⟩ ?_
  rintro k a w ⟨dd, s, H, f, bs, gs, hA, hf, hnd, hsub, hk, ha, hs⟩
  have hgo : ∀ x, x ∈ m → x ∉ dd → ∃ s', step s x = some s' := fun x hx hn => by
    obtain ⟨l, hl⟩ := rest_of hnd hm hsub hx hn
    have := permO_all hF hl
    rw [foldP_append, hf] at this
    simp only [Option.bind_some, foldP] at this
    cases hst : step s x with
    | none => rw [hst] at this; cases this
    | some s' => exact ⟨s', rfl⟩
  refine wpIn_mono (body dd s H f bs gs hA (fun hp => by
    have := permO_all hF hp
    rw [hf] at this
    exact Option.some.inj this) hgo (noOut_then.2 hQ) a w ha hs) ?_
  intro e a' w' hq
  cases e with
  | normal =>
    obtain ⟨x, s', hx, hn, hst, H', f', bs', gs', h1, h2, h3⟩ := hq
    have hlen : (dd ++ [x]).length ≤ m.length := by
      obtain ⟨l, hl⟩ := rest_of hnd hm hsub hx hn
      have := hl.length_eq
      simp at this ⊢
      omega
    refine ⟨m.length - (dd ++ [x]).length, ?_, dd ++ [x], s', H', f', bs', gs', h1, ?_, nodup_snoc hnd hn, fun y hy => ?_, rfl, h2, h3⟩
    · simp at hlen ⊢; omega
    · rw [foldP_append, hf]; simp [foldP, hst]
    · rcases List.mem_append.1 hy with hy | hy
      · exact hsub y hy
      · rw [List.mem_singleton.1 hy]; exact hx
  | _ => exact hq
end
end Go.Dec
end
section
namespace Go.Dec
open Go Go.RowKit

/-! ### arrays of numbers -/
abbrev av (kd : IntKind) (l : List Int) : List Value := l.map (Value.int kd)
theorem av_len {kd : IntKind} {l : List Int} {n : Nat} (h : l.length = n) : (av kd l).length = n := by simpa [av] using h
theorem loadw_arr {kd : IntKind} {l : List Int} {n : Nat} (h : l.length = n) : loadw (true, n) (av kd l) 0 = some (.agg (av kd l).toArray) := by
  subst h
  have e : Nat.ble (0 + l.length) (av kd l).length = true := Nat.ble_eq_true_of_le (by simp [av])
  have e2 : ((av kd l).drop 0).take l.length = av kd l := by simp [av, List.take_of_length_le]
  simp only [loadw, e, cond_true, e2]
theorem av_one {kd : IntKind} {l : List Int} : ∀ u ∈ av kd l, u.oneCell' = true := fun u hu => by
  obtain ⟨x, _, rfl⟩ := List.mem_map.1 hu; rfl
theorem av_get {kd : IntKind} {l : List Int} {i : Int} {y : Int} (h : geti l i = some y) : (av kd l)[i.toNat]? = some (.int kd y) := by
  unfold geti at h
  split at h
  · simp [av, h]
  · cases h
theorem av_set {kd : IntKind} {l : List Int} {i : Int} {y : Int} : (av kd l).set i.toNat (.int kd y) = av kd (setx l i y) := by simp [av, setx, List.map_set]
theorem av_lt {kd : IntKind} {l : List Int} {i : Int} {y : Int} (h : geti l i = some y) : i.toNat < (av kd l).length := by
  unfold geti at h
  split at h
  · have := (List.getElem?_eq_some_iff.1 h).1; simpa [av] using this
  · cases h
theorem setx_length {l : List Int} {i y : Int} {n : Nat} (h : l.length = n) : (setx l i y).length = n := by rw [setx_len]; exact h
theorem putC_all {l cs : List Value} (h : l.length = cs.length) : putC l 0 cs = cs := by
  simp [putC, ← h]

theorem Kok.one {k : List Int} (h : Kok 1 k) : ∃ x, k = [x] := by
  match k, h.1 with
  | [x], _ => exact ⟨x, rfl⟩

section
variable {q : Md} {P : Program} {ro : Option Nat} {N : Nat} {ds : List Deferred} {B : Bs} {H : Hp} {ops : List Oper} {Q : Exit → Act → World → Prop} {rest : List Oper} {f : Nat → Value} {bs : List (Nat × Obj)} {gs : List GS}
variable {d : Nat} {t : TypeId} {p : String} {af : Array Edge} {g : Option (Nat × Bool)}
theorem JL.indexArrP {tx e : TypeId} {x ix : Operand} {k : IntKind} {i y : Int} {b len : Nat} {l : List Int} (ht : arrT P tx = some (e, len)) (hz : aggsz P e = some (false, 1)) (hx : ev f x = .pointer (some ⟨b, 0, none⟩)) (hi : ev f ix = .int k i) (hl : l.length = len) (hy : geti l i = some y) (hw : Want ops f g) (hd : Nat.blt d N = true)
    (h : JL q P N ds B H ops Q rest (upd f d (.pointer (some ⟨b, i.toNat, none⟩))) bs gs) : JL q P N ds B H ops Q (⟨some d, .indexAddr tx x ix, t, p, af, g⟩ :: rest) f bs gs :=
  .val hw hd (fun w _ => by
    obtain ⟨_, h2, _⟩ := run_isAgg_of (w := w) hz
    unfold arrT at ht
    split at ht
    · rename_i n' e' hu
      simp only [Option.some.injEq, Prod.mk.injEq] at ht
      obtain ⟨rfl, rfl⟩ := ht
      unfold geti at hy
      split at hy
      · rename_i h0
        have hlt : i < n' := by have := (List.getElem?_eq_some_iff.1 hy).1; omega
        simp [execOp, hx, hi, Instr.indexAt, asIntOf, run_underlying hu, Instr.sureAddr, h0, hlt, h2, Addr.add_mid]
      · cases hy
    · cases ht) h
theorem JL.loadArr {kd : IntKind} {tx : TypeId} {x : Operand} (i : Nat) {b n : Nat} {l : List Int} {e : TypeId} (hz : aggsz P tx = some (true, n)) (hx : ev f x = .pointer (some ⟨b, 0, none⟩)) (hi : bs[i]? = some (b, .cells (av kd l).toArray e)) (hl : l.length = n) (hw : Want ops f g) (hd : Nat.blt d N = true)
    (h : JL q P N ds B H ops Q rest (upd f d (.agg (av kd l).toArray)) bs gs) : JL q P N ds B H ops Q (⟨some d, .load tx x, t, p, af, g⟩ :: rest) f bs gs :=
  JL.loadOwn i hz hx hi (loadw_arr hl) hw hd h
theorem JL.loadEl {kd : IntKind} {tx : TypeId} {x : Operand} (i : Nat) {b : Nat} {j y : Int} {l : List Int} {e : TypeId} (hz : aggsz P tx = some (false, 1)) (hx : ev f x = .pointer (some ⟨b, j.toNat, none⟩)) (hi : bs[i]? = some (b, .cells (av kd l).toArray e)) (hy : geti l j = some y) (hw : Want ops f g) (hd : Nat.blt d N = true)
    (h : JL q P N ds B H ops Q rest (upd f d (.int kd y)) bs gs) : JL q P N ds B H ops Q (⟨some d, .load tx x, t, p, af, g⟩ :: rest) f bs gs :=
  JL.loadAt i hz hx hi (av_get hy) hw hd h
theorem JL.storeEl {kd : IntKind} {tx e : TypeId} {x y : Operand} (i : Nat) {b : Nat} {j u v : Int} {l : List Int} (hz : aggsz P tx = some (false, 1)) (hx : ev f x = .pointer (some ⟨b, j.toNat, none⟩)) (hv : ev f y = .int kd v) (hi : bs[i]? = some (b, .cells (av kd l).toArray e)) (hy : geti l j = some u) (hw : Want ops f g)
    (h : JL .plain P N ds B H ops Q rest f (bs.set i (b, .cells (av kd (setx l j v)).toArray e)) gs) : JL .plain P N ds B H ops Q (⟨none, .store tx x y, t, p, af, g⟩ :: rest) f bs gs :=
  JL.storeAt i hz hx hv ⟨rfl, rfl⟩ hi (av_lt hy) av_set hw h
theorem JL.storeArr {kd : IntKind} {tx e : TypeId} {x y : Operand} (i : Nat) {b n : Nat} {l l' : List Int} (hz : aggsz P tx = some (true, n)) (hx : ev f x = .pointer (some ⟨b, 0, none⟩)) (hv : ev f y = .agg (av kd l').toArray) (hi : bs[i]? = some (b, .cells (av kd l).toArray e)) (hl : l.length = n) (hl' : l'.length = n) (hw : Want ops f g)
    (h : JL .plain P N ds B H ops Q rest f (bs.set i (b, .cells (av kd l').toArray e)) gs) : JL .plain P N ds B H ops Q (⟨none, .store tx x y, t, p, af, g⟩ :: rest) f bs gs := by
  refine JL.storeOwn i (cs := av kd l') (l := av kd l) hz hx (by rw [hv]; simp [vcells]) (by simpa [av] using hl') av_one hi (Nat.ble_eq_true_of_le (by simp [av, hl])) hw ?_
  rw [putC_all (by simp [av, hl, hl'])]
  exact h

/-! ### own blocks as results -/
def XB (P : Program) (k : Nat) (vs : List Value) (H : Hp) (Res : Hp → Value → List (Nat × Obj) → Prop) : Prop :=
  ∀ w, HLe H w → Calls P k vs.toArray w fun en w' => ∃ H' v bs', en = .returned v ∧ St ⟨w, H⟩ H' bs' [] w' ∧ Res H' v bs'
abbrev RetB (B : Bs) (Res : Hp → Value → List (Nat × Obj) → Prop) : Ending → World → Prop := fun en w' => ∃ H' v bs', en = .returned v ∧ St B H' bs' [] w' ∧ Res H' v bs'
theorem XB.of {k N : Nat} {fn : Func} {c : Code} {vs : List Value} {H : Hp} {Res : Hp → Value → List (Nat × Obj) → Prop} (hf : P.funcs[k]? = some fn) (hN : fn.ntmps = N) (hb : fn.body = some c) (hn : Nat.ble vs.length N = true)
    (h : ∀ w, JC P none N [] ⟨w, H⟩ H c (bodyPost P fn (RetB ⟨w, H⟩ Res)) (frame0 vs) [] []) : XB P k vs H Res := fun w hH => by
  subst hN
  have hn := Nat.le_of_ble_eq_true hn
  exact (callsIn_wide (n := 0)).1 (callsIn_of_wp hf hb trivial (h w (noOut_body (fun w' hq => by obtain ⟨_, _, _, h, _⟩ := hq; cases h) (fun c w' hq => by obtain ⟨_, _, _, h, _⟩ := hq; cases h)) _ w (fr_start hn) (St.start hH)))
theorem JQ.outB {fn : Func} {rs : List ResultVar} {vs : List Value} {Res : Hp → Value → List (Nat × Obj) → Prop} (hr : fn.results = rs.toArray) (h : RV P f bs rs vs) (hres : Res H (resw vs) bs) : JQ N [] B H .ret (bodyPost P fn (RetB B Res)) f bs gs := fun _ a w ha hs =>
  ⟨ha.defers, _, h.results hr ha hs, H, _, bs, rfl, hs.sub (List.Sublist.refl _) (List.nil_sublist _), hres⟩
theorem JQ.fellB {fn : Func} {rs : List ResultVar} {vs : List Value} {Res : Hp → Value → List (Nat × Obj) → Prop} (hr : fn.results = rs.toArray) (h : RV P f bs rs vs) (hres : Res H (resw vs) bs) : JQ N [] B H .normal (bodyPost P fn (RetB B Res)) f bs gs := fun _ a w ha hs =>
  ⟨ha.defers, _, h.results hr ha hs, H, _, bs, rfl, hs.sub (List.Sublist.refl _) (List.nil_sublist _), hres⟩
theorem St.gainsB {w w' : World} (hs : St B H bs gs w) {H' : Hp} {bs' : List (Nat × Obj)} (hc : St ⟨w, H⟩ H' bs' [] w') : St B H' (bs' ++ bs) gs w' := by
  have k := hs.grow hc.below hc.hle hc.ext.1 hc.ext.2
  have hsz := hs.below.size
  refine ⟨k.below, k.hle, k.ext, fun x hx => ?_, List.pairwise_append.2 ⟨hc.nodup, k.nodup, fun x hx y hy e => ?_⟩, k.row, fun r hr b hb => ⟨(k.rfresh r hr b hb).1, fun x hx => ?_⟩, k.rdisj⟩
  · rcases List.mem_append.1 hx with hx | hx
    · obtain ⟨h1, h2, h3⟩ := hc.own x hx
      simp only at h2
      exact ⟨h1, by omega, h3⟩
    · exact k.own x hx
  · have h1 := (hc.own x hx).2.1
    have h2 := hs.own_lt hy
    simp only at h1
    omega
  · rcases List.mem_append.1 hx with hx | hx
    · have h1 := (hc.own x hx).2.1
      have h2 := ((hs.row r hr).lt b hb).2
      simp only at h1
      omega
    · exact (k.rfresh r hr b hb).2 x hx
theorem JL.callXB {kf : Nat} {l : List Operand} {tt : Array TypeId} {vs : List Value} {Res : Hp → Value → List (Nat × Obj) → Prop} (hc : XB P kf vs H Res) (hvs : l.map (ev f) = vs) (he : Ent P kf) (hw : Want ops f g) (hd : Nat.blt d N = true)
    (h : ∀ H' v bs', HSub H H' → Res H' v bs' → JL .plain P N ds B H' ops Q rest (upd f d v) (bs' ++ bs) gs) : JL .plain P N ds B H ops Q (⟨some d, .call ⟨.value (.func kf), l.toArray, tt⟩, t, p, af, g⟩ :: rest) f bs gs :=
  .step hw fun a w ha hs => by
    unfold Oper.wp
    rw [ha.eval, run_callF hvs he, Oper.upon_enter]
    refine (hc w hs.hle).mono fun e w' => ?_
    rintro ⟨H', v, bs', rfl, hst, hres⟩
    exact h H' v bs' hst.ext.1 hres _ _ (ha.put hd v) (hs.gainsB hst)

/-! ### maps handed over -/
theorem MD.ins {n : Nat} {ek : List Int → Value} {b : Nat} {es : Array MapEntry} {ck : Nat} {m : Mp} (h : MR n ek m es ck) : MD n ek (ins H b (.map es ck)) (.map (some b)) m := .inr ⟨b, es, ck, rfl, by rw [ins_at, if_pos rfl], h⟩
theorem MD.get {n : Nat} {ek : List Int → Value} {v : Value} {m : Mp} (h : MD n ek H v m) (hne : m ≠ []) : ∃ b es ck, v = .map (some b) ∧ H b = some (.map es ck) ∧ MR n ek m es ck := h.resolve_left fun e => hne e.2
theorem JC.freezeM {n : Nat} {ek : List Int → Value} {m : Mp} {c : Code} (i : Nat) {b : Nat} {es : Array MapEntry} {ck : Nat} (hi : bs[i]? = some (b, .map es ck)) (hm : MR n ek m es ck) (k : ∀ H', HSub H H' → MD n ek H' (.map (some b)) m → JC P ro N ds B H' c Q f (bs.eraseIdx i) gs) : JC P ro N ds B H c Q f bs gs := JC.freeze i hi fun hs => k _ hs (MD.ins hm)
theorem JL.freezeM {n : Nat} {ek : List Int → Value} {m : Mp} (i : Nat) {b : Nat} {es : Array MapEntry} {ck : Nat} (hi : bs[i]? = some (b, .map es ck)) (hm : MR n ek m es ck) (k : ∀ H', HSub H H' → MD n ek H' (.map (some b)) m → JL .plain P N ds B H' ops Q rest f (bs.eraseIdx i) gs) : JL .plain P N ds B H ops Q rest f bs gs := JL.freeze i hi fun hs => k _ hs (MD.ins hm)
theorem JQ.freezeM {n : Nat} {ek : List Int → Value} {m : Mp} {e : Exit} (i : Nat) {b : Nat} {es : Array MapEntry} {ck : Nat} (hi : bs[i]? = some (b, .map es ck)) (hm : MR n ek m es ck) (k : ∀ H', HSub H H' → MD n ek H' (.map (some b)) m → JQ N ds B H' e Q f (bs.eraseIdx i) gs) : JQ N ds B H e Q f bs gs := JQ.freeze i hi fun hs => k _ hs (MD.ins hm)
def neM (m : Mp) : Option Unit := if m.isEmpty = true then none else some ()
theorem neM_some {m : Mp} {u : Unit} (h : neM m = some u) : m ≠ [] := by
  unfold neM at h
  split at h
  · cases h
  · rename_i hh; intro e; subst e; exact hh rfl
theorem JL.lenMD {n : Nat} {ek : List Int → Value} {m : Mp} {v : Value} {t' kt e : TypeId} {x : Operand} (ht : mpT P t' = some (kt, e)) (hx : ev f x = v) (hm : MD n ek H v m) (hw : Want ops f g) (hd : Nat.blt d N = true)
    (h : JL q P N ds B H ops Q rest (upd f d (.int .i64 (m.length : Nat))) bs gs) : JL q P N ds B H ops Q (⟨some d, .call ⟨.builtin .len, #[x], #[t']⟩, t, p, af, g⟩ :: rest) f bs gs := by
  rcases hm with ⟨rfl, rfl⟩ | ⟨b, es, ck, rfl, h1, h2⟩
  · refine .val hw hd (fun w hs => ?_) h
    obtain ⟨i, h1, _, _⟩ := mpT_spec ht
    simp [execOp, resolve, invoke, builtin, Builtin.len_, hx, run_underlying h1, goInt]
  · exact JL.lenM ht hx (.data h1) h2 hw hd h

/-! ### a call that may turn one block -/
def hol (H : Hp) (K : Nat) (I : Obj → Prop) : Hp := ⟨H.fz, some (K, I)⟩
theorem Cells.hol {K : Nat} {I : Obj → Prop} {b o : Nat} {l : List Value} (h : Cells H b o l) : Cells (hol H K I) b o l := h
theorem SL.fz {α : Type} {H H' : Hp} {sz : Nat} {R : Rl α} (hR : ∀ cs x, R H cs x → R H' cs x) (hf : H'.fz = H.fz) {v : Value} {l : List α} (h : SL H sz R v l) : SL H' sz R v l := by
  obtain ⟨a, c, h1, h2, h3⟩ := h
  refine ⟨a, c, h1, h2, h3.imp id ?_⟩
  rintro ⟨b, o, h4, h5⟩
  refine ⟨b, o, h4, fun i x hi => ?_⟩
  obtain ⟨cs, ⟨c0, e, fz, k0, k1⟩, k2, k3⟩ := h5 i x hi
  exact ⟨cs, ⟨c0, e, fz, by rw [hf]; exact k0, k1⟩, k2, hR _ _ k3⟩
theorem St.lendHole {w : World} (hs : St B H bs gs w) {i K : Nat} {o : Obj} {I : Obj → Prop} (hi : bs[i]? = some (K, o)) (hI : I o) : HLe (hol H K I) w := by
  have h := hs.own _ (List.mem_of_getElem? hi)
  refine ⟨hs.hle.le, fun K' I' e => ?_⟩
  cases e
  exact ⟨h.2.2, o, h.1, hI⟩
theorem St.backHole {w w' : World} (hs : St B H bs gs w) {i K : Nat} {o : Obj} {I : Obj → Prop} (hi : bs[i]? = some (K, o)) (hk : Kept (hol H K I) w w') : St B H (bs.eraseIdx i) gs w' := by
  have hK := hs.own _ (List.mem_of_getElem? hi)
  have hsub : (bs.eraseIdx i).Sublist bs := List.eraseIdx_sublist ..
  have hne : ∀ q ∈ bs.eraseIdx i, q.1 ≠ K := fun q hq e => by
    obtain ⟨j, hij, hj⟩ := List.mem_eraseIdx_iff_getElem?.1 hq
    have hpw := List.pairwise_iff_getElem.1 hs.nodup
    obtain ⟨hil, hi2⟩ := List.getElem?_eq_some_iff.1 hi
    obtain ⟨hjl, hj2⟩ := List.getElem?_eq_some_iff.1 hj
    rcases Nat.lt_or_gt_of_ne hij with hlt | hgt
    · exact hpw j i hjl hil hlt (by rw [hj2, hi2]; exact e)
    · exact hpw i j hil hjl hgt (by rw [hj2, hi2]; exact e.symm)
  have blk : ∀ k, k < w.heap.size → k ≠ K → w'.heap[k]? = w.heap[k]? := fun k hk' hne => hk.below.block k hk' (fun I' e => by cases e; exact hne rfl)
  have hKB := hK.2.1
  simp only at hKB
  refine ⟨?_, ⟨fun b ob hb => ?_, fun K' I' e => ?_⟩, hs.ext, fun q hq => ?_, hs.nodup.sublist hsub, fun r hr => ?_, fun r hr b hb => ⟨(hs.rfresh r hr b hb).1, fun q hq => (hs.rfresh r hr b hb).2 q (hsub.subset hq)⟩, hs.rdisj⟩
  · exact hs.below.trans ⟨hk.below.os, hk.below.tape, hk.below.output, hk.below.size, fun k hk' _ => blk k (by have := hs.below.size; omega) (by omega), hs.below.lt⟩
  · rw [blk b (hs.hle.lt hb) (fun e => by subst e; have := hK.2.2; simp only at this; rw [this] at hb; cases hb)]; exact hs.hle.le b ob hb
  · obtain ⟨k1, o1, k2, k3⟩ := hs.hle.ok K' I' e
    exact ⟨k1, o1, by rw [blk K' (hs.hle.holeLt e) (fun e2 => hs.notHole hK.2.1 I' (by rw [e, e2]))]; exact k2, k3⟩
  · rw [blk q.1 (hs.own_lt (hsub.subset hq)) (hne q hq)]; exact hs.own q (hsub.subset hq)
  · exact ownsRow_at (hs.row r hr) fun b hb => blk b ((hs.row r hr).lt b hb).2 (fun e => by subst e; exact (hs.rfresh r hr _ hb).2 _ (List.mem_of_getElem? hi) rfl)
theorem JL.callHole {kf : Nat} {l : List Operand} {tt : Array TypeId} {vs : List Value} {v : Value} (i : Nat) {K : Nat} {o : Obj} (I : Obj → Prop) (hi : bs[i]? = some (K, o)) (hI : I o) (hc : SC P kf vs v (hol H K I)) (hvs : l.map (ev f) = vs) (he : Ent P kf) (hw : Want ops f g) (hd : Nat.blt d N = true)
    (h : JL .plain P N ds B H ops Q rest (upd f d v) (bs.eraseIdx i) gs) : JL .plain P N ds B H ops Q (⟨some d, .call ⟨.value (.func kf), l.toArray, tt⟩, t, p, af, g⟩ :: rest) f bs gs :=
  .step hw fun a w ha hs => by
    unfold Oper.wp
    rw [ha.eval, run_callF hvs he, Oper.upon_enter]
    refine (hc w (hs.lendHole hi hI)).mono fun e w' => ?_
    rintro ⟨rfl, hk⟩
    exact h _ _ (ha.put hd v) (hs.backHole hi hk)
end
end Go.Dec
end
section
namespace Go.Dec
open Go Go.RowKit

def FSub (H H' : Hp) : Prop := ∀ b o, H b = some o → H' b = some o
theorem Cells.fsub {H H' : Hp} (h : FSub H H') {b o : Nat} {l : List Value} (hc : Cells H b o l) : Cells H' b o l := by
  obtain ⟨c, e, fz, h1, h2⟩ := hc; exact ⟨c, e, fz, h _ _ h1, h2⟩
def Fzd {α : Type} (R : Rl α) : Prop := ∀ H H', FSub H H' → ∀ cs x, R H cs x → R H' cs x
theorem SL.fsub {α : Type} {H H' : Hp} {sz : Nat} {R : Rl α} (hR : Fzd R) (h : FSub H H') {v : Value} {l : List α} (hs : SL H sz R v l) : SL H' sz R v l := by
  obtain ⟨a, c, h1, h2, h3⟩ := hs
  refine ⟨a, c, h1, h2, h3.imp id ?_⟩
  rintro ⟨b, o, h4, h5⟩
  exact ⟨b, o, h4, fun i x hi => let ⟨cs, k1, k2, k3⟩ := h5 i x hi; ⟨cs, k1.fsub h, k2, hR _ _ h _ _ k3⟩⟩
theorem RInt.fz : Fzd RInt := fun _ _ _ _ _ h => h
theorem RBool.fz : Fzd RBool := fun _ _ _ _ _ h => h
theorem RSl.fz {α : Type} {sz : Nat} {R : Rl α} (hR : Fzd R) : Fzd (RSl sz R) := by
  rintro H H' h cs x ⟨v, h1, h2⟩
  exact ⟨v, h1, SL.fsub hR h h2⟩

/-- all that lies in a world but one block -/
def allBut (w : World) (K : Nat) : Hp := ⟨fun b => if b = K then none else w.heap[b]?, none⟩
theorem allBut_at (w : World) (K b : Nat) : (allBut w K) b = if b = K then none else w.heap[b]? := rfl
/-- what such a body answers: the value, and the map in its block -/
def RetK (B : Bs) (H : Hp) (K n : Nat) (ek : List Int → Value) (v : Value) (m : Mp) : Ending → World → Prop := fun e w' =>
  e = .returned v ∧ ∃ H' es ck bs gs, HSub H H' ∧ St B H' bs gs w' ∧ (K, Obj.map es ck) ∈ bs ∧ MR n ek m es ck
section
variable {P : Program} {N : Nat} {B : Bs} {H : Hp} {f : Nat → Value} {bs : List (Nat × Obj)} {gs : List GS}
theorem JQ.outK {H0 : Hp} {fn : Func} {rs : List ResultVar} {vs : List Value} {v : Value} {K n : Nat} {ek : List Int → Value} {m : Mp} {es : Array MapEntry} {ck : Nat} (i : Nat) (hr : fn.results = rs.toArray) (h : RV P f bs rs vs) (hv : resw vs = v) (hs0 : HSub H0 H) (hi : bs[i]? = some (K, .map es ck)) (hm : MR n ek m es ck) : JQ N [] B H .ret (bodyPost P fn (RetK B H0 K n ek v m)) f bs gs := fun _ a w ha hs =>
  ⟨ha.defers, _, h.results hr ha hs, by rw [hv], H, es, ck, bs, gs, hs0, hs, List.mem_of_getElem? hi, hm⟩
theorem noOut_K {fn : Func} {K n : Nat} {ek : List Int → Value} {v : Value} {m : Mp} : NoOut (bodyPost P fn (RetK B H K n ek v m)) := noOut_body (fun w' hq => by obtain ⟨h, _⟩ := hq; cases h) (fun c w' hq => by obtain ⟨h, _⟩ := hq; cases h)
theorem SC.ofHole {k N : Nat} {fn : Func} {c : Code} {vs : List Value} {v : Value} {H : Hp} {K n : Nat} {ek : List Int → Value} {J : Mp → Prop} (hf : P.funcs[k]? = some fn) (hN : fn.ntmps = N) (hb : fn.body = some c) (hn : Nat.ble vs.length N = true)
    (hole : H.hole = some (K, fun o => ∃ es ck m, o = .map es ck ∧ MR n ek m es ck ∧ J m))
    (h : ∀ B H1 es ck m, FSub H H1 → MR n ek m es ck → J m → ∃ m', J m' ∧ JC P none N [] B H1 c (bodyPost P fn (RetK B H1 K n ek v m')) (frame0 vs) [(K, .map es ck)] []) : SC P k vs v H := fun w hH => by
  subst hN
  have hn := Nat.le_of_ble_eq_true hn
  obtain ⟨hK, o, ho, es, ck, m, rfl, hm, hJ⟩ := hH.ok K _ hole
  have hKlt : K < w.heap.size := (Array.getElem?_eq_some_iff.1 ho).1
  have hsub : FSub H (allBut w K) := fun b o hb => by
    rw [allBut_at, if_neg (fun e => by subst e; rw [hK] at hb; cases hb)]
    exact hH.le b o hb
  obtain ⟨m', hJ', hc⟩ := h ⟨{ w with heap := #[] }, allBut w K⟩ (allBut w K) es ck m hsub hm hJ
  have hst : St ⟨{ w with heap := #[] }, allBut w K⟩ (allBut w K) [(K, .map es ck)] [] w :=
    ⟨⟨rfl, rfl, rfl, by simp, fun k hk => by simp at hk, fun _ _ e => by cases e⟩, ⟨fun b o hb => by
      rw [allBut_at] at hb
      split at hb
      · cases hb
      · exact hb, fun _ _ e => by cases e⟩, ⟨HSub.refl _, fun _ _ => rfl⟩, fun p hp => by
      rw [List.mem_singleton] at hp
      subst hp
      exact ⟨ho, by simp, by rw [allBut_at, if_pos rfl]⟩, by simp, by simp, by simp, .nil⟩
  refine ((callsIn_wide (n := 0)).1 (callsIn_of_wp hf hb trivial (hc noOut_K _ w (fr_start hn) hst))).mono ?_
  rintro e w' ⟨rfl, H', es', ck', bs, gs, hs1, hst', hmem, hm'⟩
  have hown := (hst'.own _ hmem).1
  have hblk : ∀ k, k < w.heap.size → k ≠ K → w'.heap[k]? = w.heap[k]? := fun k hk hne => by
    have h1 : (allBut w K) k = some (w.heap[k]) := by rw [allBut_at, if_neg hne]; exact Array.getElem?_eq_getElem hk
    rw [hst'.hle.le _ _ (hs1.le _ _ h1)]
    exact (Array.getElem?_eq_getElem hk).symm
  have hsz : w.heap.size ≤ w'.heap.size := by
    rcases Nat.lt_or_ge w'.heap.size w.heap.size with hlt | hge
    · exfalso
      by_cases e : w.heap.size - 1 = K
      · have hb2 := (Array.getElem?_eq_some_iff.1 hown).1
        simp only at hb2
        omega
      · have h2 := hblk (w.heap.size - 1) (by omega) e
        rw [Array.getElem?_eq_none (by omega), Array.getElem?_eq_getElem (by omega)] at h2
        cases h2
    · exact hge
  refine ⟨rfl, ⟨hst'.below.os, hst'.below.tape, hst'.below.output, hsz, fun k hk hne => hblk k hk (fun e => by subst e; exact hne _ hole), fun K' I' e => by rw [hole] at e; cases e; exact hKlt⟩, fun K' I' e => ?_⟩
  rw [hole] at e
  cases e
  exact ⟨hK, _, hown, es', ck', m', rfl, hm', hJ'⟩
end
/-! ### the head of an own slice -/
theorem CH.take {α : Type} {H : Hp} {sz : Nat} {R : Rl α} {xs : List Value} {l : List α} (h : CH H sz R xs l) {k : Nat} (hk : k ≤ l.length) : CH H sz R (xs.take (k * sz)) (l.take k) := by
  have hle : k * sz ≤ l.length * sz := Nat.mul_le_mul_right _ hk
  refine ⟨by rw [List.length_take, List.length_take, h.1, Nat.min_eq_left hle, Nat.min_eq_left hk], fun i x hi => ?_⟩
  rw [List.getElem?_take] at hi
  split at hi
  · rename_i hik
    obtain ⟨cs, h1, h2, h3⟩ := h.2 i x hi
    refine ⟨cs, h1, h2, fun j v hv => ?_⟩
    have hj : j < cs.length := (List.getElem?_eq_some_iff.1 hv).1
    have : (i + 1) * sz ≤ k * sz := Nat.mul_le_mul_right _ (by omega)
    rw [Nat.succ_mul] at this
    rw [List.getElem?_take, if_pos (by omega)]
    exact h3 j v hv
  · cases hi
section
variable {P : Program} {N : Nat} {ds : List Deferred} {B : Bs} {H : Hp} {ops : List Oper} {Q : Exit → Act → World → Prop} {rest : List Oper} {f : Nat → Value} {bs : List (Nat × Obj)} {gs : List GS}
variable {d : Nat} {t : TypeId} {p : String} {af : Array Edge} {g : Option (Nat × Bool)}
theorem JL.sliceG {α : Type} {tx e : TypeId} {x hi : Operand} {k : IntKind} {i : Int} {sz : Nat} {R : Rl α} {l m : List α} (j : Nat) {q : GS} (ht : slT P tx = some (e, sz)) (hj : gs[j]? = some q) (hq : q.e = e ∧ q.sz = sz) (hx : ev f x = q.v) (hn : q.n = l.length) (hch : CH H sz R q.xs l)
    (hhi : ev f hi = .int k i) (hm : slc l 0 i = some m) (hw : Want ops f g) (hd : Nat.blt d N = true)
    (h : ∀ v xs, CH H sz R xs m → JL .plain P N ds B H ops Q rest (upd f d v) bs (gs.set j ⟨v, e, sz, m.length, xs⟩)) : JL .plain P N ds B H ops Q (⟨some d, .slice tx x none (some hi) none, t, p, af, g⟩ :: rest) f bs gs :=
  .step hw fun a w ha hs => by
    obtain ⟨rfl, rfl⟩ := hq
    have hmem : q ∈ gs := List.mem_of_getElem? hj
    obtain ⟨r1, r2⟩ := hs.row q hmem
    unfold slc at hm
    split at hm
    · rename_i hb
      obtain ⟨_, k0, k2⟩ := hb
      obtain rfl : l.take i.toNat = m := by simpa using hm
      have hil : i.toNat ≤ l.length := by omega
      have hml : (l.take i.toNat).length = i.toNat := by rw [List.length_take, Nat.min_eq_left hil]
      obtain ⟨v', hr, ho, hat⟩ : ∃ v', (execOp (ev f) ⟨some d, .slice tx x none (some hi) none, t, p, af, g⟩).run P w = .ok (.value v') w ∧ w.ownsRow B.w.heap.size q.e q.sz v' i.toNat (q.xs.take (i.toNat * q.sz)) ∧ v'.ownBlock = q.v.ownBlock := by
        unfold slT at ht
        split at ht
        · rename_i e' hu
          split at ht
          · rename_i ti hti
            simp only [Option.some.injEq, Prod.mk.injEq] at ht
            obtain ⟨he1, he2⟩ := ht
            have hle : i.toNat * q.sz ≤ q.n * q.sz := Nat.mul_le_mul_right _ (by omega)
            rcases r2 with ⟨hv, hn0⟩ | ⟨b, cap, cur, hv, hb, hheap, hcap, hmax, hsz, htk⟩
            · have hi0 : i = 0 := by omega
              subst hi0
              refine ⟨.slice none 0 0, ?_, ⟨by simp, .inl ⟨rfl, by simp⟩⟩, by rw [hv]⟩
              simp [execOp, hx, hv, Instr.sliceAt, Instr.slice, Instr.sliceBounds, run_bound hhi (y := 0) (by omega) (by omega), run_underlying hu, sizeOf, typeInfo, hti]
            · refine ⟨.slice (some ⟨b, 0, none⟩) i.toNat cap, ?_, ⟨by rw [List.length_take, r1, Nat.min_eq_left hle], .inr ⟨b, cap, cur, rfl, hb, hheap, by omega, hmax, hsz, ?_⟩⟩, by rw [hv]; rfl⟩
              · have k2' : i ≤ ((cap : Nat) : Int) := by omega
                simp [execOp, hx, hv, Instr.sliceAt, Instr.slice, Instr.sliceBounds, run_bound hhi k0 k2', run_underlying hu, sizeOf, typeInfo, hti, Addr.add]
              · rw [← htk, List.take_take, Nat.min_eq_left hle]
          · cases ht
        · cases ht
      unfold Oper.wp
      rw [ha.eval, hr]
      rw [← hml] at ho
      exact h v' _ (hch.take hil) _ _ (ha.put hd v') (hs.regrow hj (World.grownBy.refl _ _) (by rw [hml] at ho ⊢; exact ho) (.inl hat))
    · cases hm
end
end Go.Dec
end
section
namespace Go.Proofs.Ytcipdblhopffbaa
open Go Go.RowKit Go.Dec
set_option linter.unusedVariables false
structure gusts_blown where
 lift : Int
 ribs : List Int
 shares : List Int
structure Gust where
 Force : Int
 At : Int
structure Span where
 Low : Int
 High : Int
structure Frac where
 Num : Int
 Den : Int
structure Section where
 Arm : Span
 Stretch : Span
 Base : Int
 Gear : Frac
structure Frame where
 Sections : List Section
 Low : Int
 High : Int
 Ease : Frac
 Rod : Int
 Case : Int
structure Canopy where
 Frame : Frame
 Ribs : List Span
 Shares : List Int
structure Blow where
 At : Int
 Force : Span
structure Meter where
 Limit : Int
 Count : Int
structure Run where
 Canopy : Canopy
 Blows : List Blow
 Meters : List Meter
 Wrong : Int
structure counts_test where
 Run : Run
 asked : Blow → Int → Option Bool
structure frames_sides where
 arm : Int
 stretch : Int
structure law13_Stronger where
 Rib : Int
 By : Int
 Blow : Int
structure law13_Ask where
 Blow : Int
 Meter : Int
 Limit : Int
def FN_76 (H : Hp) (v : Value) (f : Blow → Int → Option Bool) : Prop := ∃ (fk : Nat) (fc : List Value), v = .func (.func fk) #[] fc.toArray ∧ Ent Try.prog fk ∧ ∀ H', HSub H H' → ∀ (a0_ : Blow) (a1_ : Int) (y : Bool), f a0_ a1_ = some y → SC Try.prog fk ([.agg [.int .i64 a0_.At, .int .i64 a0_.Force.Low, .int .i64 a0_.Force.High].toArray, .int .i64 a1_] ++ fc) (.bool y) H'
theorem FN_76.mono {H H' : Hp} (h : HSub H H') {v : Value} {f : Blow → Int → Option Bool} (hf : FN_76 H v f) : FN_76 H' v f := by
 obtain ⟨fk, fc, h1, h2, h3⟩ := hf
 exact ⟨fk, fc, h1, h2, fun H'' hs => h3 H'' (HSub.trans h hs)⟩
theorem FN_76.one {H : Hp} {v : Value} {f : Blow → Int → Option Bool} (hf : FN_76 H v f) : v.oneCell' = true := by
 obtain ⟨fk, fc, rfl, _⟩ := hf; rfl
def R_gusts_blown : Rl gusts_blown := fun H cs x => ∃ v1 v2 : Value, cs = [.int .i64 x.lift, v1, v2] ∧ SL H 1 RInt v1 x.ribs ∧ SL H 1 RInt v2 x.shares
theorem R_gusts_blown_mono : Mono R_gusts_blown := by
 rintro H H' h cs x ⟨v1, v2, hcs, h0, h1⟩
 exact ⟨v1, v2, hcs, SL.mono RInt.mono h h0, SL.mono RInt.mono h h1⟩
theorem R_gusts_blown_fz : Fzd R_gusts_blown := by
 rintro H H' h cs x ⟨v1, v2, hcs, h0, h1⟩
 exact ⟨v1, v2, hcs, SL.fsub RInt.fz h h0, SL.fsub RInt.fz h h1⟩
theorem R_gusts_blown_one : ∀ (H : Hp) (cs : List Value) (x : gusts_blown), R_gusts_blown H cs x → AllOne cs := by
 rintro H cs x ⟨v1, v2, rfl, h0, h1⟩
 exact (one_cons rfl (one_cons h0.one (one_cons h1.one one_nil)))
def R_Gust : Rl Gust := fun _ cs x => cs = [.int .i64 x.Force, .int .i64 x.At]
theorem R_Gust_mono : Mono R_Gust := fun _ _ _ _ _ h => h
theorem R_Gust_fz : Fzd R_Gust := fun _ _ _ _ _ h => h
theorem R_Gust_one : ∀ (H : Hp) (cs : List Value) (x : Gust), R_Gust H cs x → AllOne cs := by
 rintro H cs x rfl
 exact (one_cons rfl (one_cons rfl one_nil))
def R_Span : Rl Span := fun _ cs x => cs = [.int .i64 x.Low, .int .i64 x.High]
theorem R_Span_mono : Mono R_Span := fun _ _ _ _ _ h => h
theorem R_Span_fz : Fzd R_Span := fun _ _ _ _ _ h => h
theorem R_Span_one : ∀ (H : Hp) (cs : List Value) (x : Span), R_Span H cs x → AllOne cs := by
 rintro H cs x rfl
 exact (one_cons rfl (one_cons rfl one_nil))
def R_Frac : Rl Frac := fun _ cs x => cs = [.int .i64 x.Num, .int .i64 x.Den]
theorem R_Frac_mono : Mono R_Frac := fun _ _ _ _ _ h => h
theorem R_Frac_fz : Fzd R_Frac := fun _ _ _ _ _ h => h
theorem R_Frac_one : ∀ (H : Hp) (cs : List Value) (x : Frac), R_Frac H cs x → AllOne cs := by
 rintro H cs x rfl
 exact (one_cons rfl (one_cons rfl one_nil))
def R_Section : Rl Section := fun _ cs x => cs = [.int .i64 x.Arm.Low, .int .i64 x.Arm.High, .int .i64 x.Stretch.Low, .int .i64 x.Stretch.High, .int .i64 x.Base, .int .i64 x.Gear.Num, .int .i64 x.Gear.Den]
theorem R_Section_mono : Mono R_Section := fun _ _ _ _ _ h => h
theorem R_Section_fz : Fzd R_Section := fun _ _ _ _ _ h => h
theorem R_Section_one : ∀ (H : Hp) (cs : List Value) (x : Section), R_Section H cs x → AllOne cs := by
 rintro H cs x rfl
 exact (one_cons rfl (one_cons rfl (one_cons rfl (one_cons rfl (one_cons rfl (one_cons rfl (one_cons rfl one_nil)))))))
def R_Frame : Rl Frame := fun H cs x => ∃ v0 : Value, cs = [v0, .int .i64 x.Low, .int .i64 x.High, .int .i64 x.Ease.Num, .int .i64 x.Ease.Den, .int .i64 x.Rod, .int .i64 x.Case] ∧ SL H 7 R_Section v0 x.Sections
theorem R_Frame_mono : Mono R_Frame := by
 rintro H H' h cs x ⟨v0, hcs, h0⟩
 exact ⟨v0, hcs, SL.mono R_Section_mono h h0⟩
theorem R_Frame_fz : Fzd R_Frame := by
 rintro H H' h cs x ⟨v0, hcs, h0⟩
 exact ⟨v0, hcs, SL.fsub R_Section_fz h h0⟩
theorem R_Frame_one : ∀ (H : Hp) (cs : List Value) (x : Frame), R_Frame H cs x → AllOne cs := by
 rintro H cs x ⟨v0, rfl, h0⟩
 exact (one_cons h0.one (one_cons rfl (one_cons rfl (one_cons rfl (one_cons rfl (one_cons rfl (one_cons rfl one_nil)))))))
def R_Canopy : Rl Canopy := fun H cs x => ∃ v0 v7 v8 : Value, cs = [v0, .int .i64 x.Frame.Low, .int .i64 x.Frame.High, .int .i64 x.Frame.Ease.Num, .int .i64 x.Frame.Ease.Den, .int .i64 x.Frame.Rod, .int .i64 x.Frame.Case, v7, v8] ∧ SL H 7 R_Section v0 x.Frame.Sections ∧ SL H 2 R_Span v7 x.Ribs ∧ SL H 1 RInt v8 x.Shares
theorem R_Canopy_mono : Mono R_Canopy := by
 rintro H H' h cs x ⟨v0, v7, v8, hcs, h0, h1, h2⟩
 exact ⟨v0, v7, v8, hcs, SL.mono R_Section_mono h h0, SL.mono R_Span_mono h h1, SL.mono RInt.mono h h2⟩
theorem R_Canopy_fz : Fzd R_Canopy := by
 rintro H H' h cs x ⟨v0, v7, v8, hcs, h0, h1, h2⟩
 exact ⟨v0, v7, v8, hcs, SL.fsub R_Section_fz h h0, SL.fsub R_Span_fz h h1, SL.fsub RInt.fz h h2⟩
theorem R_Canopy_one : ∀ (H : Hp) (cs : List Value) (x : Canopy), R_Canopy H cs x → AllOne cs := by
 rintro H cs x ⟨v0, v7, v8, rfl, h0, h1, h2⟩
 exact (one_cons h0.one (one_cons rfl (one_cons rfl (one_cons rfl (one_cons rfl (one_cons rfl (one_cons rfl (one_cons h1.one (one_cons h2.one one_nil)))))))))
def R_Blow : Rl Blow := fun _ cs x => cs = [.int .i64 x.At, .int .i64 x.Force.Low, .int .i64 x.Force.High]
theorem R_Blow_mono : Mono R_Blow := fun _ _ _ _ _ h => h
theorem R_Blow_fz : Fzd R_Blow := fun _ _ _ _ _ h => h
theorem R_Blow_one : ∀ (H : Hp) (cs : List Value) (x : Blow), R_Blow H cs x → AllOne cs := by
 rintro H cs x rfl
 exact (one_cons rfl (one_cons rfl (one_cons rfl one_nil)))
def R_Meter : Rl Meter := fun _ cs x => cs = [.int .i64 x.Limit, .int .i64 x.Count]
theorem R_Meter_mono : Mono R_Meter := fun _ _ _ _ _ h => h
theorem R_Meter_fz : Fzd R_Meter := fun _ _ _ _ _ h => h
theorem R_Meter_one : ∀ (H : Hp) (cs : List Value) (x : Meter), R_Meter H cs x → AllOne cs := by
 rintro H cs x rfl
 exact (one_cons rfl (one_cons rfl one_nil))
def R_Run : Rl Run := fun H cs x => ∃ v0 v7 v8 v9 v10 : Value, cs = [v0, .int .i64 x.Canopy.Frame.Low, .int .i64 x.Canopy.Frame.High, .int .i64 x.Canopy.Frame.Ease.Num, .int .i64 x.Canopy.Frame.Ease.Den, .int .i64 x.Canopy.Frame.Rod, .int .i64 x.Canopy.Frame.Case, v7, v8, v9, v10, .int .i64 x.Wrong] ∧ SL H 7 R_Section v0 x.Canopy.Frame.Sections ∧ SL H 2 R_Span v7 x.Canopy.Ribs ∧ SL H 1 RInt v8 x.Canopy.Shares ∧ SL H 3 R_Blow v9 x.Blows ∧ SL H 2 R_Meter v10 x.Meters
theorem R_Run_mono : Mono R_Run := by
 rintro H H' h cs x ⟨v0, v7, v8, v9, v10, hcs, h0, h1, h2, h3, h4⟩
 exact ⟨v0, v7, v8, v9, v10, hcs, SL.mono R_Section_mono h h0, SL.mono R_Span_mono h h1, SL.mono RInt.mono h h2, SL.mono R_Blow_mono h h3, SL.mono R_Meter_mono h h4⟩
theorem R_Run_fz : Fzd R_Run := by
 rintro H H' h cs x ⟨v0, v7, v8, v9, v10, hcs, h0, h1, h2, h3, h4⟩
 exact ⟨v0, v7, v8, v9, v10, hcs, SL.fsub R_Section_fz h h0, SL.fsub R_Span_fz h h1, SL.fsub RInt.fz h h2, SL.fsub R_Blow_fz h h3, SL.fsub R_Meter_fz h h4⟩
theorem R_Run_one : ∀ (H : Hp) (cs : List Value) (x : Run), R_Run H cs x → AllOne cs := by
 rintro H cs x ⟨v0, v7, v8, v9, v10, rfl, h0, h1, h2, h3, h4⟩
 exact (one_cons h0.one (one_cons rfl (one_cons rfl (one_cons rfl (one_cons rfl (one_cons rfl (one_cons rfl (one_cons h1.one (one_cons h2.one (one_cons h3.one (one_cons h4.one (one_cons rfl one_nil))))))))))))
def R_counts_test : Rl counts_test := fun H cs x => ∃ v0 v7 v8 v9 v10 v12 : Value, cs = [v0, .int .i64 x.Run.Canopy.Frame.Low, .int .i64 x.Run.Canopy.Frame.High, .int .i64 x.Run.Canopy.Frame.Ease.Num, .int .i64 x.Run.Canopy.Frame.Ease.Den, .int .i64 x.Run.Canopy.Frame.Rod, .int .i64 x.Run.Canopy.Frame.Case, v7, v8, v9, v10, .int .i64 x.Run.Wrong, v12] ∧ SL H 7 R_Section v0 x.Run.Canopy.Frame.Sections ∧ SL H 2 R_Span v7 x.Run.Canopy.Ribs ∧ SL H 1 RInt v8 x.Run.Canopy.Shares ∧ SL H 3 R_Blow v9 x.Run.Blows ∧ SL H 2 R_Meter v10 x.Run.Meters ∧ FN_76 H v12 x.asked
theorem R_counts_test_mono : Mono R_counts_test := by
 rintro H H' h cs x ⟨v0, v7, v8, v9, v10, v12, hcs, h0, h1, h2, h3, h4, h5⟩
 exact ⟨v0, v7, v8, v9, v10, v12, hcs, SL.mono R_Section_mono h h0, SL.mono R_Span_mono h h1, SL.mono RInt.mono h h2, SL.mono R_Blow_mono h h3, SL.mono R_Meter_mono h h4, FN_76.mono h h5⟩
theorem R_counts_test_one : ∀ (H : Hp) (cs : List Value) (x : counts_test), R_counts_test H cs x → AllOne cs := by
 rintro H cs x ⟨v0, v7, v8, v9, v10, v12, rfl, h0, h1, h2, h3, h4, h5⟩
 exact (one_cons h0.one (one_cons rfl (one_cons rfl (one_cons rfl (one_cons rfl (one_cons rfl (one_cons rfl (one_cons h1.one (one_cons h2.one (one_cons h3.one (one_cons h4.one (one_cons rfl (one_cons h5.one one_nil)))))))))))))
def R_frames_sides : Rl frames_sides := fun _ cs x => cs = [.int .i64 x.arm, .int .i64 x.stretch]
theorem R_frames_sides_mono : Mono R_frames_sides := fun _ _ _ _ _ h => h
theorem R_frames_sides_fz : Fzd R_frames_sides := fun _ _ _ _ _ h => h
theorem R_frames_sides_one : ∀ (H : Hp) (cs : List Value) (x : frames_sides), R_frames_sides H cs x → AllOne cs := by
 rintro H cs x rfl
 exact (one_cons rfl (one_cons rfl one_nil))
def R_law13_Stronger : Rl law13_Stronger := fun _ cs x => cs = [.int .i64 x.Rib, .int .i64 x.By, .int .i64 x.Blow]
theorem R_law13_Stronger_mono : Mono R_law13_Stronger := fun _ _ _ _ _ h => h
theorem R_law13_Stronger_fz : Fzd R_law13_Stronger := fun _ _ _ _ _ h => h
theorem R_law13_Stronger_one : ∀ (H : Hp) (cs : List Value) (x : law13_Stronger), R_law13_Stronger H cs x → AllOne cs := by
 rintro H cs x rfl
 exact (one_cons rfl (one_cons rfl (one_cons rfl one_nil)))
def R_law13_Ask : Rl law13_Ask := fun _ cs x => cs = [.int .i64 x.Blow, .int .i64 x.Meter, .int .i64 x.Limit]
theorem R_law13_Ask_mono : Mono R_law13_Ask := fun _ _ _ _ _ h => h
theorem R_law13_Ask_fz : Fzd R_law13_Ask := fun _ _ _ _ _ h => h
theorem R_law13_Ask_one : ∀ (H : Hp) (cs : List Value) (x : law13_Ask), R_law13_Ask H cs x → AllOne cs := by
 rintro H cs x rfl
 exact (one_cons rfl (one_cons rfl (one_cons rfl one_nil)))
theorem fo_85_2 : fieldOff Try.prog 85 2 = some 2 := by kernel_rfl
theorem az_28 : aggsz Try.prog 28 = some (false, 1) := by kernel_rfl
theorem ul_28 : Try.prog.underlying 28 = some (.slice 3) := by kernel_rfl
theorem fo_58_0 : fieldOff Try.prog 58 0 = some 0 := by kernel_rfl
theorem az_3 : aggsz Try.prog 3 = some (false, 1) := by kernel_rfl
theorem fo_85_0 : fieldOff Try.prog 85 0 = some 0 := by kernel_rfl
theorem fo_58_1 : fieldOff Try.prog 58 1 = some 1 := by kernel_rfl
theorem sl_28 : slT Try.prog 28 = some (3, 1) := by kernel_rfl
theorem mo_ : Try.prog.follows .mixedOrders = true := by kernel_rfl
theorem az_85 : aggsz Try.prog 85 = some (true, 3) := by kernel_rfl
theorem az_58 : aggsz Try.prog 58 = some (true, 2) := by kernel_rfl
theorem en_97 : Ent Try.prog 97 := enters_of Try.func97 (by kernel_rfl) rfl
theorem fo_85_1 : fieldOff Try.prog 85 1 = some 1 := by kernel_rfl
theorem ar_61 : arrT Try.prog 61 = some (3, 2) := by kernel_rfl
theorem fo_30_0 : fieldOff Try.prog 30 0 = some 0 := by kernel_rfl
theorem fo_26_0 : fieldOff Try.prog 26 0 = some 0 := by kernel_rfl
theorem az_22 : aggsz Try.prog 22 = some (false, 1) := by kernel_rfl
theorem ul_22 : Try.prog.underlying 22 = some (.slice 129) := by kernel_rfl
theorem fo_30_1 : fieldOff Try.prog 30 1 = some 7 := by kernel_rfl
theorem az_27 : aggsz Try.prog 27 = some (false, 1) := by kernel_rfl
theorem ul_27 : Try.prog.underlying 27 = some (.slice 49) := by kernel_rfl
theorem fo_30_2 : fieldOff Try.prog 30 2 = some 8 := by kernel_rfl
theorem fo_49_0 : fieldOff Try.prog 49 0 = some 0 := by kernel_rfl
theorem fo_49_1 : fieldOff Try.prog 49 1 = some 1 := by kernel_rfl
theorem en_47 : Ent Try.prog 47 := enters_of Try.func47 (by kernel_rfl) rfl
theorem fo_24_1 : fieldOff Try.prog 24 1 = some 1 := by kernel_rfl
theorem fo_24_0 : fieldOff Try.prog 24 0 = some 0 := by kernel_rfl
theorem sl_22 : slT Try.prog 22 = some (129, 7) := by kernel_rfl
theorem az_129 : aggsz Try.prog 129 = some (true, 7) := by kernel_rfl
theorem ze_129 : zeroL Try.prog 129 = some [.int .i64 0, .int .i64 0, .int .i64 0, .int .i64 0, .int .i64 0, .int .i64 0, .int .i64 0] := by kernel_rfl
theorem fo_129_0 : fieldOff Try.prog 129 0 = some 0 := by kernel_rfl
theorem az_49 : aggsz Try.prog 49 = some (true, 2) := by kernel_rfl
theorem en_77 : Ent Try.prog 77 := enters_of Try.func77 (by kernel_rfl) rfl
theorem fo_129_1 : fieldOff Try.prog 129 1 = some 2 := by kernel_rfl
theorem fo_129_2 : fieldOff Try.prog 129 2 = some 4 := by kernel_rfl
theorem fo_129_3 : fieldOff Try.prog 129 3 = some 5 := by kernel_rfl
theorem az_24 : aggsz Try.prog 24 = some (true, 2) := by kernel_rfl
theorem en_78 : Ent Try.prog 78 := enters_of Try.func78 (by kernel_rfl) rfl
theorem fo_26_1 : fieldOff Try.prog 26 1 = some 1 := by kernel_rfl
theorem fo_26_2 : fieldOff Try.prog 26 2 = some 2 := by kernel_rfl
theorem fo_26_3 : fieldOff Try.prog 26 3 = some 3 := by kernel_rfl
theorem fo_26_4 : fieldOff Try.prog 26 4 = some 5 := by kernel_rfl
theorem fo_26_5 : fieldOff Try.prog 26 5 = some 6 := by kernel_rfl
theorem az_26 : aggsz Try.prog 26 = some (true, 7) := by kernel_rfl
theorem en_63 : Ent Try.prog 63 := enters_of Try.func63 (by kernel_rfl) rfl
theorem en_27 : Ent Try.prog 27 := enters_of Try.func27 (by kernel_rfl) rfl
theorem sl_27 : slT Try.prog 27 = some (49, 2) := by kernel_rfl
theorem fo_34_0 : fieldOff Try.prog 34 0 = some 0 := by kernel_rfl
theorem az_30 : aggsz Try.prog 30 = some (true, 9) := by kernel_rfl
theorem en_43 : Ent Try.prog 43 := enters_of Try.func43 (by kernel_rfl) rfl
theorem fo_34_1 : fieldOff Try.prog 34 1 = some 9 := by kernel_rfl
theorem az_31 : aggsz Try.prog 31 = some (false, 1) := by kernel_rfl
theorem ul_31 : Try.prog.underlying 31 = some (.slice 56) := by kernel_rfl
theorem fo_34_2 : fieldOff Try.prog 34 2 = some 10 := by kernel_rfl
theorem az_32 : aggsz Try.prog 32 = some (false, 1) := by kernel_rfl
theorem ul_32 : Try.prog.underlying 32 = some (.slice 36) := by kernel_rfl
theorem fo_34_3 : fieldOff Try.prog 34 3 = some 11 := by kernel_rfl
theorem en_44 : Ent Try.prog 44 := enters_of Try.func44 (by kernel_rfl) rfl
theorem sl_31 : slT Try.prog 31 = some (56, 3) := by kernel_rfl
theorem az_56 : aggsz Try.prog 56 = some (true, 3) := by kernel_rfl
theorem ze_56 : zeroL Try.prog 56 = some [.int .i64 0, .int .i64 0, .int .i64 0] := by kernel_rfl
theorem fo_56_0 : fieldOff Try.prog 56 0 = some 0 := by kernel_rfl
theorem en_12 : Ent Try.prog 12 := enters_of Try.func12 (by kernel_rfl) rfl
theorem fo_56_1 : fieldOff Try.prog 56 1 = some 1 := by kernel_rfl
theorem sl_32 : slT Try.prog 32 = some (36, 2) := by kernel_rfl
theorem fo_36_0 : fieldOff Try.prog 36 0 = some 0 := by kernel_rfl
theorem fo_36_1 : fieldOff Try.prog 36 1 = some 1 := by kernel_rfl
theorem en_42 : Ent Try.prog 42 := enters_of Try.func42 (by kernel_rfl) rfl
theorem az_34 : aggsz Try.prog 34 = some (true, 12) := by kernel_rfl
theorem en_23 : Ent Try.prog 23 := enters_of Try.func23 (by kernel_rfl) rfl
theorem en_22 : Ent Try.prog 22 := enters_of Try.func22 (by kernel_rfl) rfl
theorem ze_26 : zeroL Try.prog 26 = some [.slice none 0 0, .int .i64 0, .int .i64 0, .int .i64 0, .int .i64 0, .int .i64 0, .int .i64 0] := by kernel_rfl
theorem ze_30 : zeroL Try.prog 30 = some [.slice none 0 0, .int .i64 0, .int .i64 0, .int .i64 0, .int .i64 0, .int .i64 0, .int .i64 0, .slice none 0 0, .slice none 0 0] := by kernel_rfl
theorem en_64 : Ent Try.prog 64 := enters_of Try.func64 (by kernel_rfl) rfl
theorem ze_34 : zeroL Try.prog 34 = some [.slice none 0 0, .int .i64 0, .int .i64 0, .int .i64 0, .int .i64 0, .int .i64 0, .int .i64 0, .slice none 0 0, .slice none 0 0, .slice none 0 0, .slice none 0 0, .int .i64 0] := by kernel_rfl
theorem en_45 : Ent Try.prog 45 := enters_of Try.func45 (by kernel_rfl) rfl
theorem en_31 : Ent Try.prog 31 := enters_of Try.func31 (by kernel_rfl) rfl
theorem en_53 : Ent Try.prog 53 := enters_of Try.func53 (by kernel_rfl) rfl
theorem en_81 : Ent Try.prog 81 := enters_of Try.func81 (by kernel_rfl) rfl
theorem en_80 : Ent Try.prog 80 := enters_of Try.func80 (by kernel_rfl) rfl
theorem en_82 : Ent Try.prog 82 := enters_of Try.func82 (by kernel_rfl) rfl
theorem en_94 : Ent Try.prog 94 := enters_of Try.func94 (by kernel_rfl) rfl
theorem en_79 : Ent Try.prog 79 := enters_of Try.func79 (by kernel_rfl) rfl
theorem en_83 : Ent Try.prog 83 := enters_of Try.func83 (by kernel_rfl) rfl
theorem en_84 : Ent Try.prog 84 := enters_of Try.func84 (by kernel_rfl) rfl
theorem en_85 : Ent Try.prog 85 := enters_of Try.func85 (by kernel_rfl) rfl
theorem en_67 : Ent Try.prog 67 := enters_of Try.func67 (by kernel_rfl) rfl
theorem en_65 : Ent Try.prog 65 := enters_of Try.func65 (by kernel_rfl) rfl
theorem en_68 : Ent Try.prog 68 := enters_of Try.func68 (by kernel_rfl) rfl
theorem en_66 : Ent Try.prog 66 := enters_of Try.func66 (by kernel_rfl) rfl
theorem en_69 : Ent Try.prog 69 := enters_of Try.func69 (by kernel_rfl) rfl
theorem en_75 : Ent Try.prog 75 := enters_of Try.func75 (by kernel_rfl) rfl
theorem az_36 : aggsz Try.prog 36 = some (true, 2) := by kernel_rfl
theorem en_76 : Ent Try.prog 76 := enters_of Try.func76 (by kernel_rfl) rfl
theorem en_51 : Ent Try.prog 51 := enters_of Try.func51 (by kernel_rfl) rfl
theorem en_58 : Ent Try.prog 58 := enters_of Try.func58 (by kernel_rfl) rfl
theorem en_60 : Ent Try.prog 60 := enters_of Try.func60 (by kernel_rfl) rfl
theorem en_59 : Ent Try.prog 59 := enters_of Try.func59 (by kernel_rfl) rfl
theorem en_61 : Ent Try.prog 61 := enters_of Try.func61 (by kernel_rfl) rfl
theorem ze_90 : zeroL Try.prog 90 = some [.int .i64 0, .int .i64 0, .int .i64 0, .int .i64 0, .int .i64 0, .int .i64 0] := by kernel_rfl
theorem fo_93_0 : fieldOff Try.prog 93 0 = some 0 := by kernel_rfl
theorem ze_36 : zeroL Try.prog 36 = some [.int .i64 0, .int .i64 0] := by kernel_rfl
theorem ar_90 : arrT Try.prog 90 = some (3, 6) := by kernel_rfl
theorem fo_93_1 : fieldOff Try.prog 93 1 = some 12 := by kernel_rfl
theorem az_76 : aggsz Try.prog 76 = some (false, 1) := by kernel_rfl
theorem az_90 : aggsz Try.prog 90 = some (true, 6) := by kernel_rfl
theorem mp_79 : mpT Try.prog 79 = some (90, 3) := by kernel_rfl
theorem laid_ : laidOutB Try.prog = true := by kernel_rfl
theorem kt_90 : KT Try.prog 90 6 ekA := KT.agg laid_ (by kernel_rfl) (by kernel_rfl) (by kernel_rfl) (by kernel_rfl)
theorem en_62 : Ent Try.prog 62 := enters_of Try.func62 (by kernel_rfl) rfl
theorem en_38 : Ent Try.prog 38 := enters_of Try.func38 (by kernel_rfl) rfl
theorem en_40 : Ent Try.prog 40 := enters_of Try.func40 (by kernel_rfl) rfl
theorem en_41 : Ent Try.prog 41 := enters_of Try.func41 (by kernel_rfl) rfl
theorem en_39 : Ent Try.prog 39 := enters_of Try.func39 (by kernel_rfl) rfl
theorem en_49 : Ent Try.prog 49 := enters_of Try.func49 (by kernel_rfl) rfl
theorem ap_31 : apT Try.prog 31 = some (56, 3, 24) := by kernel_rfl
theorem en_50 : Ent Try.prog 50 := enters_of Try.func50 (by kernel_rfl) rfl
theorem en_32 : Ent Try.prog 32 := enters_of Try.func32 (by kernel_rfl) rfl
theorem en_30 : Ent Try.prog 30 := enters_of Try.func30 (by kernel_rfl) rfl
theorem en_33 : Ent Try.prog 33 := enters_of Try.func33 (by kernel_rfl) rfl
theorem ap_28 : apT Try.prog 28 = some (3, 1, 8) := by kernel_rfl
theorem ul_59 : Try.prog.underlying 59 = some (.slice 58) := by kernel_rfl
theorem sl_59 : slT Try.prog 59 = some (58, 2) := by kernel_rfl
theorem en_70 : Ent Try.prog 70 := enters_of Try.func70 (by kernel_rfl) rfl
theorem en_52 : Ent Try.prog 52 := enters_of Try.func52 (by kernel_rfl) rfl
theorem en_54 : Ent Try.prog 54 := enters_of Try.func54 (by kernel_rfl) rfl
theorem ze_24 : zeroL Try.prog 24 = some [.int .i64 0, .int .i64 0] := by kernel_rfl
theorem fo_140_0 : fieldOff Try.prog 140 0 = some 0 := by kernel_rfl
theorem fo_140_1 : fieldOff Try.prog 140 1 = some 1 := by kernel_rfl
theorem en_98 : Ent Try.prog 98 := enters_of Try.func98 (by kernel_rfl) rfl
theorem en_96 : Ent Try.prog 96 := enters_of Try.func96 (by kernel_rfl) rfl
theorem en_86 : Ent Try.prog 86 := enters_of Try.func86 (by kernel_rfl) rfl
theorem en_87 : Ent Try.prog 87 := enters_of Try.func87 (by kernel_rfl) rfl
theorem ze_3 : zeroL Try.prog 3 = some [.int .i64 0] := by kernel_rfl
theorem en_88 : Ent Try.prog 88 := enters_of Try.func88 (by kernel_rfl) rfl
theorem ze_140 : zeroL Try.prog 140 = some [.int .i64 0, .int .i64 0] := by kernel_rfl
theorem az_140 : aggsz Try.prog 140 = some (true, 2) := by kernel_rfl
theorem en_89 : Ent Try.prog 89 := enters_of Try.func89 (by kernel_rfl) rfl
theorem en_90 : Ent Try.prog 90 := enters_of Try.func90 (by kernel_rfl) rfl
theorem en_95 : Ent Try.prog 95 := enters_of Try.func95 (by kernel_rfl) rfl
theorem en_91 : Ent Try.prog 91 := enters_of Try.func91 (by kernel_rfl) rfl
theorem en_73 : Ent Try.prog 73 := enters_of Try.func73 (by kernel_rfl) rfl
theorem ze_49 : zeroL Try.prog 49 = some [.int .i64 0, .int .i64 0] := by kernel_rfl
theorem en_71 : Ent Try.prog 71 := enters_of Try.func71 (by kernel_rfl) rfl
theorem en_72 : Ent Try.prog 72 := enters_of Try.func72 (by kernel_rfl) rfl
theorem ze_85 : zeroL Try.prog 85 = some [.int .i64 0, .slice none 0 0, .slice none 0 0] := by kernel_rfl
theorem en_55 : Ent Try.prog 55 := enters_of Try.func55 (by kernel_rfl) rfl
theorem ze_106 : zeroL Try.prog 106 = some [.int .u16 0] := by kernel_rfl
theorem en_74 : Ent Try.prog 74 := enters_of Try.func74 (by kernel_rfl) rfl
theorem az_106 : aggsz Try.prog 106 = some (false, 1) := by kernel_rfl
theorem en_92 : Ent Try.prog 92 := enters_of Try.func92 (by kernel_rfl) rfl
theorem en_57 : Ent Try.prog 57 := enters_of Try.func57 (by kernel_rfl) rfl
theorem en_56 : Ent Try.prog 56 := enters_of Try.func56 (by kernel_rfl) rfl
theorem en_34 : Ent Try.prog 34 := enters_of Try.func34 (by kernel_rfl) rfl
theorem en_35 : Ent Try.prog 35 := enters_of Try.func35 (by kernel_rfl) rfl
theorem en_36 : Ent Try.prog 36 := enters_of Try.func36 (by kernel_rfl) rfl
theorem ze_58 : zeroL Try.prog 58 = some [.int .i64 0, .int .i64 0] := by kernel_rfl
theorem az_100 : aggsz Try.prog 100 = some (false, 1) := by kernel_rfl
theorem mp_100 : mpT Try.prog 100 = some (58, 3) := by kernel_rfl
theorem kt_58 : KT Try.prog 58 2 ekA := KT.agg laid_ (by kernel_rfl) (by kernel_rfl) (by kernel_rfl) (by kernel_rfl)
theorem en_16 : Ent Try.prog 16 := enters_of Try.func16 (by kernel_rfl) rfl
theorem az_4 : aggsz Try.prog 4 = some (false, 1) := by kernel_rfl
theorem ze_100 : zeroL Try.prog 100 = some [.map none] := by kernel_rfl
theorem en_29 : Ent Try.prog 29 := enters_of Try.func29 (by kernel_rfl) rfl
theorem en_48 : Ent Try.prog 48 := enters_of Try.func48 (by kernel_rfl) rfl
theorem en_28 : Ent Try.prog 28 := enters_of Try.func28 (by kernel_rfl) rfl
theorem en_14 : Ent Try.prog 14 := enters_of Try.func14 (by kernel_rfl) rfl
theorem en_24 : Ent Try.prog 24 := enters_of Try.func24 (by kernel_rfl) rfl
theorem en_15 : Ent Try.prog 15 := enters_of Try.func15 (by kernel_rfl) rfl
theorem en_18 : Ent Try.prog 18 := enters_of Try.func18 (by kernel_rfl) rfl
theorem en_13 : Ent Try.prog 13 := enters_of Try.func13 (by kernel_rfl) rfl
theorem en_20 : Ent Try.prog 20 := enters_of Try.func20 (by kernel_rfl) rfl
theorem eqa_49 (a0 a1 b0 b1 : Int) (w : World) : (Op.equal 49 (.agg [.int .i64 a0, .int .i64 a1].toArray) (.agg [.int .i64 b0, .int .i64 b1].toArray)).run Try.prog w = .ok ((a0 == b0) && (a1 == b1)) w := by
 have h := run_equalIn_struct (P := Try.prog) w 9999 49 #[.int .i64 a0, .int .i64 a1] #[.int .i64 b0, .int .i64 b1] (by kernel_rfl) (by kernel_rfl)
 have h2 : (Op.eqFields 9999 #[.int .i64 a0, .int .i64 a1] #[.int .i64 b0, .int .i64 b1] (Try.prog.fieldsOf 49).toList).run Try.prog w = .ok ((a0 == b0) && (a1 == b1)) w := by
  cases e0 : (a0 == b0)
  ·simp [go_sem, Program.fieldsOf, e0]
  cases e1 : (a1 == b1)
  ·simp [go_sem, Program.fieldsOf, e0, e1]
  simp [go_sem, Program.fieldsOf, e0, e1]
 exact h.trans h2
theorem eqg_49 : Try.prog.eqGuardType Try.prog.depth 49 = false := by kernel_rfl
theorem ap_22 : apT Try.prog 22 = some (129, 7, 56) := by kernel_rfl
theorem en_46 : Ent Try.prog 46 := enters_of Try.func46 (by kernel_rfl) rfl
theorem ap_27 : apT Try.prog 27 = some (49, 2, 16) := by kernel_rfl
theorem en_25 : Ent Try.prog 25 := enters_of Try.func25 (by kernel_rfl) rfl
theorem ap_32 : apT Try.prog 32 = some (36, 2, 16) := by kernel_rfl
theorem en_26 : Ent Try.prog 26 := enters_of Try.func26 (by kernel_rfl) rfl
theorem en_8 : Ent Try.prog 8 := enters_of Try.func8 (by kernel_rfl) rfl
theorem en_9 : Ent Try.prog 9 := enters_of Try.func9 (by kernel_rfl) rfl
theorem en_10 : Ent Try.prog 10 := enters_of Try.func10 (by kernel_rfl) rfl
theorem en_11 : Ent Try.prog 11 := enters_of Try.func11 (by kernel_rfl) rfl
theorem fo_43_0 : fieldOff Try.prog 43 0 = some 0 := by kernel_rfl
theorem fo_43_1 : fieldOff Try.prog 43 1 = some 1 := by kernel_rfl
theorem fo_43_2 : fieldOff Try.prog 43 2 = some 2 := by kernel_rfl
theorem ub_4 : Try.prog.underlying 4 = some .bool := by kernel_rfl
theorem en_37 : Ent Try.prog 37 := enters_of Try.func37 (by kernel_rfl) rfl
theorem en_17 : Ent Try.prog 17 := enters_of Try.func17 (by kernel_rfl) rfl
theorem en_19 : Ent Try.prog 19 := enters_of Try.func19 (by kernel_rfl) rfl
theorem fo_67_0 : fieldOff Try.prog 67 0 = some 0 := by kernel_rfl
theorem fo_67_1 : fieldOff Try.prog 67 1 = some 1 := by kernel_rfl
theorem fo_67_2 : fieldOff Try.prog 67 2 = some 2 := by kernel_rfl
theorem en_21 : Ent Try.prog 21 := enters_of Try.func21 (by kernel_rfl) rfl
end Go.Proofs.Ytcipdblhopffbaa
end
