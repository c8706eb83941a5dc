/-
  No cell of these rows narrows 'for every input' (looked for: loops, veiled, ifaces, maps, wideKeys, modest, calm, conditions, laid).
  DERIVED. THE GIVEN ROWS OF THIS SEAT. 6 by the template 'for every input the law returns true; each argument reads behind the call as it read before'; 0 by the template 'total and deterministic' (their statements: YteihdclpiekmaaaTotals.lean).
  GIVEN WITH THE SEED: the statements are not yours to turn. If you find one false, say at which input.
  Laid BY PROGRAM, IN A SANDBOX (cutbox-rows.mjs): the forced cells as the released guide's own fill.sh prints them over the translation 2e1518a6d4f48090… (all of the seat's roots in one cut). By AI agents, Wed Nov 11 2026. No macro, syntax, notation, axiom, sorry.
-/
import Derived.Test.YteihdclpiekmaaaChecked
import GoSem.Claim
import GoSem.ClaimJoined
import GoSem.ClaimMapViews
import Derived.JoinedTies
import Derived.KernelRfl
namespace Go.Proofs.Yteihdclpiekmaaa
/- THE CELL 'sum', in the pinned program and in every row, IS THE sha256 OF THE DUMP (.gsa) THAT YteihdclpiekmaaaProg.lean LOADS. Nothing in Lean hashes anything: it is a label: what it is worth is what the hold of that sum in a sandbox is worth. -/
noncomputable def Try.pinned : Pinned := { name := "yteihdclpiekmaaa", sum := "2e1518a6d4f48090efe94ff4c35381ff9181908126a012e6090c1f90258439d9", checked := Try.checked }
namespace Rows
def none {H : Type} : Left H := { results := [], args := [] }

/-- 'ferruletop.TopStiff': WHATEVER THE INPUT: true; the input reads as it did. -/
def topStiffSpec : ChangeSpec := { name := "topStiff", fn := fun _ => fun
  | [d] => { results := [.lit (.bool true)], args := [d] }
  | _ => none }
def topStiffRow : OpenClaim := { program := "yteihdclpiekmaaa", sum := "2e1518a6d4f48090efe94ff4c35381ff9181908126a012e6090c1f90258439d9", func := "ferrule/ferruletop.TopStiff", spec := "topStiff", unfollowed := true, recurses := true, plainKeys := false, apart := false }
def TopStiffSaid : Prop := topStiffRow.holds Try.pinned (OpenSpec.ofChange topStiffSpec)

/-- ITS FALSE NEIGHBOUR: 'it returns false'. Refute it at one input. -/
def topStiffWrong : ChangeSpec := { name := "topStiff", fn := fun _ => fun
  | [d] => { results := [.lit (.bool false)], args := [d] }
  | _ => none }
def TopStiffWrongFalsely : Prop := topStiffRow.holds Try.pinned (OpenSpec.ofChange topStiffWrong)

/-- 'ferruletop.TopRib': WHATEVER THE INPUT: true; the input reads as it did. -/
def topRibSpec : ChangeSpec := { name := "topRib", fn := fun _ => fun
  | [d1, d2, d3] => { results := [.lit (.bool true)], args := [d1, d2, d3] }
  | _ => none }
def topRibRow : OpenClaim := { program := "yteihdclpiekmaaa", sum := "2e1518a6d4f48090efe94ff4c35381ff9181908126a012e6090c1f90258439d9", func := "ferrule/ferruletop.TopRib", spec := "topRib", unfollowed := true, recurses := true, plainKeys := false, apart := false }
def TopRibSaid : Prop := topRibRow.holds Try.pinned (OpenSpec.ofChange topRibSpec)

/-- ITS FALSE NEIGHBOUR: 'it returns false'. Refute it at one input. -/
def topRibWrong : ChangeSpec := { name := "topRib", fn := fun _ => fun
  | [d1, d2, d3] => { results := [.lit (.bool false)], args := [d1, d2, d3] }
  | _ => none }
def TopRibWrongFalsely : Prop := topRibRow.holds Try.pinned (OpenSpec.ofChange topRibWrong)

/-- 'ferruletop.TopLift': WHATEVER THE INPUT: true; the input reads as it did. -/
def topLiftSpec : ChangeSpec := { name := "topLift", fn := fun _ => fun
  | [d1, d2] => { results := [.lit (.bool true)], args := [d1, d2] }
  | _ => none }
def topLiftRow : OpenClaim := { program := "yteihdclpiekmaaa", sum := "2e1518a6d4f48090efe94ff4c35381ff9181908126a012e6090c1f90258439d9", func := "ferrule/ferruletop.TopLift", spec := "topLift", unfollowed := true, recurses := true, plainKeys := false, apart := false }
def TopLiftSaid : Prop := topLiftRow.holds Try.pinned (OpenSpec.ofChange topLiftSpec)

/-- ITS FALSE NEIGHBOUR: 'it returns false'. Refute it at one input. -/
def topLiftWrong : ChangeSpec := { name := "topLift", fn := fun _ => fun
  | [d1, d2] => { results := [.lit (.bool false)], args := [d1, d2] }
  | _ => none }
def TopLiftWrongFalsely : Prop := topLiftRow.holds Try.pinned (OpenSpec.ofChange topLiftWrong)

/-- 'ferruletop.TopFiner': WHATEVER THE INPUT: true; the input reads as it did. -/
def topFinerSpec : ChangeSpec := { name := "topFiner", fn := fun _ => fun
  | [d1, d2] => { results := [.lit (.bool true)], args := [d1, d2] }
  | _ => none }
def topFinerRow : OpenClaim := { program := "yteihdclpiekmaaa", sum := "2e1518a6d4f48090efe94ff4c35381ff9181908126a012e6090c1f90258439d9", func := "ferrule/ferruletop.TopFiner", spec := "topFiner", unfollowed := true, recurses := true, plainKeys := false, apart := false }
def TopFinerSaid : Prop := topFinerRow.holds Try.pinned (OpenSpec.ofChange topFinerSpec)

/-- ITS FALSE NEIGHBOUR: 'it returns false'. Refute it at one input. -/
def topFinerWrong : ChangeSpec := { name := "topFiner", fn := fun _ => fun
  | [d1, d2] => { results := [.lit (.bool false)], args := [d1, d2] }
  | _ => none }
def TopFinerWrongFalsely : Prop := topFinerRow.holds Try.pinned (OpenSpec.ofChange topFinerWrong)

/-- 'ferruletop.TopMost': WHATEVER THE INPUT: true; the input reads as it did. -/
def topMostSpec : ChangeSpec := { name := "topMost", fn := fun _ => fun
  | [d] => { results := [.lit (.bool true)], args := [d] }
  | _ => none }
def topMostRow : OpenClaim := { program := "yteihdclpiekmaaa", sum := "2e1518a6d4f48090efe94ff4c35381ff9181908126a012e6090c1f90258439d9", func := "ferrule/ferruletop.TopMost", spec := "topMost", unfollowed := true, recurses := true, plainKeys := false, apart := false }
def TopMostSaid : Prop := topMostRow.holds Try.pinned (OpenSpec.ofChange topMostSpec)

/-- ITS FALSE NEIGHBOUR: 'it returns false'. Refute it at one input. -/
def topMostWrong : ChangeSpec := { name := "topMost", fn := fun _ => fun
  | [d] => { results := [.lit (.bool false)], args := [d] }
  | _ => none }
def TopMostWrongFalsely : Prop := topMostRow.holds Try.pinned (OpenSpec.ofChange topMostWrong)

/-- 'ferruletop.TopWeak': WHATEVER THE INPUT: true; the input reads as it did. -/
def topWeakSpec : ChangeSpec := { name := "topWeak", fn := fun _ => fun
  | [d1, d2] => { results := [.lit (.bool true)], args := [d1, d2] }
  | _ => none }
def topWeakRow : OpenClaim := { program := "yteihdclpiekmaaa", sum := "2e1518a6d4f48090efe94ff4c35381ff9181908126a012e6090c1f90258439d9", func := "ferrule/ferruletop.TopWeak", spec := "topWeak", unfollowed := true, recurses := true, plainKeys := false, apart := false }
def TopWeakSaid : Prop := topWeakRow.holds Try.pinned (OpenSpec.ofChange topWeakSpec)

/-- ITS FALSE NEIGHBOUR: 'it returns false'. Refute it at one input. -/
def topWeakWrong : ChangeSpec := { name := "topWeak", fn := fun _ => fun
  | [d1, d2] => { results := [.lit (.bool false)], args := [d1, d2] }
  | _ => none }
def TopWeakWrongFalsely : Prop := topWeakRow.holds Try.pinned (OpenSpec.ofChange topWeakWrong)

/- THE SECOND FORM. 'bulk': how many values and letters a reading holds, each counted each time it is reached (what is shared counts as often as it is met; a slice's spare places count too). A statement '..UptoSaid' is the law's where the arguments, and the package variables that the reading takes, are together of bulk at most 1048576: NARROWER than '..Said'. Prove '..Said' where nothing that the law and all that it calls make is longer than what came in: it says more and counts as full. Else prove '..UptoSaid'. A law counts once. -/
mutual
def uptoBulk {H : Type} : DataW H → Nat
  | .lit (.string bytes) => bytes.length + 1
  | .lit _ => 1
  | .nil => 1
  | .ptr d => uptoBulk d + 1
  | .slice elems spare => uptoBulkAll elems + uptoBulkAll spare + 1
  | .agg parts => uptoBulkAll parts + 1
  | .iface _ d => uptoBulk d + 1
  | .map entries => uptoBulkEntries entries + 1
  | .held _ => 1
def uptoBulkAll {H : Type} : List (DataW H) → Nat
  | [] => 0
  | d :: r => uptoBulk d + uptoBulkAll r
def uptoBulkEntries {H : Type} : List (Lit × DataW H) → Nat
  | [] => 0
  | x :: r => uptoBulkEntry x + uptoBulkEntries r
def uptoBulkEntry {H : Type} : Lit × DataW H → Nat
  | (.string bytes, d) => bytes.length + uptoBulk d + 1
  | (_, d) => uptoBulk d + 1
 end
def uptoSmall : (H : Type) → List (DataW H) → Bool := fun _ ds => decide (uptoBulkAll ds ≤ 1048576)
def OpenSpec.upto (s : _root_.Go.ChangeSpec) : _root_.Go.OpenSpec := { _root_.Go.OpenSpec.ofChange s with cond := some uptoSmall }

/-- 'ferruletop.TopStiff', WHERE WHAT IT READS IS OF BULK AT MOST 1048576: true; the input reads as it did. -/
def topStiffUptoRow : OpenClaim := { program := "yteihdclpiekmaaa", sum := "2e1518a6d4f48090efe94ff4c35381ff9181908126a012e6090c1f90258439d9", func := "ferrule/ferruletop.TopStiff", spec := "topStiff", unfollowed := true, recurses := true, plainKeys := false, apart := false, narrowed := true }
def TopStiffUptoSaid : Prop := topStiffUptoRow.holds Try.pinned (OpenSpec.upto topStiffSpec)

/-- 'ferruletop.TopRib', WHERE WHAT IT READS IS OF BULK AT MOST 1048576: true; the input reads as it did. -/
def topRibUptoRow : OpenClaim := { program := "yteihdclpiekmaaa", sum := "2e1518a6d4f48090efe94ff4c35381ff9181908126a012e6090c1f90258439d9", func := "ferrule/ferruletop.TopRib", spec := "topRib", unfollowed := true, recurses := true, plainKeys := false, apart := false, narrowed := true }
def TopRibUptoSaid : Prop := topRibUptoRow.holds Try.pinned (OpenSpec.upto topRibSpec)

/-- 'ferruletop.TopLift', WHERE WHAT IT READS IS OF BULK AT MOST 1048576: true; the input reads as it did. -/
def topLiftUptoRow : OpenClaim := { program := "yteihdclpiekmaaa", sum := "2e1518a6d4f48090efe94ff4c35381ff9181908126a012e6090c1f90258439d9", func := "ferrule/ferruletop.TopLift", spec := "topLift", unfollowed := true, recurses := true, plainKeys := false, apart := false, narrowed := true }
def TopLiftUptoSaid : Prop := topLiftUptoRow.holds Try.pinned (OpenSpec.upto topLiftSpec)

/-- 'ferruletop.TopFiner', WHERE WHAT IT READS IS OF BULK AT MOST 1048576: true; the input reads as it did. -/
def topFinerUptoRow : OpenClaim := { program := "yteihdclpiekmaaa", sum := "2e1518a6d4f48090efe94ff4c35381ff9181908126a012e6090c1f90258439d9", func := "ferrule/ferruletop.TopFiner", spec := "topFiner", unfollowed := true, recurses := true, plainKeys := false, apart := false, narrowed := true }
def TopFinerUptoSaid : Prop := topFinerUptoRow.holds Try.pinned (OpenSpec.upto topFinerSpec)

/-- 'ferruletop.TopMost', WHERE WHAT IT READS IS OF BULK AT MOST 1048576: true; the input reads as it did. -/
def topMostUptoRow : OpenClaim := { program := "yteihdclpiekmaaa", sum := "2e1518a6d4f48090efe94ff4c35381ff9181908126a012e6090c1f90258439d9", func := "ferrule/ferruletop.TopMost", spec := "topMost", unfollowed := true, recurses := true, plainKeys := false, apart := false, narrowed := true }
def TopMostUptoSaid : Prop := topMostUptoRow.holds Try.pinned (OpenSpec.upto topMostSpec)

/-- 'ferruletop.TopWeak', WHERE WHAT IT READS IS OF BULK AT MOST 1048576: true; the input reads as it did. -/
def topWeakUptoRow : OpenClaim := { program := "yteihdclpiekmaaa", sum := "2e1518a6d4f48090efe94ff4c35381ff9181908126a012e6090c1f90258439d9", func := "ferrule/ferruletop.TopWeak", spec := "topWeak", unfollowed := true, recurses := true, plainKeys := false, apart := false, narrowed := true }
def TopWeakUptoSaid : Prop := topWeakUptoRow.holds Try.pinned (OpenSpec.upto topWeakSpec)

end Rows
end Go.Proofs.Yteihdclpiekmaaa
