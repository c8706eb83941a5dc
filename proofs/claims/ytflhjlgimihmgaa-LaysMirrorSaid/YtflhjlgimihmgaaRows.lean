/-
  No cell of these rows narrows 'for every input' (looked for: loops, veiled, ifaces, maps, wideKeys, modest, calm, conditions, laid).
  DERIVED. THE GIVEN ROWS OF THIS SEAT. 7 by the template 'for every input the law returns true; each argument reads behind the call as it read before'; 0 by the template 'total and deterministic' (their statements: YtflhjlgimihmgaaTotals.lean).
  GIVEN WITH THE SEED: the statements are not yours to turn. If you find one false, say at which input.
  Laid BY PROGRAM, IN A SANDBOX (cutbox-rows.mjs): the forced cells as the released guide's own fill.sh prints them over the translation 989b2539e6214384… (all of the seat's roots in one cut). By AI agents, Wed Nov 11 2026. No macro, syntax, notation, axiom, sorry.
-/
import Derived.Test.YtflhjlgimihmgaaChecked
import GoSem.Claim
import GoSem.ClaimJoined
import GoSem.ClaimMapViews
import Derived.JoinedTies
import Derived.KernelRfl
namespace Go.Proofs.Ytflhjlgimihmgaa
/- THE CELL 'sum', in the pinned program and in every row, IS THE sha256 OF THE DUMP (.gsa) THAT YtflhjlgimihmgaaProg.lean LOADS. Nothing in Lean hashes anything: it is a label: what it is worth is what the hold of that sum in a sandbox is worth. -/
noncomputable def Try.pinned : Pinned := { name := "ytflhjlgimihmgaa", sum := "989b2539e62143849b702ff91010e273fa386bc4028bfbbae69a59712448c0ef", checked := Try.checked }
namespace Rows
def none {H : Type} : Left H := { results := [], args := [] }

/-- 'ferrulelaw03.LaysMore': WHATEVER THE INPUT: true; the input reads as it did. -/
def laysMoreSpec : ChangeSpec := { name := "laysMore", fn := fun _ => fun
  | [d1, d2] => { results := [.lit (.bool true)], args := [d1, d2] }
  | _ => none }
def laysMoreRow : OpenClaim := { program := "ytflhjlgimihmgaa", sum := "989b2539e62143849b702ff91010e273fa386bc4028bfbbae69a59712448c0ef", func := "ferrule/ferrulelaw03.LaysMore", spec := "laysMore", unfollowed := true, recurses := true, plainKeys := false, apart := false }
def LaysMoreSaid : Prop := laysMoreRow.holds Try.pinned (OpenSpec.ofChange laysMoreSpec)

/-- ITS FALSE NEIGHBOUR: 'it returns false'. Refute it at one input. -/
def laysMoreWrong : ChangeSpec := { name := "laysMore", fn := fun _ => fun
  | [d1, d2] => { results := [.lit (.bool false)], args := [d1, d2] }
  | _ => none }
def LaysMoreWrongFalsely : Prop := laysMoreRow.holds Try.pinned (OpenSpec.ofChange laysMoreWrong)

/-- 'ferrulelaw03.LaysMirror': WHATEVER THE INPUT: true; the input reads as it did. -/
def laysMirrorSpec : ChangeSpec := { name := "laysMirror", fn := fun _ => fun
  | [d1, d2] => { results := [.lit (.bool true)], args := [d1, d2] }
  | _ => none }
def laysMirrorRow : OpenClaim := { program := "ytflhjlgimihmgaa", sum := "989b2539e62143849b702ff91010e273fa386bc4028bfbbae69a59712448c0ef", func := "ferrule/ferrulelaw03.LaysMirror", spec := "laysMirror", unfollowed := true, recurses := true, plainKeys := false, apart := false }
def LaysMirrorSaid : Prop := laysMirrorRow.holds Try.pinned (OpenSpec.ofChange laysMirrorSpec)

/-- ITS FALSE NEIGHBOUR: 'it returns false'. Refute it at one input. -/
def laysMirrorWrong : ChangeSpec := { name := "laysMirror", fn := fun _ => fun
  | [d1, d2] => { results := [.lit (.bool false)], args := [d1, d2] }
  | _ => none }
def LaysMirrorWrongFalsely : Prop := laysMirrorRow.holds Try.pinned (OpenSpec.ofChange laysMirrorWrong)

/-- 'ferrulelaw03.LaysTruth': WHATEVER THE INPUT: true; the input reads as it did. -/
def laysTruthSpec : ChangeSpec := { name := "laysTruth", fn := fun _ => fun
  | [d1, d2, d3] => { results := [.lit (.bool true)], args := [d1, d2, d3] }
  | _ => none }
def laysTruthRow : OpenClaim := { program := "ytflhjlgimihmgaa", sum := "989b2539e62143849b702ff91010e273fa386bc4028bfbbae69a59712448c0ef", func := "ferrule/ferrulelaw03.LaysTruth", spec := "laysTruth", unfollowed := true, recurses := true, plainKeys := false, apart := false }
def LaysTruthSaid : Prop := laysTruthRow.holds Try.pinned (OpenSpec.ofChange laysTruthSpec)

/-- ITS FALSE NEIGHBOUR: 'it returns false'. Refute it at one input. -/
def laysTruthWrong : ChangeSpec := { name := "laysTruth", fn := fun _ => fun
  | [d1, d2, d3] => { results := [.lit (.bool false)], args := [d1, d2, d3] }
  | _ => none }
def LaysTruthWrongFalsely : Prop := laysTruthRow.holds Try.pinned (OpenSpec.ofChange laysTruthWrong)

/-- 'ferrulelaw03.LaysProof': WHATEVER THE INPUT: true; the input reads as it did. -/
def laysProofSpec : ChangeSpec := { name := "laysProof", fn := fun _ => fun
  | [d1, d2] => { results := [.lit (.bool true)], args := [d1, d2] }
  | _ => none }
def laysProofRow : OpenClaim := { program := "ytflhjlgimihmgaa", sum := "989b2539e62143849b702ff91010e273fa386bc4028bfbbae69a59712448c0ef", func := "ferrule/ferrulelaw03.LaysProof", spec := "laysProof", unfollowed := true, recurses := true, plainKeys := false, apart := false }
def LaysProofSaid : Prop := laysProofRow.holds Try.pinned (OpenSpec.ofChange laysProofSpec)

/-- ITS FALSE NEIGHBOUR: 'it returns false'. Refute it at one input. -/
def laysProofWrong : ChangeSpec := { name := "laysProof", fn := fun _ => fun
  | [d1, d2] => { results := [.lit (.bool false)], args := [d1, d2] }
  | _ => none }
def LaysProofWrongFalsely : Prop := laysProofRow.holds Try.pinned (OpenSpec.ofChange laysProofWrong)

/-- 'ferrulelaw03.LaysLonger': WHATEVER THE INPUT: true; the input reads as it did. -/
def laysLongerSpec : ChangeSpec := { name := "laysLonger", fn := fun _ => fun
  | [d1, d2] => { results := [.lit (.bool true)], args := [d1, d2] }
  | _ => none }
def laysLongerRow : OpenClaim := { program := "ytflhjlgimihmgaa", sum := "989b2539e62143849b702ff91010e273fa386bc4028bfbbae69a59712448c0ef", func := "ferrule/ferrulelaw03.LaysLonger", spec := "laysLonger", unfollowed := true, recurses := true, plainKeys := false, apart := false }
def LaysLongerSaid : Prop := laysLongerRow.holds Try.pinned (OpenSpec.ofChange laysLongerSpec)

/-- ITS FALSE NEIGHBOUR: 'it returns false'. Refute it at one input. -/
def laysLongerWrong : ChangeSpec := { name := "laysLonger", fn := fun _ => fun
  | [d1, d2] => { results := [.lit (.bool false)], args := [d1, d2] }
  | _ => none }
def LaysLongerWrongFalsely : Prop := laysLongerRow.holds Try.pinned (OpenSpec.ofChange laysLongerWrong)

/-- 'ferrulelaw03.LaysLeast': WHATEVER THE INPUT: true; the input reads as it did. -/
def laysLeastSpec : ChangeSpec := { name := "laysLeast", fn := fun _ => fun
  | [d] => { results := [.lit (.bool true)], args := [d] }
  | _ => none }
def laysLeastRow : OpenClaim := { program := "ytflhjlgimihmgaa", sum := "989b2539e62143849b702ff91010e273fa386bc4028bfbbae69a59712448c0ef", func := "ferrule/ferrulelaw03.LaysLeast", spec := "laysLeast", unfollowed := true, recurses := true, plainKeys := false, apart := false }
def LaysLeastSaid : Prop := laysLeastRow.holds Try.pinned (OpenSpec.ofChange laysLeastSpec)

/-- ITS FALSE NEIGHBOUR: 'it returns false'. Refute it at one input. -/
def laysLeastWrong : ChangeSpec := { name := "laysLeast", fn := fun _ => fun
  | [d] => { results := [.lit (.bool false)], args := [d] }
  | _ => none }
def LaysLeastWrongFalsely : Prop := laysLeastRow.holds Try.pinned (OpenSpec.ofChange laysLeastWrong)

/-- 'ferrulelaw03.LaysCells': WHATEVER THE INPUT: true; the input reads as it did. -/
def laysCellsSpec : ChangeSpec := { name := "laysCells", fn := fun _ => fun
  | [d1, d2, d3] => { results := [.lit (.bool true)], args := [d1, d2, d3] }
  | _ => none }
def laysCellsRow : OpenClaim := { program := "ytflhjlgimihmgaa", sum := "989b2539e62143849b702ff91010e273fa386bc4028bfbbae69a59712448c0ef", func := "ferrule/ferrulelaw03.LaysCells", spec := "laysCells", unfollowed := true, recurses := true, plainKeys := false, apart := false }
def LaysCellsSaid : Prop := laysCellsRow.holds Try.pinned (OpenSpec.ofChange laysCellsSpec)

/-- ITS FALSE NEIGHBOUR: 'it returns false'. Refute it at one input. -/
def laysCellsWrong : ChangeSpec := { name := "laysCells", fn := fun _ => fun
  | [d1, d2, d3] => { results := [.lit (.bool false)], args := [d1, d2, d3] }
  | _ => none }
def LaysCellsWrongFalsely : Prop := laysCellsRow.holds Try.pinned (OpenSpec.ofChange laysCellsWrong)

/- THE SECOND FORM. 'bulk': how many values and letters a reading holds, each counted each time it is reached (what is shared counts as often as it is met; a slice's spare places count too). A statement '..UptoSaid' is the law's where the arguments, and the package variables that the reading takes, are together of bulk at most 1048576: NARROWER than '..Said'. Prove '..Said' where nothing that the law and all that it calls make is longer than what came in: it says more and counts as full. Else prove '..UptoSaid'. A law counts once. -/
mutual
def uptoBulk {H : Type} : DataW H → Nat
  | .lit (.string bytes) => bytes.length + 1
  | .lit _ => 1
  | .nil => 1
  | .ptr d => uptoBulk d + 1
  | .slice elems spare => uptoBulkAll elems + uptoBulkAll spare + 1
  | .agg parts => uptoBulkAll parts + 1
  | .iface _ d => uptoBulk d + 1
  | .map entries => uptoBulkEntries entries + 1
  | .held _ => 1
def uptoBulkAll {H : Type} : List (DataW H) → Nat
  | [] => 0
  | d :: r => uptoBulk d + uptoBulkAll r
def uptoBulkEntries {H : Type} : List (Lit × DataW H) → Nat
  | [] => 0
  | x :: r => uptoBulkEntry x + uptoBulkEntries r
def uptoBulkEntry {H : Type} : Lit × DataW H → Nat
  | (.string bytes, d) => bytes.length + uptoBulk d + 1
  | (_, d) => uptoBulk d + 1
 end
def uptoSmall : (H : Type) → List (DataW H) → Bool := fun _ ds => decide (uptoBulkAll ds ≤ 1048576)
def OpenSpec.upto (s : _root_.Go.ChangeSpec) : _root_.Go.OpenSpec := { _root_.Go.OpenSpec.ofChange s with cond := some uptoSmall }

/-- 'ferrulelaw03.LaysMore', WHERE WHAT IT READS IS OF BULK AT MOST 1048576: true; the input reads as it did. -/
def laysMoreUptoRow : OpenClaim := { program := "ytflhjlgimihmgaa", sum := "989b2539e62143849b702ff91010e273fa386bc4028bfbbae69a59712448c0ef", func := "ferrule/ferrulelaw03.LaysMore", spec := "laysMore", unfollowed := true, recurses := true, plainKeys := false, apart := false, narrowed := true }
def LaysMoreUptoSaid : Prop := laysMoreUptoRow.holds Try.pinned (OpenSpec.upto laysMoreSpec)

/-- 'ferrulelaw03.LaysMirror', WHERE WHAT IT READS IS OF BULK AT MOST 1048576: true; the input reads as it did. -/
def laysMirrorUptoRow : OpenClaim := { program := "ytflhjlgimihmgaa", sum := "989b2539e62143849b702ff91010e273fa386bc4028bfbbae69a59712448c0ef", func := "ferrule/ferrulelaw03.LaysMirror", spec := "laysMirror", unfollowed := true, recurses := true, plainKeys := false, apart := false, narrowed := true }
def LaysMirrorUptoSaid : Prop := laysMirrorUptoRow.holds Try.pinned (OpenSpec.upto laysMirrorSpec)

/-- 'ferrulelaw03.LaysTruth', WHERE WHAT IT READS IS OF BULK AT MOST 1048576: true; the input reads as it did. -/
def laysTruthUptoRow : OpenClaim := { program := "ytflhjlgimihmgaa", sum := "989b2539e62143849b702ff91010e273fa386bc4028bfbbae69a59712448c0ef", func := "ferrule/ferrulelaw03.LaysTruth", spec := "laysTruth", unfollowed := true, recurses := true, plainKeys := false, apart := false, narrowed := true }
def LaysTruthUptoSaid : Prop := laysTruthUptoRow.holds Try.pinned (OpenSpec.upto laysTruthSpec)

/-- 'ferrulelaw03.LaysProof', WHERE WHAT IT READS IS OF BULK AT MOST 1048576: true; the input reads as it did. -/
def laysProofUptoRow : OpenClaim := { program := "ytflhjlgimihmgaa", sum := "989b2539e62143849b702ff91010e273fa386bc4028bfbbae69a59712448c0ef", func := "ferrule/ferrulelaw03.LaysProof", spec := "laysProof", unfollowed := true, recurses := true, plainKeys := false, apart := false, narrowed := true }
def LaysProofUptoSaid : Prop := laysProofUptoRow.holds Try.pinned (OpenSpec.upto laysProofSpec)

/-- 'ferrulelaw03.LaysLonger', WHERE WHAT IT READS IS OF BULK AT MOST 1048576: true; the input reads as it did. -/
def laysLongerUptoRow : OpenClaim := { program := "ytflhjlgimihmgaa", sum := "989b2539e62143849b702ff91010e273fa386bc4028bfbbae69a59712448c0ef", func := "ferrule/ferrulelaw03.LaysLonger", spec := "laysLonger", unfollowed := true, recurses := true, plainKeys := false, apart := false, narrowed := true }
def LaysLongerUptoSaid : Prop := laysLongerUptoRow.holds Try.pinned (OpenSpec.upto laysLongerSpec)

/-- 'ferrulelaw03.LaysLeast', WHERE WHAT IT READS IS OF BULK AT MOST 1048576: true; the input reads as it did. -/
def laysLeastUptoRow : OpenClaim := { program := "ytflhjlgimihmgaa", sum := "989b2539e62143849b702ff91010e273fa386bc4028bfbbae69a59712448c0ef", func := "ferrule/ferrulelaw03.LaysLeast", spec := "laysLeast", unfollowed := true, recurses := true, plainKeys := false, apart := false, narrowed := true }
def LaysLeastUptoSaid : Prop := laysLeastUptoRow.holds Try.pinned (OpenSpec.upto laysLeastSpec)

/-- 'ferrulelaw03.LaysCells', WHERE WHAT IT READS IS OF BULK AT MOST 1048576: true; the input reads as it did. -/
def laysCellsUptoRow : OpenClaim := { program := "ytflhjlgimihmgaa", sum := "989b2539e62143849b702ff91010e273fa386bc4028bfbbae69a59712448c0ef", func := "ferrule/ferrulelaw03.LaysCells", spec := "laysCells", unfollowed := true, recurses := true, plainKeys := false, apart := false, narrowed := true }
def LaysCellsUptoSaid : Prop := laysCellsUptoRow.holds Try.pinned (OpenSpec.upto laysCellsSpec)

end Rows
end Go.Proofs.Ytflhjlgimihmgaa
