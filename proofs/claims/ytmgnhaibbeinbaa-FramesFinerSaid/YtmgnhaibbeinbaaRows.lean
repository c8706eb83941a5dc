/-
  No cell of these rows narrows 'for every input' (looked for: loops, veiled, ifaces, maps, wideKeys, modest, calm, conditions, laid).
  DERIVED. THE GIVEN ROWS OF THIS SEAT. 8 by the template 'for every input the law returns true; each argument reads behind the call as it read before'; 0 by the template 'total and deterministic' (their statements: YtmgnhaibbeinbaaTotals.lean).
  GIVEN WITH THE SEED: the statements are not yours to turn. If you find one false, say at which input.
  Laid BY PROGRAM, IN A SANDBOX (cutbox-rows.mjs): the forced cells as the released guide's own fill.sh prints them over the translation 78db53ccdb5b738f… (all of the seat's roots in one cut). By AI agents, Wed Nov 11 2026. No macro, syntax, notation, axiom, sorry.
-/
import Derived.Test.YtmgnhaibbeinbaaChecked
import GoSem.Claim
import GoSem.ClaimJoined
import GoSem.ClaimMapViews
import Derived.JoinedTies
import Derived.KernelRfl
namespace Go.Proofs.Ytmgnhaibbeinbaa
/- THE CELL 'sum', in the pinned program and in every row, IS THE sha256 OF THE DUMP (.gsa) THAT YtmgnhaibbeinbaaProg.lean LOADS. Nothing in Lean hashes anything: it is a label: what it is worth is what the hold of that sum in a sandbox is worth. -/
noncomputable def Try.pinned : Pinned := { name := "ytmgnhaibbeinbaa", sum := "78db53ccdb5b738fa443acc131e6f0e835b465fed40998a9a2331f42cd2ea97f", checked := Try.checked }
namespace Rows
def none {H : Type} : Left H := { results := [], args := [] }

/-- 'ferrulelaw01.FramesCosine': WHATEVER THE INPUT: true; the input reads as it did. -/
def framesCosineSpec : ChangeSpec := { name := "framesCosine", fn := fun _ => fun
  | [d1, d2] => { results := [.lit (.bool true)], args := [d1, d2] }
  | _ => none }
def framesCosineRow : OpenClaim := { program := "ytmgnhaibbeinbaa", sum := "78db53ccdb5b738fa443acc131e6f0e835b465fed40998a9a2331f42cd2ea97f", func := "ferrule/ferrulelaw01.FramesCosine", spec := "framesCosine", unfollowed := true, recurses := true, apart := false }
def FramesCosineSaid : Prop := framesCosineRow.holds Try.pinned (OpenSpec.ofChange framesCosineSpec)

/-- ITS FALSE NEIGHBOUR: 'it returns false'. Refute it at one input. -/
def framesCosineWrong : ChangeSpec := { name := "framesCosine", fn := fun _ => fun
  | [d1, d2] => { results := [.lit (.bool false)], args := [d1, d2] }
  | _ => none }
def FramesCosineWrongFalsely : Prop := framesCosineRow.holds Try.pinned (OpenSpec.ofChange framesCosineWrong)

/-- 'ferrulelaw01.FramesEnds': WHATEVER THE INPUT: true; the input reads as it did. -/
def framesEndsSpec : ChangeSpec := { name := "framesEnds", fn := fun _ => fun
  | [d1, d2] => { results := [.lit (.bool true)], args := [d1, d2] }
  | _ => none }
def framesEndsRow : OpenClaim := { program := "ytmgnhaibbeinbaa", sum := "78db53ccdb5b738fa443acc131e6f0e835b465fed40998a9a2331f42cd2ea97f", func := "ferrule/ferrulelaw01.FramesEnds", spec := "framesEnds", unfollowed := true, recurses := true, apart := false }
def FramesEndsSaid : Prop := framesEndsRow.holds Try.pinned (OpenSpec.ofChange framesEndsSpec)

/-- ITS FALSE NEIGHBOUR: 'it returns false'. Refute it at one input. -/
def framesEndsWrong : ChangeSpec := { name := "framesEnds", fn := fun _ => fun
  | [d1, d2] => { results := [.lit (.bool false)], args := [d1, d2] }
  | _ => none }
def FramesEndsWrongFalsely : Prop := framesEndsRow.holds Try.pinned (OpenSpec.ofChange framesEndsWrong)

/-- 'ferrulelaw01.FramesEase': WHATEVER THE INPUT: true; the input reads as it did. -/
def framesEaseSpec : ChangeSpec := { name := "framesEase", fn := fun _ => fun
  | [d1, d2, d3] => { results := [.lit (.bool true)], args := [d1, d2, d3] }
  | _ => none }
def framesEaseRow : OpenClaim := { program := "ytmgnhaibbeinbaa", sum := "78db53ccdb5b738fa443acc131e6f0e835b465fed40998a9a2331f42cd2ea97f", func := "ferrule/ferrulelaw01.FramesEase", spec := "framesEase", unfollowed := true, recurses := true, apart := false }
def FramesEaseSaid : Prop := framesEaseRow.holds Try.pinned (OpenSpec.ofChange framesEaseSpec)

/-- ITS FALSE NEIGHBOUR: 'it returns false'. Refute it at one input. -/
def framesEaseWrong : ChangeSpec := { name := "framesEase", fn := fun _ => fun
  | [d1, d2, d3] => { results := [.lit (.bool false)], args := [d1, d2, d3] }
  | _ => none }
def FramesEaseWrongFalsely : Prop := framesEaseRow.holds Try.pinned (OpenSpec.ofChange framesEaseWrong)

/-- 'ferrulelaw01.FramesLarger': WHATEVER THE INPUT: true; the input reads as it did. -/
def framesLargerSpec : ChangeSpec := { name := "framesLarger", fn := fun _ => fun
  | [d1, d2, d3] => { results := [.lit (.bool true)], args := [d1, d2, d3] }
  | _ => none }
def framesLargerRow : OpenClaim := { program := "ytmgnhaibbeinbaa", sum := "78db53ccdb5b738fa443acc131e6f0e835b465fed40998a9a2331f42cd2ea97f", func := "ferrule/ferrulelaw01.FramesLarger", spec := "framesLarger", unfollowed := true, recurses := true, apart := false }
def FramesLargerSaid : Prop := framesLargerRow.holds Try.pinned (OpenSpec.ofChange framesLargerSpec)

/-- ITS FALSE NEIGHBOUR: 'it returns false'. Refute it at one input. -/
def framesLargerWrong : ChangeSpec := { name := "framesLarger", fn := fun _ => fun
  | [d1, d2, d3] => { results := [.lit (.bool false)], args := [d1, d2, d3] }
  | _ => none }
def FramesLargerWrongFalsely : Prop := framesLargerRow.holds Try.pinned (OpenSpec.ofChange framesLargerWrong)

/-- 'ferrulelaw01.FramesFolds': WHATEVER THE INPUT: true; the input reads as it did. -/
def framesFoldsSpec : ChangeSpec := { name := "framesFolds", fn := fun _ => fun
  | [d1, d2] => { results := [.lit (.bool true)], args := [d1, d2] }
  | _ => none }
def framesFoldsRow : OpenClaim := { program := "ytmgnhaibbeinbaa", sum := "78db53ccdb5b738fa443acc131e6f0e835b465fed40998a9a2331f42cd2ea97f", func := "ferrule/ferrulelaw01.FramesFolds", spec := "framesFolds", unfollowed := true, recurses := true, apart := false }
def FramesFoldsSaid : Prop := framesFoldsRow.holds Try.pinned (OpenSpec.ofChange framesFoldsSpec)

/-- ITS FALSE NEIGHBOUR: 'it returns false'. Refute it at one input. -/
def framesFoldsWrong : ChangeSpec := { name := "framesFolds", fn := fun _ => fun
  | [d1, d2] => { results := [.lit (.bool false)], args := [d1, d2] }
  | _ => none }
def FramesFoldsWrongFalsely : Prop := framesFoldsRow.holds Try.pinned (OpenSpec.ofChange framesFoldsWrong)

/-- 'ferrulelaw01.FramesTrue': WHATEVER THE INPUT: true; the input reads as it did. -/
def framesTrueSpec : ChangeSpec := { name := "framesTrue", fn := fun _ => fun
  | [d1, d2, d3] => { results := [.lit (.bool true)], args := [d1, d2, d3] }
  | _ => none }
def framesTrueRow : OpenClaim := { program := "ytmgnhaibbeinbaa", sum := "78db53ccdb5b738fa443acc131e6f0e835b465fed40998a9a2331f42cd2ea97f", func := "ferrule/ferrulelaw01.FramesTrue", spec := "framesTrue", unfollowed := true, recurses := true, apart := false }
def FramesTrueSaid : Prop := framesTrueRow.holds Try.pinned (OpenSpec.ofChange framesTrueSpec)

/-- ITS FALSE NEIGHBOUR: 'it returns false'. Refute it at one input. -/
def framesTrueWrong : ChangeSpec := { name := "framesTrue", fn := fun _ => fun
  | [d1, d2, d3] => { results := [.lit (.bool false)], args := [d1, d2, d3] }
  | _ => none }
def FramesTrueWrongFalsely : Prop := framesTrueRow.holds Try.pinned (OpenSpec.ofChange framesTrueWrong)

/-- 'ferrulelaw01.FramesFiner': WHATEVER THE INPUT: true; the input reads as it did. -/
def framesFinerSpec : ChangeSpec := { name := "framesFiner", fn := fun _ => fun
  | [d1, d2, d3] => { results := [.lit (.bool true)], args := [d1, d2, d3] }
  | _ => none }
def framesFinerRow : OpenClaim := { program := "ytmgnhaibbeinbaa", sum := "78db53ccdb5b738fa443acc131e6f0e835b465fed40998a9a2331f42cd2ea97f", func := "ferrule/ferrulelaw01.FramesFiner", spec := "framesFiner", unfollowed := true, recurses := true, apart := false }
def FramesFinerSaid : Prop := framesFinerRow.holds Try.pinned (OpenSpec.ofChange framesFinerSpec)

/-- ITS FALSE NEIGHBOUR: 'it returns false'. Refute it at one input. -/
def framesFinerWrong : ChangeSpec := { name := "framesFiner", fn := fun _ => fun
  | [d1, d2, d3] => { results := [.lit (.bool false)], args := [d1, d2, d3] }
  | _ => none }
def FramesFinerWrongFalsely : Prop := framesFinerRow.holds Try.pinned (OpenSpec.ofChange framesFinerWrong)

/-- 'ferrulelaw01.FramesOpens': WHATEVER THE INPUT: true; the input reads as it did. -/
def framesOpensSpec : ChangeSpec := { name := "framesOpens", fn := fun _ => fun
  | [d1, d2] => { results := [.lit (.bool true)], args := [d1, d2] }
  | _ => none }
def framesOpensRow : OpenClaim := { program := "ytmgnhaibbeinbaa", sum := "78db53ccdb5b738fa443acc131e6f0e835b465fed40998a9a2331f42cd2ea97f", func := "ferrule/ferrulelaw01.FramesOpens", spec := "framesOpens", unfollowed := true, recurses := true, apart := false }
def FramesOpensSaid : Prop := framesOpensRow.holds Try.pinned (OpenSpec.ofChange framesOpensSpec)

/-- ITS FALSE NEIGHBOUR: 'it returns false'. Refute it at one input. -/
def framesOpensWrong : ChangeSpec := { name := "framesOpens", fn := fun _ => fun
  | [d1, d2] => { results := [.lit (.bool false)], args := [d1, d2] }
  | _ => none }
def FramesOpensWrongFalsely : Prop := framesOpensRow.holds Try.pinned (OpenSpec.ofChange framesOpensWrong)

/- THE SECOND FORM. 'bulk': how many values and letters a reading holds, each counted each time it is reached (what is shared counts as often as it is met; a slice's spare places count too). A statement '..UptoSaid' is the law's where the arguments, and the package variables that the reading takes, are together of bulk at most 1048576: NARROWER than '..Said'. Prove '..Said' where nothing that the law and all that it calls make is longer than what came in: it says more and counts as full. Else prove '..UptoSaid'. A law counts once. -/
mutual
def uptoBulk {H : Type} : DataW H → Nat
  | .lit (.string bytes) => bytes.length + 1
  | .lit _ => 1
  | .nil => 1
  | .ptr d => uptoBulk d + 1
  | .slice elems spare => uptoBulkAll elems + uptoBulkAll spare + 1
  | .agg parts => uptoBulkAll parts + 1
  | .iface _ d => uptoBulk d + 1
  | .map entries => uptoBulkEntries entries + 1
  | .held _ => 1
def uptoBulkAll {H : Type} : List (DataW H) → Nat
  | [] => 0
  | d :: r => uptoBulk d + uptoBulkAll r
def uptoBulkEntries {H : Type} : List (Lit × DataW H) → Nat
  | [] => 0
  | x :: r => uptoBulkEntry x + uptoBulkEntries r
def uptoBulkEntry {H : Type} : Lit × DataW H → Nat
  | (.string bytes, d) => bytes.length + uptoBulk d + 1
  | (_, d) => uptoBulk d + 1
 end
def uptoSmall : (H : Type) → List (DataW H) → Bool := fun _ ds => decide (uptoBulkAll ds ≤ 1048576)
def OpenSpec.upto (s : _root_.Go.ChangeSpec) : _root_.Go.OpenSpec := { _root_.Go.OpenSpec.ofChange s with cond := some uptoSmall }

/-- 'ferrulelaw01.FramesCosine', WHERE WHAT IT READS IS OF BULK AT MOST 1048576: true; the input reads as it did. -/
def framesCosineUptoRow : OpenClaim := { program := "ytmgnhaibbeinbaa", sum := "78db53ccdb5b738fa443acc131e6f0e835b465fed40998a9a2331f42cd2ea97f", func := "ferrule/ferrulelaw01.FramesCosine", spec := "framesCosine", unfollowed := true, recurses := true, apart := false, narrowed := true }
def FramesCosineUptoSaid : Prop := framesCosineUptoRow.holds Try.pinned (OpenSpec.upto framesCosineSpec)

/-- 'ferrulelaw01.FramesEnds', WHERE WHAT IT READS IS OF BULK AT MOST 1048576: true; the input reads as it did. -/
def framesEndsUptoRow : OpenClaim := { program := "ytmgnhaibbeinbaa", sum := "78db53ccdb5b738fa443acc131e6f0e835b465fed40998a9a2331f42cd2ea97f", func := "ferrule/ferrulelaw01.FramesEnds", spec := "framesEnds", unfollowed := true, recurses := true, apart := false, narrowed := true }
def FramesEndsUptoSaid : Prop := framesEndsUptoRow.holds Try.pinned (OpenSpec.upto framesEndsSpec)

/-- 'ferrulelaw01.FramesEase', WHERE WHAT IT READS IS OF BULK AT MOST 1048576: true; the input reads as it did. -/
def framesEaseUptoRow : OpenClaim := { program := "ytmgnhaibbeinbaa", sum := "78db53ccdb5b738fa443acc131e6f0e835b465fed40998a9a2331f42cd2ea97f", func := "ferrule/ferrulelaw01.FramesEase", spec := "framesEase", unfollowed := true, recurses := true, apart := false, narrowed := true }
def FramesEaseUptoSaid : Prop := framesEaseUptoRow.holds Try.pinned (OpenSpec.upto framesEaseSpec)

/-- 'ferrulelaw01.FramesLarger', WHERE WHAT IT READS IS OF BULK AT MOST 1048576: true; the input reads as it did. -/
def framesLargerUptoRow : OpenClaim := { program := "ytmgnhaibbeinbaa", sum := "78db53ccdb5b738fa443acc131e6f0e835b465fed40998a9a2331f42cd2ea97f", func := "ferrule/ferrulelaw01.FramesLarger", spec := "framesLarger", unfollowed := true, recurses := true, apart := false, narrowed := true }
def FramesLargerUptoSaid : Prop := framesLargerUptoRow.holds Try.pinned (OpenSpec.upto framesLargerSpec)

/-- 'ferrulelaw01.FramesFolds', WHERE WHAT IT READS IS OF BULK AT MOST 1048576: true; the input reads as it did. -/
def framesFoldsUptoRow : OpenClaim := { program := "ytmgnhaibbeinbaa", sum := "78db53ccdb5b738fa443acc131e6f0e835b465fed40998a9a2331f42cd2ea97f", func := "ferrule/ferrulelaw01.FramesFolds", spec := "framesFolds", unfollowed := true, recurses := true, apart := false, narrowed := true }
def FramesFoldsUptoSaid : Prop := framesFoldsUptoRow.holds Try.pinned (OpenSpec.upto framesFoldsSpec)

/-- 'ferrulelaw01.FramesTrue', WHERE WHAT IT READS IS OF BULK AT MOST 1048576: true; the input reads as it did. -/
def framesTrueUptoRow : OpenClaim := { program := "ytmgnhaibbeinbaa", sum := "78db53ccdb5b738fa443acc131e6f0e835b465fed40998a9a2331f42cd2ea97f", func := "ferrule/ferrulelaw01.FramesTrue", spec := "framesTrue", unfollowed := true, recurses := true, apart := false, narrowed := true }
def FramesTrueUptoSaid : Prop := framesTrueUptoRow.holds Try.pinned (OpenSpec.upto framesTrueSpec)

/-- 'ferrulelaw01.FramesFiner', WHERE WHAT IT READS IS OF BULK AT MOST 1048576: true; the input reads as it did. -/
def framesFinerUptoRow : OpenClaim := { program := "ytmgnhaibbeinbaa", sum := "78db53ccdb5b738fa443acc131e6f0e835b465fed40998a9a2331f42cd2ea97f", func := "ferrule/ferrulelaw01.FramesFiner", spec := "framesFiner", unfollowed := true, recurses := true, apart := false, narrowed := true }
def FramesFinerUptoSaid : Prop := framesFinerUptoRow.holds Try.pinned (OpenSpec.upto framesFinerSpec)

/-- 'ferrulelaw01.FramesOpens', WHERE WHAT IT READS IS OF BULK AT MOST 1048576: true; the input reads as it did. -/
def framesOpensUptoRow : OpenClaim := { program := "ytmgnhaibbeinbaa", sum := "78db53ccdb5b738fa443acc131e6f0e835b465fed40998a9a2331f42cd2ea97f", func := "ferrule/ferrulelaw01.FramesOpens", spec := "framesOpens", unfollowed := true, recurses := true, apart := false, narrowed := true }
def FramesOpensUptoSaid : Prop := framesOpensUptoRow.holds Try.pinned (OpenSpec.upto framesOpensSpec)

end Rows
end Go.Proofs.Ytmgnhaibbeinbaa
