/-
  No cell of these rows narrows 'for every input' (looked for: loops, veiled, ifaces, maps, wideKeys, modest, calm, conditions, laid).
  DERIVED. THE GIVEN ROWS OF THIS SEAT. 5 by the template 'for every input the law returns true; each argument reads behind the call as it read before'; 0 by the template 'total and deterministic' (their statements: YtcipdblhopffbaaTotals.lean).
  GIVEN WITH THE SEED: the statements are not yours to turn. If you find one false, say at which input.
  Laid BY PROGRAM, IN A SANDBOX (cutbox-rows.mjs): the forced cells as the released guide's own fill.sh prints them over the translation 9c4ae4e0944d9045… (all of the seat's roots in one cut). By AI agents, Wed Nov 11 2026. No macro, syntax, notation, axiom, sorry.
-/
import Derived.Test.YtcipdblhopffbaaChecked
import GoSem.Claim
import GoSem.ClaimJoined
import GoSem.ClaimMapViews
import Derived.JoinedTies
import Derived.KernelRfl
namespace Go.Proofs.Ytcipdblhopffbaa
/- THE CELL 'sum', in the pinned program and in every row, IS THE sha256 OF THE DUMP (.gsa) THAT YtcipdblhopffbaaProg.lean LOADS. Nothing in Lean hashes anything: it is a label: what it is worth is what the hold of that sum in a sandbox is worth. -/
noncomputable def Try.pinned : Pinned := { name := "ytcipdblhopffbaa", sum := "9c4ae4e0944d9045ebbeac990b0096412e83e3379cf3396afa5c8acbea07a167", checked := Try.checked }
namespace Rows
def none {H : Type} : Left H := { results := [], args := [] }

/-- 'ferrulelaw13.CountsMore': WHATEVER THE INPUT: true; the input reads as it did. -/
def countsMoreSpec : ChangeSpec := { name := "countsMore", fn := fun _ => fun
  | [d1, d2, d3] => { results := [.lit (.bool true)], args := [d1, d2, d3] }
  | _ => none }
def countsMoreRow : OpenClaim := { program := "ytcipdblhopffbaa", sum := "9c4ae4e0944d9045ebbeac990b0096412e83e3379cf3396afa5c8acbea07a167", func := "ferrule/ferrulelaw13.CountsMore", spec := "countsMore", unfollowed := true, recurses := true, plainKeys := false, apart := false }
def CountsMoreSaid : Prop := countsMoreRow.holds Try.pinned (OpenSpec.ofChange countsMoreSpec)

/-- ITS FALSE NEIGHBOUR: 'it returns false'. Refute it at one input. -/
def countsMoreWrong : ChangeSpec := { name := "countsMore", fn := fun _ => fun
  | [d1, d2, d3] => { results := [.lit (.bool false)], args := [d1, d2, d3] }
  | _ => none }
def CountsMoreWrongFalsely : Prop := countsMoreRow.holds Try.pinned (OpenSpec.ofChange countsMoreWrong)

/-- 'ferrulelaw13.CountsDome': WHATEVER THE INPUT: true; the input reads as it did. -/
def countsDomeSpec : ChangeSpec := { name := "countsDome", fn := fun _ => fun
  | [d1, d2] => { results := [.lit (.bool true)], args := [d1, d2] }
  | _ => none }
def countsDomeRow : OpenClaim := { program := "ytcipdblhopffbaa", sum := "9c4ae4e0944d9045ebbeac990b0096412e83e3379cf3396afa5c8acbea07a167", func := "ferrule/ferrulelaw13.CountsDome", spec := "countsDome", unfollowed := true, recurses := true, plainKeys := false, apart := false }
def CountsDomeSaid : Prop := countsDomeRow.holds Try.pinned (OpenSpec.ofChange countsDomeSpec)

/-- ITS FALSE NEIGHBOUR: 'it returns false'. Refute it at one input. -/
def countsDomeWrong : ChangeSpec := { name := "countsDome", fn := fun _ => fun
  | [d1, d2] => { results := [.lit (.bool false)], args := [d1, d2] }
  | _ => none }
def CountsDomeWrongFalsely : Prop := countsDomeRow.holds Try.pinned (OpenSpec.ofChange countsDomeWrong)

/-- 'ferrulelaw13.CountsGood': WHATEVER THE INPUT: true; the input reads as it did. -/
def countsGoodSpec : ChangeSpec := { name := "countsGood", fn := fun _ => fun
  | [d1, d2, d3] => { results := [.lit (.bool true)], args := [d1, d2, d3] }
  | _ => none }
def countsGoodRow : OpenClaim := { program := "ytcipdblhopffbaa", sum := "9c4ae4e0944d9045ebbeac990b0096412e83e3379cf3396afa5c8acbea07a167", func := "ferrule/ferrulelaw13.CountsGood", spec := "countsGood", unfollowed := true, recurses := true, plainKeys := false, apart := false }
def CountsGoodSaid : Prop := countsGoodRow.holds Try.pinned (OpenSpec.ofChange countsGoodSpec)

/-- ITS FALSE NEIGHBOUR: 'it returns false'. Refute it at one input. -/
def countsGoodWrong : ChangeSpec := { name := "countsGood", fn := fun _ => fun
  | [d1, d2, d3] => { results := [.lit (.bool false)], args := [d1, d2, d3] }
  | _ => none }
def CountsGoodWrongFalsely : Prop := countsGoodRow.holds Try.pinned (OpenSpec.ofChange countsGoodWrong)

/-- 'ferrulelaw13.CountsOrder': WHATEVER THE INPUT: true; the input reads as it did. -/
def countsOrderSpec : ChangeSpec := { name := "countsOrder", fn := fun _ => fun
  | [d1, d2, d3] => { results := [.lit (.bool true)], args := [d1, d2, d3] }
  | _ => none }
def countsOrderRow : OpenClaim := { program := "ytcipdblhopffbaa", sum := "9c4ae4e0944d9045ebbeac990b0096412e83e3379cf3396afa5c8acbea07a167", func := "ferrule/ferrulelaw13.CountsOrder", spec := "countsOrder", unfollowed := true, recurses := true, plainKeys := false, apart := false }
def CountsOrderSaid : Prop := countsOrderRow.holds Try.pinned (OpenSpec.ofChange countsOrderSpec)

/-- ITS FALSE NEIGHBOUR: 'it returns false'. Refute it at one input. -/
def countsOrderWrong : ChangeSpec := { name := "countsOrder", fn := fun _ => fun
  | [d1, d2, d3] => { results := [.lit (.bool false)], args := [d1, d2, d3] }
  | _ => none }
def CountsOrderWrongFalsely : Prop := countsOrderRow.holds Try.pinned (OpenSpec.ofChange countsOrderWrong)

/-- 'ferrulelaw13.CountsLiars': WHATEVER THE INPUT: true; the input reads as it did. -/
def countsLiarsSpec : ChangeSpec := { name := "countsLiars", fn := fun _ => fun
  | [d1, d2] => { results := [.lit (.bool true)], args := [d1, d2] }
  | _ => none }
def countsLiarsRow : OpenClaim := { program := "ytcipdblhopffbaa", sum := "9c4ae4e0944d9045ebbeac990b0096412e83e3379cf3396afa5c8acbea07a167", func := "ferrule/ferrulelaw13.CountsLiars", spec := "countsLiars", unfollowed := true, recurses := true, plainKeys := false, apart := false }
def CountsLiarsSaid : Prop := countsLiarsRow.holds Try.pinned (OpenSpec.ofChange countsLiarsSpec)

/-- ITS FALSE NEIGHBOUR: 'it returns false'. Refute it at one input. -/
def countsLiarsWrong : ChangeSpec := { name := "countsLiars", fn := fun _ => fun
  | [d1, d2] => { results := [.lit (.bool false)], args := [d1, d2] }
  | _ => none }
def CountsLiarsWrongFalsely : Prop := countsLiarsRow.holds Try.pinned (OpenSpec.ofChange countsLiarsWrong)

/- THE SECOND FORM. 'bulk': how many values and letters a reading holds, each counted each time it is reached (what is shared counts as often as it is met; a slice's spare places count too). A statement '..UptoSaid' is the law's where the arguments, and the package variables that the reading takes, are together of bulk at most 1048576: NARROWER than '..Said'. Prove '..Said' where nothing that the law and all that it calls make is longer than what came in: it says more and counts as full. Else prove '..UptoSaid'. A law counts once. -/
mutual
def uptoBulk {H : Type} : DataW H → Nat
  | .lit (.string bytes) => bytes.length + 1
  | .lit _ => 1
  | .nil => 1
  | .ptr d => uptoBulk d + 1
  | .slice elems spare => uptoBulkAll elems + uptoBulkAll spare + 1
  | .agg parts => uptoBulkAll parts + 1
  | .iface _ d => uptoBulk d + 1
  | .map entries => uptoBulkEntries entries + 1
  | .held _ => 1
def uptoBulkAll {H : Type} : List (DataW H) → Nat
  | [] => 0
  | d :: r => uptoBulk d + uptoBulkAll r
def uptoBulkEntries {H : Type} : List (Lit × DataW H) → Nat
  | [] => 0
  | x :: r => uptoBulkEntry x + uptoBulkEntries r
def uptoBulkEntry {H : Type} : Lit × DataW H → Nat
  | (.string bytes, d) => bytes.length + uptoBulk d + 1
  | (_, d) => uptoBulk d + 1
 end
def uptoSmall : (H : Type) → List (DataW H) → Bool := fun _ ds => decide (uptoBulkAll ds ≤ 1048576)
def OpenSpec.upto (s : _root_.Go.ChangeSpec) : _root_.Go.OpenSpec := { _root_.Go.OpenSpec.ofChange s with cond := some uptoSmall }

/-- 'ferrulelaw13.CountsMore', WHERE WHAT IT READS IS OF BULK AT MOST 1048576: true; the input reads as it did. -/
def countsMoreUptoRow : OpenClaim := { program := "ytcipdblhopffbaa", sum := "9c4ae4e0944d9045ebbeac990b0096412e83e3379cf3396afa5c8acbea07a167", func := "ferrule/ferrulelaw13.CountsMore", spec := "countsMore", unfollowed := true, recurses := true, plainKeys := false, apart := false, narrowed := true }
def CountsMoreUptoSaid : Prop := countsMoreUptoRow.holds Try.pinned (OpenSpec.upto countsMoreSpec)

/-- 'ferrulelaw13.CountsDome', WHERE WHAT IT READS IS OF BULK AT MOST 1048576: true; the input reads as it did. -/
def countsDomeUptoRow : OpenClaim := { program := "ytcipdblhopffbaa", sum := "9c4ae4e0944d9045ebbeac990b0096412e83e3379cf3396afa5c8acbea07a167", func := "ferrule/ferrulelaw13.CountsDome", spec := "countsDome", unfollowed := true, recurses := true, plainKeys := false, apart := false, narrowed := true }
def CountsDomeUptoSaid : Prop := countsDomeUptoRow.holds Try.pinned (OpenSpec.upto countsDomeSpec)

/-- 'ferrulelaw13.CountsGood', WHERE WHAT IT READS IS OF BULK AT MOST 1048576: true; the input reads as it did. -/
def countsGoodUptoRow : OpenClaim := { program := "ytcipdblhopffbaa", sum := "9c4ae4e0944d9045ebbeac990b0096412e83e3379cf3396afa5c8acbea07a167", func := "ferrule/ferrulelaw13.CountsGood", spec := "countsGood", unfollowed := true, recurses := true, plainKeys := false, apart := false, narrowed := true }
def CountsGoodUptoSaid : Prop := countsGoodUptoRow.holds Try.pinned (OpenSpec.upto countsGoodSpec)

/-- 'ferrulelaw13.CountsOrder', WHERE WHAT IT READS IS OF BULK AT MOST 1048576: true; the input reads as it did. -/
def countsOrderUptoRow : OpenClaim := { program := "ytcipdblhopffbaa", sum := "9c4ae4e0944d9045ebbeac990b0096412e83e3379cf3396afa5c8acbea07a167", func := "ferrule/ferrulelaw13.CountsOrder", spec := "countsOrder", unfollowed := true, recurses := true, plainKeys := false, apart := false, narrowed := true }
def CountsOrderUptoSaid : Prop := countsOrderUptoRow.holds Try.pinned (OpenSpec.upto countsOrderSpec)

/-- 'ferrulelaw13.CountsLiars', WHERE WHAT IT READS IS OF BULK AT MOST 1048576: true; the input reads as it did. -/
def countsLiarsUptoRow : OpenClaim := { program := "ytcipdblhopffbaa", sum := "9c4ae4e0944d9045ebbeac990b0096412e83e3379cf3396afa5c8acbea07a167", func := "ferrule/ferrulelaw13.CountsLiars", spec := "countsLiars", unfollowed := true, recurses := true, plainKeys := false, apart := false, narrowed := true }
def CountsLiarsUptoSaid : Prop := countsLiarsUptoRow.holds Try.pinned (OpenSpec.upto countsLiarsSpec)

end Rows
end Go.Proofs.Ytcipdblhopffbaa
