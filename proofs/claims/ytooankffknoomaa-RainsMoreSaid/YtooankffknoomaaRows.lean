/-
  No cell of these rows narrows 'for every input' (looked for: loops, veiled, ifaces, maps, wideKeys, modest, calm, conditions, laid).
  DERIVED. THE GIVEN ROWS OF THIS SEAT. 9 by the template 'for every input the law returns true; each argument reads behind the call as it read before'; 0 by the template 'total and deterministic' (their statements: YtooankffknoomaaTotals.lean).
  GIVEN WITH THE SEED: the statements are not yours to turn. If you find one false, say at which input.
  Laid BY PROGRAM, IN A SANDBOX (cutbox-rows.mjs): the forced cells as the released guide's own fill.sh prints them over the translation ce67d0eee76d6c55… (all of the seat's roots in one cut). By AI agents, Wed Nov 11 2026. No macro, syntax, notation, axiom, sorry.
-/
import Derived.Test.YtooankffknoomaaChecked
import GoSem.Claim
import GoSem.ClaimJoined
import GoSem.ClaimMapViews
import Derived.JoinedTies
import Derived.KernelRfl
namespace Go.Proofs.Ytooankffknoomaa
/- THE CELL 'sum', in the pinned program and in every row, IS THE sha256 OF THE DUMP (.gsa) THAT YtooankffknoomaaProg.lean LOADS. Nothing in Lean hashes anything: it is a label: what it is worth is what the hold of that sum in a sandbox is worth. -/
noncomputable def Try.pinned : Pinned := { name := "ytooankffknoomaa", sum := "ce67d0eee76d6c55ba79d4ae9ccc81c6b7fc0a52e0b9a3f4866f47ab213b8d56", checked := Try.checked }
namespace Rows
def none {H : Type} : Left H := { results := [], args := [] }

/-- 'ferrulelaw11.RainsTakes': WHATEVER THE INPUT: true; the input reads as it did. -/
def rainsTakesSpec : ChangeSpec := { name := "rainsTakes", fn := fun _ => fun
  | [d1, d2] => { results := [.lit (.bool true)], args := [d1, d2] }
  | _ => none }
def rainsTakesRow : OpenClaim := { program := "ytooankffknoomaa", sum := "ce67d0eee76d6c55ba79d4ae9ccc81c6b7fc0a52e0b9a3f4866f47ab213b8d56", func := "ferrule/ferrulelaw11.RainsTakes", spec := "rainsTakes", unfollowed := true, recurses := true, apart := false }
def RainsTakesSaid : Prop := rainsTakesRow.holds Try.pinned (OpenSpec.ofChange rainsTakesSpec)

/-- ITS FALSE NEIGHBOUR: 'it returns false'. Refute it at one input. -/
def rainsTakesWrong : ChangeSpec := { name := "rainsTakes", fn := fun _ => fun
  | [d1, d2] => { results := [.lit (.bool false)], args := [d1, d2] }
  | _ => none }
def RainsTakesWrongFalsely : Prop := rainsTakesRow.holds Try.pinned (OpenSpec.ofChange rainsTakesWrong)

/-- 'ferrulelaw11.RainsMore': WHATEVER THE INPUT: true; the input reads as it did. -/
def rainsMoreSpec : ChangeSpec := { name := "rainsMore", fn := fun _ => fun
  | [d1, d2, d3] => { results := [.lit (.bool true)], args := [d1, d2, d3] }
  | _ => none }
def rainsMoreRow : OpenClaim := { program := "ytooankffknoomaa", sum := "ce67d0eee76d6c55ba79d4ae9ccc81c6b7fc0a52e0b9a3f4866f47ab213b8d56", func := "ferrule/ferrulelaw11.RainsMore", spec := "rainsMore", unfollowed := true, recurses := true, apart := false }
def RainsMoreSaid : Prop := rainsMoreRow.holds Try.pinned (OpenSpec.ofChange rainsMoreSpec)

/-- ITS FALSE NEIGHBOUR: 'it returns false'. Refute it at one input. -/
def rainsMoreWrong : ChangeSpec := { name := "rainsMore", fn := fun _ => fun
  | [d1, d2, d3] => { results := [.lit (.bool false)], args := [d1, d2, d3] }
  | _ => none }
def RainsMoreWrongFalsely : Prop := rainsMoreRow.holds Try.pinned (OpenSpec.ofChange rainsMoreWrong)

/-- 'ferrulelaw11.RainsLost': WHATEVER THE INPUT: true; the input reads as it did. -/
def rainsLostSpec : ChangeSpec := { name := "rainsLost", fn := fun _ => fun
  | [d1, d2] => { results := [.lit (.bool true)], args := [d1, d2] }
  | _ => none }
def rainsLostRow : OpenClaim := { program := "ytooankffknoomaa", sum := "ce67d0eee76d6c55ba79d4ae9ccc81c6b7fc0a52e0b9a3f4866f47ab213b8d56", func := "ferrule/ferrulelaw11.RainsLost", spec := "rainsLost", unfollowed := true, recurses := true, apart := false }
def RainsLostSaid : Prop := rainsLostRow.holds Try.pinned (OpenSpec.ofChange rainsLostSpec)

/-- ITS FALSE NEIGHBOUR: 'it returns false'. Refute it at one input. -/
def rainsLostWrong : ChangeSpec := { name := "rainsLost", fn := fun _ => fun
  | [d1, d2] => { results := [.lit (.bool false)], args := [d1, d2] }
  | _ => none }
def RainsLostWrongFalsely : Prop := rainsLostRow.holds Try.pinned (OpenSpec.ofChange rainsLostWrong)

/-- 'ferrulelaw11.RainsStock': WHATEVER THE INPUT: true; the input reads as it did. -/
def rainsStockSpec : ChangeSpec := { name := "rainsStock", fn := fun _ => fun
  | [d1, d2, d3] => { results := [.lit (.bool true)], args := [d1, d2, d3] }
  | _ => none }
def rainsStockRow : OpenClaim := { program := "ytooankffknoomaa", sum := "ce67d0eee76d6c55ba79d4ae9ccc81c6b7fc0a52e0b9a3f4866f47ab213b8d56", func := "ferrule/ferrulelaw11.RainsStock", spec := "rainsStock", unfollowed := true, recurses := true, apart := false }
def RainsStockSaid : Prop := rainsStockRow.holds Try.pinned (OpenSpec.ofChange rainsStockSpec)

/-- ITS FALSE NEIGHBOUR: 'it returns false'. Refute it at one input. -/
def rainsStockWrong : ChangeSpec := { name := "rainsStock", fn := fun _ => fun
  | [d1, d2, d3] => { results := [.lit (.bool false)], args := [d1, d2, d3] }
  | _ => none }
def RainsStockWrongFalsely : Prop := rainsStockRow.holds Try.pinned (OpenSpec.ofChange rainsStockWrong)

/-- 'ferrulelaw11.RainsBest': WHATEVER THE INPUT: true; the input reads as it did. -/
def rainsBestSpec : ChangeSpec := { name := "rainsBest", fn := fun _ => fun
  | [d] => { results := [.lit (.bool true)], args := [d] }
  | _ => none }
def rainsBestRow : OpenClaim := { program := "ytooankffknoomaa", sum := "ce67d0eee76d6c55ba79d4ae9ccc81c6b7fc0a52e0b9a3f4866f47ab213b8d56", func := "ferrule/ferrulelaw11.RainsBest", spec := "rainsBest", unfollowed := true, recurses := true, apart := false }
def RainsBestSaid : Prop := rainsBestRow.holds Try.pinned (OpenSpec.ofChange rainsBestSpec)

/-- ITS FALSE NEIGHBOUR: 'it returns false'. Refute it at one input. -/
def rainsBestWrong : ChangeSpec := { name := "rainsBest", fn := fun _ => fun
  | [d] => { results := [.lit (.bool false)], args := [d] }
  | _ => none }
def RainsBestWrongFalsely : Prop := rainsBestRow.holds Try.pinned (OpenSpec.ofChange rainsBestWrong)

/-- 'ferrulelaw11.RainsProof': WHATEVER THE INPUT: true; the input reads as it did. -/
def rainsProofSpec : ChangeSpec := { name := "rainsProof", fn := fun _ => fun
  | [d1, d2] => { results := [.lit (.bool true)], args := [d1, d2] }
  | _ => none }
def rainsProofRow : OpenClaim := { program := "ytooankffknoomaa", sum := "ce67d0eee76d6c55ba79d4ae9ccc81c6b7fc0a52e0b9a3f4866f47ab213b8d56", func := "ferrule/ferrulelaw11.RainsProof", spec := "rainsProof", unfollowed := true, recurses := true, apart := false }
def RainsProofSaid : Prop := rainsProofRow.holds Try.pinned (OpenSpec.ofChange rainsProofSpec)

/-- ITS FALSE NEIGHBOUR: 'it returns false'. Refute it at one input. -/
def rainsProofWrong : ChangeSpec := { name := "rainsProof", fn := fun _ => fun
  | [d1, d2] => { results := [.lit (.bool false)], args := [d1, d2] }
  | _ => none }
def RainsProofWrongFalsely : Prop := rainsProofRow.holds Try.pinned (OpenSpec.ofChange rainsProofWrong)

/-- 'ferrulelaw11.RainsLiars': WHATEVER THE INPUT: true; the input reads as it did. -/
def rainsLiarsSpec : ChangeSpec := { name := "rainsLiars", fn := fun _ => fun
  | [d1, d2] => { results := [.lit (.bool true)], args := [d1, d2] }
  | _ => none }
def rainsLiarsRow : OpenClaim := { program := "ytooankffknoomaa", sum := "ce67d0eee76d6c55ba79d4ae9ccc81c6b7fc0a52e0b9a3f4866f47ab213b8d56", func := "ferrule/ferrulelaw11.RainsLiars", spec := "rainsLiars", unfollowed := true, recurses := true, apart := false }
def RainsLiarsSaid : Prop := rainsLiarsRow.holds Try.pinned (OpenSpec.ofChange rainsLiarsSpec)

/-- ITS FALSE NEIGHBOUR: 'it returns false'. Refute it at one input. -/
def rainsLiarsWrong : ChangeSpec := { name := "rainsLiars", fn := fun _ => fun
  | [d1, d2] => { results := [.lit (.bool false)], args := [d1, d2] }
  | _ => none }
def RainsLiarsWrongFalsely : Prop := rainsLiarsRow.holds Try.pinned (OpenSpec.ofChange rainsLiarsWrong)

/-- 'ferrulelaw11.RainsTrue': WHATEVER THE INPUT: true; the input reads as it did. -/
def rainsTrueSpec : ChangeSpec := { name := "rainsTrue", fn := fun _ => fun
  | [d1, d2, d3] => { results := [.lit (.bool true)], args := [d1, d2, d3] }
  | _ => none }
def rainsTrueRow : OpenClaim := { program := "ytooankffknoomaa", sum := "ce67d0eee76d6c55ba79d4ae9ccc81c6b7fc0a52e0b9a3f4866f47ab213b8d56", func := "ferrule/ferrulelaw11.RainsTrue", spec := "rainsTrue", unfollowed := true, recurses := true, apart := false }
def RainsTrueSaid : Prop := rainsTrueRow.holds Try.pinned (OpenSpec.ofChange rainsTrueSpec)

/-- ITS FALSE NEIGHBOUR: 'it returns false'. Refute it at one input. -/
def rainsTrueWrong : ChangeSpec := { name := "rainsTrue", fn := fun _ => fun
  | [d1, d2, d3] => { results := [.lit (.bool false)], args := [d1, d2, d3] }
  | _ => none }
def RainsTrueWrongFalsely : Prop := rainsTrueRow.holds Try.pinned (OpenSpec.ofChange rainsTrueWrong)

/-- 'ferrulelaw11.RainsLevels': WHATEVER THE INPUT: true; the input reads as it did. -/
def rainsLevelsSpec : ChangeSpec := { name := "rainsLevels", fn := fun _ => fun
  | [d1, d2] => { results := [.lit (.bool true)], args := [d1, d2] }
  | _ => none }
def rainsLevelsRow : OpenClaim := { program := "ytooankffknoomaa", sum := "ce67d0eee76d6c55ba79d4ae9ccc81c6b7fc0a52e0b9a3f4866f47ab213b8d56", func := "ferrule/ferrulelaw11.RainsLevels", spec := "rainsLevels", unfollowed := true, recurses := true, apart := false }
def RainsLevelsSaid : Prop := rainsLevelsRow.holds Try.pinned (OpenSpec.ofChange rainsLevelsSpec)

/-- ITS FALSE NEIGHBOUR: 'it returns false'. Refute it at one input. -/
def rainsLevelsWrong : ChangeSpec := { name := "rainsLevels", fn := fun _ => fun
  | [d1, d2] => { results := [.lit (.bool false)], args := [d1, d2] }
  | _ => none }
def RainsLevelsWrongFalsely : Prop := rainsLevelsRow.holds Try.pinned (OpenSpec.ofChange rainsLevelsWrong)

/- THE SECOND FORM. 'bulk': how many values and letters a reading holds, each counted each time it is reached (what is shared counts as often as it is met; a slice's spare places count too). A statement '..UptoSaid' is the law's where the arguments, and the package variables that the reading takes, are together of bulk at most 1048576: NARROWER than '..Said'. Prove '..Said' where nothing that the law and all that it calls make is longer than what came in: it says more and counts as full. Else prove '..UptoSaid'. A law counts once. -/
mutual
def uptoBulk {H : Type} : DataW H → Nat
  | .lit (.string bytes) => bytes.length + 1
  | .lit _ => 1
  | .nil => 1
  | .ptr d => uptoBulk d + 1
  | .slice elems spare => uptoBulkAll elems + uptoBulkAll spare + 1
  | .agg parts => uptoBulkAll parts + 1
  | .iface _ d => uptoBulk d + 1
  | .map entries => uptoBulkEntries entries + 1
  | .held _ => 1
def uptoBulkAll {H : Type} : List (DataW H) → Nat
  | [] => 0
  | d :: r => uptoBulk d + uptoBulkAll r
def uptoBulkEntries {H : Type} : List (Lit × DataW H) → Nat
  | [] => 0
  | x :: r => uptoBulkEntry x + uptoBulkEntries r
def uptoBulkEntry {H : Type} : Lit × DataW H → Nat
  | (.string bytes, d) => bytes.length + uptoBulk d + 1
  | (_, d) => uptoBulk d + 1
 end
def uptoSmall : (H : Type) → List (DataW H) → Bool := fun _ ds => decide (uptoBulkAll ds ≤ 1048576)
def OpenSpec.upto (s : _root_.Go.ChangeSpec) : _root_.Go.OpenSpec := { _root_.Go.OpenSpec.ofChange s with cond := some uptoSmall }

/-- 'ferrulelaw11.RainsTakes', WHERE WHAT IT READS IS OF BULK AT MOST 1048576: true; the input reads as it did. -/
def rainsTakesUptoRow : OpenClaim := { program := "ytooankffknoomaa", sum := "ce67d0eee76d6c55ba79d4ae9ccc81c6b7fc0a52e0b9a3f4866f47ab213b8d56", func := "ferrule/ferrulelaw11.RainsTakes", spec := "rainsTakes", unfollowed := true, recurses := true, apart := false, narrowed := true }
def RainsTakesUptoSaid : Prop := rainsTakesUptoRow.holds Try.pinned (OpenSpec.upto rainsTakesSpec)

/-- 'ferrulelaw11.RainsMore', WHERE WHAT IT READS IS OF BULK AT MOST 1048576: true; the input reads as it did. -/
def rainsMoreUptoRow : OpenClaim := { program := "ytooankffknoomaa", sum := "ce67d0eee76d6c55ba79d4ae9ccc81c6b7fc0a52e0b9a3f4866f47ab213b8d56", func := "ferrule/ferrulelaw11.RainsMore", spec := "rainsMore", unfollowed := true, recurses := true, apart := false, narrowed := true }
def RainsMoreUptoSaid : Prop := rainsMoreUptoRow.holds Try.pinned (OpenSpec.upto rainsMoreSpec)

/-- 'ferrulelaw11.RainsLost', WHERE WHAT IT READS IS OF BULK AT MOST 1048576: true; the input reads as it did. -/
def rainsLostUptoRow : OpenClaim := { program := "ytooankffknoomaa", sum := "ce67d0eee76d6c55ba79d4ae9ccc81c6b7fc0a52e0b9a3f4866f47ab213b8d56", func := "ferrule/ferrulelaw11.RainsLost", spec := "rainsLost", unfollowed := true, recurses := true, apart := false, narrowed := true }
def RainsLostUptoSaid : Prop := rainsLostUptoRow.holds Try.pinned (OpenSpec.upto rainsLostSpec)

/-- 'ferrulelaw11.RainsStock', WHERE WHAT IT READS IS OF BULK AT MOST 1048576: true; the input reads as it did. -/
def rainsStockUptoRow : OpenClaim := { program := "ytooankffknoomaa", sum := "ce67d0eee76d6c55ba79d4ae9ccc81c6b7fc0a52e0b9a3f4866f47ab213b8d56", func := "ferrule/ferrulelaw11.RainsStock", spec := "rainsStock", unfollowed := true, recurses := true, apart := false, narrowed := true }
def RainsStockUptoSaid : Prop := rainsStockUptoRow.holds Try.pinned (OpenSpec.upto rainsStockSpec)

/-- 'ferrulelaw11.RainsBest', WHERE WHAT IT READS IS OF BULK AT MOST 1048576: true; the input reads as it did. -/
def rainsBestUptoRow : OpenClaim := { program := "ytooankffknoomaa", sum := "ce67d0eee76d6c55ba79d4ae9ccc81c6b7fc0a52e0b9a3f4866f47ab213b8d56", func := "ferrule/ferrulelaw11.RainsBest", spec := "rainsBest", unfollowed := true, recurses := true, apart := false, narrowed := true }
def RainsBestUptoSaid : Prop := rainsBestUptoRow.holds Try.pinned (OpenSpec.upto rainsBestSpec)

/-- 'ferrulelaw11.RainsProof', WHERE WHAT IT READS IS OF BULK AT MOST 1048576: true; the input reads as it did. -/
def rainsProofUptoRow : OpenClaim := { program := "ytooankffknoomaa", sum := "ce67d0eee76d6c55ba79d4ae9ccc81c6b7fc0a52e0b9a3f4866f47ab213b8d56", func := "ferrule/ferrulelaw11.RainsProof", spec := "rainsProof", unfollowed := true, recurses := true, apart := false, narrowed := true }
def RainsProofUptoSaid : Prop := rainsProofUptoRow.holds Try.pinned (OpenSpec.upto rainsProofSpec)

/-- 'ferrulelaw11.RainsLiars', WHERE WHAT IT READS IS OF BULK AT MOST 1048576: true; the input reads as it did. -/
def rainsLiarsUptoRow : OpenClaim := { program := "ytooankffknoomaa", sum := "ce67d0eee76d6c55ba79d4ae9ccc81c6b7fc0a52e0b9a3f4866f47ab213b8d56", func := "ferrule/ferrulelaw11.RainsLiars", spec := "rainsLiars", unfollowed := true, recurses := true, apart := false, narrowed := true }
def RainsLiarsUptoSaid : Prop := rainsLiarsUptoRow.holds Try.pinned (OpenSpec.upto rainsLiarsSpec)

/-- 'ferrulelaw11.RainsTrue', WHERE WHAT IT READS IS OF BULK AT MOST 1048576: true; the input reads as it did. -/
def rainsTrueUptoRow : OpenClaim := { program := "ytooankffknoomaa", sum := "ce67d0eee76d6c55ba79d4ae9ccc81c6b7fc0a52e0b9a3f4866f47ab213b8d56", func := "ferrule/ferrulelaw11.RainsTrue", spec := "rainsTrue", unfollowed := true, recurses := true, apart := false, narrowed := true }
def RainsTrueUptoSaid : Prop := rainsTrueUptoRow.holds Try.pinned (OpenSpec.upto rainsTrueSpec)

/-- 'ferrulelaw11.RainsLevels', WHERE WHAT IT READS IS OF BULK AT MOST 1048576: true; the input reads as it did. -/
def rainsLevelsUptoRow : OpenClaim := { program := "ytooankffknoomaa", sum := "ce67d0eee76d6c55ba79d4ae9ccc81c6b7fc0a52e0b9a3f4866f47ab213b8d56", func := "ferrule/ferrulelaw11.RainsLevels", spec := "rainsLevels", unfollowed := true, recurses := true, apart := false, narrowed := true }
def RainsLevelsUptoSaid : Prop := rainsLevelsUptoRow.holds Try.pinned (OpenSpec.upto rainsLevelsSpec)

end Rows
end Go.Proofs.Ytooankffknoomaa
