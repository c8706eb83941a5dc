/-
  No cell of these rows narrows 'for every input' (looked for: loops, veiled, ifaces, maps, wideKeys, modest, calm, conditions, laid).
  DERIVED. THE GIVEN ROWS OF THIS SEAT. 8 by the template 'for every input the law returns true; each argument reads behind the call as it read before'; 0 by the template 'total and deterministic' (their statements: YtcpnnfdhafbemaaTotals.lean).
  GIVEN WITH THE SEED: the statements are not yours to turn. If you find one false, say at which input.
  Laid BY PROGRAM, IN A SANDBOX (cutbox-rows.mjs): the forced cells as the released guide's own fill.sh prints them over the translation d39b77528558fdd7… (all of the seat's roots in one cut). By AI agents, Wed Nov 11 2026. No macro, syntax, notation, axiom, sorry.
-/
import Derived.Test.YtcpnnfdhafbemaaChecked
import GoSem.Claim
import GoSem.ClaimJoined
import GoSem.ClaimMapViews
import Derived.JoinedTies
import Derived.KernelRfl
namespace Go.Proofs.Ytcpnnfdhafbemaa
/- THE CELL 'sum', in the pinned program and in every row, IS THE sha256 OF THE DUMP (.gsa) THAT YtcpnnfdhafbemaaProg.lean LOADS. Nothing in Lean hashes anything: it is a label: what it is worth is what the hold of that sum in a sandbox is worth. -/
noncomputable def Try.pinned : Pinned := { name := "ytcpnnfdhafbemaa", sum := "d39b77528558fdd7e450e02a954606d80d628bd472cb422e11a7dd424fe92c13", checked := Try.checked }
namespace Rows
def none {H : Type} : Left H := { results := [], args := [] }

/-- 'ferrulelaw05.GustsTurned': WHATEVER THE INPUT: true; the input reads as it did. -/
def gustsTurnedSpec : ChangeSpec := { name := "gustsTurned", fn := fun _ => fun
  | [d1, d2, d3] => { results := [.lit (.bool true)], args := [d1, d2, d3] }
  | _ => none }
def gustsTurnedRow : OpenClaim := { program := "ytcpnnfdhafbemaa", sum := "d39b77528558fdd7e450e02a954606d80d628bd472cb422e11a7dd424fe92c13", func := "ferrule/ferrulelaw05.GustsTurned", spec := "gustsTurned", unfollowed := true, recurses := true, apart := false }
def GustsTurnedSaid : Prop := gustsTurnedRow.holds Try.pinned (OpenSpec.ofChange gustsTurnedSpec)

/-- ITS FALSE NEIGHBOUR: 'it returns false'. Refute it at one input. -/
def gustsTurnedWrong : ChangeSpec := { name := "gustsTurned", fn := fun _ => fun
  | [d1, d2, d3] => { results := [.lit (.bool false)], args := [d1, d2, d3] }
  | _ => none }
def GustsTurnedWrongFalsely : Prop := gustsTurnedRow.holds Try.pinned (OpenSpec.ofChange gustsTurnedWrong)

/-- 'ferrulelaw05.GustsLoads': WHATEVER THE INPUT: true; the input reads as it did. -/
def gustsLoadsSpec : ChangeSpec := { name := "gustsLoads", fn := fun _ => fun
  | [d1, d2] => { results := [.lit (.bool true)], args := [d1, d2] }
  | _ => none }
def gustsLoadsRow : OpenClaim := { program := "ytcpnnfdhafbemaa", sum := "d39b77528558fdd7e450e02a954606d80d628bd472cb422e11a7dd424fe92c13", func := "ferrule/ferrulelaw05.GustsLoads", spec := "gustsLoads", unfollowed := true, recurses := true, apart := false }
def GustsLoadsSaid : Prop := gustsLoadsRow.holds Try.pinned (OpenSpec.ofChange gustsLoadsSpec)

/-- ITS FALSE NEIGHBOUR: 'it returns false'. Refute it at one input. -/
def gustsLoadsWrong : ChangeSpec := { name := "gustsLoads", fn := fun _ => fun
  | [d1, d2] => { results := [.lit (.bool false)], args := [d1, d2] }
  | _ => none }
def GustsLoadsWrongFalsely : Prop := gustsLoadsRow.holds Try.pinned (OpenSpec.ofChange gustsLoadsWrong)

/-- 'ferrulelaw05.GustsRounds': WHATEVER THE INPUT: true; the input reads as it did. -/
def gustsRoundsSpec : ChangeSpec := { name := "gustsRounds", fn := fun _ => fun
  | [d1, d2] => { results := [.lit (.bool true)], args := [d1, d2] }
  | _ => none }
def gustsRoundsRow : OpenClaim := { program := "ytcpnnfdhafbemaa", sum := "d39b77528558fdd7e450e02a954606d80d628bd472cb422e11a7dd424fe92c13", func := "ferrule/ferrulelaw05.GustsRounds", spec := "gustsRounds", unfollowed := true, recurses := true, apart := false }
def GustsRoundsSaid : Prop := gustsRoundsRow.holds Try.pinned (OpenSpec.ofChange gustsRoundsSpec)

/-- ITS FALSE NEIGHBOUR: 'it returns false'. Refute it at one input. -/
def gustsRoundsWrong : ChangeSpec := { name := "gustsRounds", fn := fun _ => fun
  | [d1, d2] => { results := [.lit (.bool false)], args := [d1, d2] }
  | _ => none }
def GustsRoundsWrongFalsely : Prop := gustsRoundsRow.holds Try.pinned (OpenSpec.ofChange gustsRoundsWrong)

/-- 'ferrulelaw05.GustsStronger': WHATEVER THE INPUT: true; the input reads as it did. -/
def gustsStrongerSpec : ChangeSpec := { name := "gustsStronger", fn := fun _ => fun
  | [d1, d2, d3] => { results := [.lit (.bool true)], args := [d1, d2, d3] }
  | _ => none }
def gustsStrongerRow : OpenClaim := { program := "ytcpnnfdhafbemaa", sum := "d39b77528558fdd7e450e02a954606d80d628bd472cb422e11a7dd424fe92c13", func := "ferrule/ferrulelaw05.GustsStronger", spec := "gustsStronger", unfollowed := true, recurses := true, apart := false }
def GustsStrongerSaid : Prop := gustsStrongerRow.holds Try.pinned (OpenSpec.ofChange gustsStrongerSpec)

/-- ITS FALSE NEIGHBOUR: 'it returns false'. Refute it at one input. -/
def gustsStrongerWrong : ChangeSpec := { name := "gustsStronger", fn := fun _ => fun
  | [d1, d2, d3] => { results := [.lit (.bool false)], args := [d1, d2, d3] }
  | _ => none }
def GustsStrongerWrongFalsely : Prop := gustsStrongerRow.holds Try.pinned (OpenSpec.ofChange gustsStrongerWrong)

/-- 'ferrulelaw05.GustsBetter': WHATEVER THE INPUT: true; the input reads as it did. -/
def gustsBetterSpec : ChangeSpec := { name := "gustsBetter", fn := fun _ => fun
  | [d1, d2, d3] => { results := [.lit (.bool true)], args := [d1, d2, d3] }
  | _ => none }
def gustsBetterRow : OpenClaim := { program := "ytcpnnfdhafbemaa", sum := "d39b77528558fdd7e450e02a954606d80d628bd472cb422e11a7dd424fe92c13", func := "ferrule/ferrulelaw05.GustsBetter", spec := "gustsBetter", unfollowed := true, recurses := true, apart := false }
def GustsBetterSaid : Prop := gustsBetterRow.holds Try.pinned (OpenSpec.ofChange gustsBetterSpec)

/-- ITS FALSE NEIGHBOUR: 'it returns false'. Refute it at one input. -/
def gustsBetterWrong : ChangeSpec := { name := "gustsBetter", fn := fun _ => fun
  | [d1, d2, d3] => { results := [.lit (.bool false)], args := [d1, d2, d3] }
  | _ => none }
def GustsBetterWrongFalsely : Prop := gustsBetterRow.holds Try.pinned (OpenSpec.ofChange gustsBetterWrong)

/-- 'ferrulelaw05.GustsClass': WHATEVER THE INPUT: true; the input reads as it did. -/
def gustsClassSpec : ChangeSpec := { name := "gustsClass", fn := fun _ => fun
  | [d1, d2, d3] => { results := [.lit (.bool true)], args := [d1, d2, d3] }
  | _ => none }
def gustsClassRow : OpenClaim := { program := "ytcpnnfdhafbemaa", sum := "d39b77528558fdd7e450e02a954606d80d628bd472cb422e11a7dd424fe92c13", func := "ferrule/ferrulelaw05.GustsClass", spec := "gustsClass", unfollowed := true, recurses := true, apart := false }
def GustsClassSaid : Prop := gustsClassRow.holds Try.pinned (OpenSpec.ofChange gustsClassSpec)

/-- ITS FALSE NEIGHBOUR: 'it returns false'. Refute it at one input. -/
def gustsClassWrong : ChangeSpec := { name := "gustsClass", fn := fun _ => fun
  | [d1, d2, d3] => { results := [.lit (.bool false)], args := [d1, d2, d3] }
  | _ => none }
def GustsClassWrongFalsely : Prop := gustsClassRow.holds Try.pinned (OpenSpec.ofChange gustsClassWrong)

/-- 'ferrulelaw05.GustsMended': WHATEVER THE INPUT: true; the input reads as it did. -/
def gustsMendedSpec : ChangeSpec := { name := "gustsMended", fn := fun _ => fun
  | [d1, d2, d3] => { results := [.lit (.bool true)], args := [d1, d2, d3] }
  | _ => none }
def gustsMendedRow : OpenClaim := { program := "ytcpnnfdhafbemaa", sum := "d39b77528558fdd7e450e02a954606d80d628bd472cb422e11a7dd424fe92c13", func := "ferrule/ferrulelaw05.GustsMended", spec := "gustsMended", unfollowed := true, recurses := true, apart := false }
def GustsMendedSaid : Prop := gustsMendedRow.holds Try.pinned (OpenSpec.ofChange gustsMendedSpec)

/-- ITS FALSE NEIGHBOUR: 'it returns false'. Refute it at one input. -/
def gustsMendedWrong : ChangeSpec := { name := "gustsMended", fn := fun _ => fun
  | [d1, d2, d3] => { results := [.lit (.bool false)], args := [d1, d2, d3] }
  | _ => none }
def GustsMendedWrongFalsely : Prop := gustsMendedRow.holds Try.pinned (OpenSpec.ofChange gustsMendedWrong)

/-- 'ferrulelaw05.GustsTrue': WHATEVER THE INPUT: true; the input reads as it did. -/
def gustsTrueSpec : ChangeSpec := { name := "gustsTrue", fn := fun _ => fun
  | [d1, d2, d3] => { results := [.lit (.bool true)], args := [d1, d2, d3] }
  | _ => none }
def gustsTrueRow : OpenClaim := { program := "ytcpnnfdhafbemaa", sum := "d39b77528558fdd7e450e02a954606d80d628bd472cb422e11a7dd424fe92c13", func := "ferrule/ferrulelaw05.GustsTrue", spec := "gustsTrue", unfollowed := true, recurses := true, apart := false }
def GustsTrueSaid : Prop := gustsTrueRow.holds Try.pinned (OpenSpec.ofChange gustsTrueSpec)

/-- ITS FALSE NEIGHBOUR: 'it returns false'. Refute it at one input. -/
def gustsTrueWrong : ChangeSpec := { name := "gustsTrue", fn := fun _ => fun
  | [d1, d2, d3] => { results := [.lit (.bool false)], args := [d1, d2, d3] }
  | _ => none }
def GustsTrueWrongFalsely : Prop := gustsTrueRow.holds Try.pinned (OpenSpec.ofChange gustsTrueWrong)

/- THE SECOND FORM. 'bulk': how many values and letters a reading holds, each counted each time it is reached (what is shared counts as often as it is met; a slice's spare places count too). A statement '..UptoSaid' is the law's where the arguments, and the package variables that the reading takes, are together of bulk at most 1048576: NARROWER than '..Said'. Prove '..Said' where nothing that the law and all that it calls make is longer than what came in: it says more and counts as full. Else prove '..UptoSaid'. A law counts once. -/
mutual
def uptoBulk {H : Type} : DataW H → Nat
  | .lit (.string bytes) => bytes.length + 1
  | .lit _ => 1
  | .nil => 1
  | .ptr d => uptoBulk d + 1
  | .slice elems spare => uptoBulkAll elems + uptoBulkAll spare + 1
  | .agg parts => uptoBulkAll parts + 1
  | .iface _ d => uptoBulk d + 1
  | .map entries => uptoBulkEntries entries + 1
  | .held _ => 1
def uptoBulkAll {H : Type} : List (DataW H) → Nat
  | [] => 0
  | d :: r => uptoBulk d + uptoBulkAll r
def uptoBulkEntries {H : Type} : List (Lit × DataW H) → Nat
  | [] => 0
  | x :: r => uptoBulkEntry x + uptoBulkEntries r
def uptoBulkEntry {H : Type} : Lit × DataW H → Nat
  | (.string bytes, d) => bytes.length + uptoBulk d + 1
  | (_, d) => uptoBulk d + 1
 end
def uptoSmall : (H : Type) → List (DataW H) → Bool := fun _ ds => decide (uptoBulkAll ds ≤ 1048576)
def OpenSpec.upto (s : _root_.Go.ChangeSpec) : _root_.Go.OpenSpec := { _root_.Go.OpenSpec.ofChange s with cond := some uptoSmall }

/-- 'ferrulelaw05.GustsTurned', WHERE WHAT IT READS IS OF BULK AT MOST 1048576: true; the input reads as it did. -/
def gustsTurnedUptoRow : OpenClaim := { program := "ytcpnnfdhafbemaa", sum := "d39b77528558fdd7e450e02a954606d80d628bd472cb422e11a7dd424fe92c13", func := "ferrule/ferrulelaw05.GustsTurned", spec := "gustsTurned", unfollowed := true, recurses := true, apart := false, narrowed := true }
def GustsTurnedUptoSaid : Prop := gustsTurnedUptoRow.holds Try.pinned (OpenSpec.upto gustsTurnedSpec)

/-- 'ferrulelaw05.GustsLoads', WHERE WHAT IT READS IS OF BULK AT MOST 1048576: true; the input reads as it did. -/
def gustsLoadsUptoRow : OpenClaim := { program := "ytcpnnfdhafbemaa", sum := "d39b77528558fdd7e450e02a954606d80d628bd472cb422e11a7dd424fe92c13", func := "ferrule/ferrulelaw05.GustsLoads", spec := "gustsLoads", unfollowed := true, recurses := true, apart := false, narrowed := true }
def GustsLoadsUptoSaid : Prop := gustsLoadsUptoRow.holds Try.pinned (OpenSpec.upto gustsLoadsSpec)

/-- 'ferrulelaw05.GustsRounds', WHERE WHAT IT READS IS OF BULK AT MOST 1048576: true; the input reads as it did. -/
def gustsRoundsUptoRow : OpenClaim := { program := "ytcpnnfdhafbemaa", sum := "d39b77528558fdd7e450e02a954606d80d628bd472cb422e11a7dd424fe92c13", func := "ferrule/ferrulelaw05.GustsRounds", spec := "gustsRounds", unfollowed := true, recurses := true, apart := false, narrowed := true }
def GustsRoundsUptoSaid : Prop := gustsRoundsUptoRow.holds Try.pinned (OpenSpec.upto gustsRoundsSpec)

/-- 'ferrulelaw05.GustsStronger', WHERE WHAT IT READS IS OF BULK AT MOST 1048576: true; the input reads as it did. -/
def gustsStrongerUptoRow : OpenClaim := { program := "ytcpnnfdhafbemaa", sum := "d39b77528558fdd7e450e02a954606d80d628bd472cb422e11a7dd424fe92c13", func := "ferrule/ferrulelaw05.GustsStronger", spec := "gustsStronger", unfollowed := true, recurses := true, apart := false, narrowed := true }
def GustsStrongerUptoSaid : Prop := gustsStrongerUptoRow.holds Try.pinned (OpenSpec.upto gustsStrongerSpec)

/-- 'ferrulelaw05.GustsBetter', WHERE WHAT IT READS IS OF BULK AT MOST 1048576: true; the input reads as it did. -/
def gustsBetterUptoRow : OpenClaim := { program := "ytcpnnfdhafbemaa", sum := "d39b77528558fdd7e450e02a954606d80d628bd472cb422e11a7dd424fe92c13", func := "ferrule/ferrulelaw05.GustsBetter", spec := "gustsBetter", unfollowed := true, recurses := true, apart := false, narrowed := true }
def GustsBetterUptoSaid : Prop := gustsBetterUptoRow.holds Try.pinned (OpenSpec.upto gustsBetterSpec)

/-- 'ferrulelaw05.GustsClass', WHERE WHAT IT READS IS OF BULK AT MOST 1048576: true; the input reads as it did. -/
def gustsClassUptoRow : OpenClaim := { program := "ytcpnnfdhafbemaa", sum := "d39b77528558fdd7e450e02a954606d80d628bd472cb422e11a7dd424fe92c13", func := "ferrule/ferrulelaw05.GustsClass", spec := "gustsClass", unfollowed := true, recurses := true, apart := false, narrowed := true }
def GustsClassUptoSaid : Prop := gustsClassUptoRow.holds Try.pinned (OpenSpec.upto gustsClassSpec)

/-- 'ferrulelaw05.GustsMended', WHERE WHAT IT READS IS OF BULK AT MOST 1048576: true; the input reads as it did. -/
def gustsMendedUptoRow : OpenClaim := { program := "ytcpnnfdhafbemaa", sum := "d39b77528558fdd7e450e02a954606d80d628bd472cb422e11a7dd424fe92c13", func := "ferrule/ferrulelaw05.GustsMended", spec := "gustsMended", unfollowed := true, recurses := true, apart := false, narrowed := true }
def GustsMendedUptoSaid : Prop := gustsMendedUptoRow.holds Try.pinned (OpenSpec.upto gustsMendedSpec)

/-- 'ferrulelaw05.GustsTrue', WHERE WHAT IT READS IS OF BULK AT MOST 1048576: true; the input reads as it did. -/
def gustsTrueUptoRow : OpenClaim := { program := "ytcpnnfdhafbemaa", sum := "d39b77528558fdd7e450e02a954606d80d628bd472cb422e11a7dd424fe92c13", func := "ferrule/ferrulelaw05.GustsTrue", spec := "gustsTrue", unfollowed := true, recurses := true, apart := false, narrowed := true }
def GustsTrueUptoSaid : Prop := gustsTrueUptoRow.holds Try.pinned (OpenSpec.upto gustsTrueSpec)

end Rows
end Go.Proofs.Ytcpnnfdhafbemaa
