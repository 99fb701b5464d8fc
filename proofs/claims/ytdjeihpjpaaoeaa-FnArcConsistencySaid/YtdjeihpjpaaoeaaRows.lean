/-
  No cell of these rows narrows 'for every input' (looked for: loops, veiled, ifaces, maps, wideKeys, modest, calm, conditions, laid).
  DERIVED. THE GIVEN ROWS OF THIS SEAT. 3 by the template 'for every input the law returns true; each argument reads behind the call as it read before'; 0 by the template 'total and deterministic' (their statements: YtdjeihpjpaaoeaaTotals.lean).
  GIVEN WITH THE SEED: the statements are not yours to turn. If you find one false, say at which input.
  Laid BY PROGRAM, IN A SANDBOX (cutbox-rows.mjs): the forced cells as the released guide's own fill.sh prints them over the translation 9b4216c9cc816415… (all of the seat's roots in one cut). By AI agents, Wed Nov 11 2026. No macro, syntax, notation, axiom, sorry.
-/
import Derived.Test.YtdjeihpjpaaoeaaChecked
import GoSem.Claim
import GoSem.ClaimJoined
import GoSem.ClaimMapViews
import Derived.JoinedTies
import Derived.KernelRfl
namespace Go.Proofs.Ytdjeihpjpaaoeaa
/- THE CELL 'sum', in the pinned program and in every row, IS THE sha256 OF THE DUMP (.gsa) THAT YtdjeihpjpaaoeaaProg.lean LOADS. Nothing in Lean hashes anything: it is a label: what it is worth is what the hold of that sum in a sandbox is worth. -/
noncomputable def Try.pinned : Pinned := { name := "ytdjeihpjpaaoeaa", sum := "9b4216c9cc8164152a750772647519786b6afd2b72e8ade16676950742fb74fe", checked := Try.checked }
namespace Rows
def none {H : Type} : Left H := { results := [], args := [] }

/-- 'laws.FnExactSolutionRelation': WHATEVER THE INPUT: true; the input reads as it did. -/
def fnExactSolutionRelationSpec : ChangeSpec := { name := "fnExactSolutionRelation", fn := fun _ => fun
  | [d1, d2] => { results := [.lit (.bool true)], args := [d1, d2] }
  | _ => none }
def fnExactSolutionRelationRow : OpenClaim := { program := "ytdjeihpjpaaoeaa", sum := "9b4216c9cc8164152a750772647519786b6afd2b72e8ade16676950742fb74fe", func := "loop.example/g01078/laws.FnExactSolutionRelation", spec := "fnExactSolutionRelation", inPlace := ["internal/reflectlite.ValueOf", "internal/reflectlite.Swapper", "(internal/reflectlite.Value).Len"], unfollowed := true, recurses := true, apart := false }
def FnExactSolutionRelationSaid : Prop := fnExactSolutionRelationRow.holds Try.pinned (OpenSpec.ofChange fnExactSolutionRelationSpec)

/-- ITS FALSE NEIGHBOUR: 'it returns false'. Refute it at one input. -/
def fnExactSolutionRelationWrong : ChangeSpec := { name := "fnExactSolutionRelation", fn := fun _ => fun
  | [d1, d2] => { results := [.lit (.bool false)], args := [d1, d2] }
  | _ => none }
def FnExactSolutionRelationWrongFalsely : Prop := fnExactSolutionRelationRow.holds Try.pinned (OpenSpec.ofChange fnExactSolutionRelationWrong)

/-- 'laws.FnConflicts': WHATEVER THE INPUT: true; the input reads as it did. -/
def fnConflictsSpec : ChangeSpec := { name := "fnConflicts", fn := fun _ => fun
  | [d] => { results := [.lit (.bool true)], args := [d] }
  | _ => none }
def fnConflictsRow : OpenClaim := { program := "ytdjeihpjpaaoeaa", sum := "9b4216c9cc8164152a750772647519786b6afd2b72e8ade16676950742fb74fe", func := "loop.example/g01078/laws.FnConflicts", spec := "fnConflicts", unfollowed := true, recurses := true, apart := false }
def FnConflictsSaid : Prop := fnConflictsRow.holds Try.pinned (OpenSpec.ofChange fnConflictsSpec)

/-- ITS FALSE NEIGHBOUR: 'it returns false'. Refute it at one input. -/
def fnConflictsWrong : ChangeSpec := { name := "fnConflicts", fn := fun _ => fun
  | [d] => { results := [.lit (.bool false)], args := [d] }
  | _ => none }
def FnConflictsWrongFalsely : Prop := fnConflictsRow.holds Try.pinned (OpenSpec.ofChange fnConflictsWrong)

/-- 'laws.FnArcConsistency': WHATEVER THE INPUT: true; the input reads as it did. -/
def fnArcConsistencySpec : ChangeSpec := { name := "fnArcConsistency", fn := fun _ => fun
  | [d] => { results := [.lit (.bool true)], args := [d] }
  | _ => none }
def fnArcConsistencyRow : OpenClaim := { program := "ytdjeihpjpaaoeaa", sum := "9b4216c9cc8164152a750772647519786b6afd2b72e8ade16676950742fb74fe", func := "loop.example/g01078/laws.FnArcConsistency", spec := "fnArcConsistency", unfollowed := true, recurses := true, apart := false }
def FnArcConsistencySaid : Prop := fnArcConsistencyRow.holds Try.pinned (OpenSpec.ofChange fnArcConsistencySpec)

/-- ITS FALSE NEIGHBOUR: 'it returns false'. Refute it at one input. -/
def fnArcConsistencyWrong : ChangeSpec := { name := "fnArcConsistency", fn := fun _ => fun
  | [d] => { results := [.lit (.bool false)], args := [d] }
  | _ => none }
def FnArcConsistencyWrongFalsely : Prop := fnArcConsistencyRow.holds Try.pinned (OpenSpec.ofChange fnArcConsistencyWrong)

/- THE SECOND FORM. 'bulk': how many values and letters a reading holds, each counted each time it is reached (what is shared counts as often as it is met; a slice's spare places count too). A statement '..UptoSaid' is the law's where the arguments, and the package variables that the reading takes, are together of bulk at most 1048576: NARROWER than '..Said'. Prove '..Said' where nothing that the law and all that it calls make is longer than what came in: it says more and counts as full. Else prove '..UptoSaid'. A law counts once. -/
mutual
def uptoBulk {H : Type} : DataW H → Nat
  | .lit (.string bytes) => bytes.length + 1
  | .lit _ => 1
  | .nil => 1
  | .ptr d => uptoBulk d + 1
  | .slice elems spare => uptoBulkAll elems + uptoBulkAll spare + 1
  | .agg parts => uptoBulkAll parts + 1
  | .iface _ d => uptoBulk d + 1
  | .map entries => uptoBulkEntries entries + 1
  | .held _ => 1
def uptoBulkAll {H : Type} : List (DataW H) → Nat
  | [] => 0
  | d :: r => uptoBulk d + uptoBulkAll r
def uptoBulkEntries {H : Type} : List (Lit × DataW H) → Nat
  | [] => 0
  | x :: r => uptoBulkEntry x + uptoBulkEntries r
def uptoBulkEntry {H : Type} : Lit × DataW H → Nat
  | (.string bytes, d) => bytes.length + uptoBulk d + 1
  | (_, d) => uptoBulk d + 1
 end
def uptoSmall : (H : Type) → List (DataW H) → Bool := fun _ ds => decide (uptoBulkAll ds ≤ 1048576)
def OpenSpec.upto (s : _root_.Go.ChangeSpec) : _root_.Go.OpenSpec := { _root_.Go.OpenSpec.ofChange s with cond := some uptoSmall }

/-- 'laws.FnExactSolutionRelation', WHERE WHAT IT READS IS OF BULK AT MOST 1048576: true; the input reads as it did. -/
def fnExactSolutionRelationUptoRow : OpenClaim := { program := "ytdjeihpjpaaoeaa", sum := "9b4216c9cc8164152a750772647519786b6afd2b72e8ade16676950742fb74fe", func := "loop.example/g01078/laws.FnExactSolutionRelation", spec := "fnExactSolutionRelation", inPlace := ["internal/reflectlite.ValueOf", "internal/reflectlite.Swapper", "(internal/reflectlite.Value).Len"], unfollowed := true, recurses := true, apart := false, narrowed := true }
def FnExactSolutionRelationUptoSaid : Prop := fnExactSolutionRelationUptoRow.holds Try.pinned (OpenSpec.upto fnExactSolutionRelationSpec)

/-- 'laws.FnConflicts', WHERE WHAT IT READS IS OF BULK AT MOST 1048576: true; the input reads as it did. -/
def fnConflictsUptoRow : OpenClaim := { program := "ytdjeihpjpaaoeaa", sum := "9b4216c9cc8164152a750772647519786b6afd2b72e8ade16676950742fb74fe", func := "loop.example/g01078/laws.FnConflicts", spec := "fnConflicts", unfollowed := true, recurses := true, apart := false, narrowed := true }
def FnConflictsUptoSaid : Prop := fnConflictsUptoRow.holds Try.pinned (OpenSpec.upto fnConflictsSpec)

/-- 'laws.FnArcConsistency', WHERE WHAT IT READS IS OF BULK AT MOST 1048576: true; the input reads as it did. -/
def fnArcConsistencyUptoRow : OpenClaim := { program := "ytdjeihpjpaaoeaa", sum := "9b4216c9cc8164152a750772647519786b6afd2b72e8ade16676950742fb74fe", func := "loop.example/g01078/laws.FnArcConsistency", spec := "fnArcConsistency", unfollowed := true, recurses := true, apart := false, narrowed := true }
def FnArcConsistencyUptoSaid : Prop := fnArcConsistencyUptoRow.holds Try.pinned (OpenSpec.upto fnArcConsistencySpec)

end Rows
end Go.Proofs.Ytdjeihpjpaaoeaa
