/-
  No cell of these rows narrows 'for every input' (looked for: loops, veiled, ifaces, maps, wideKeys, modest, calm, conditions, laid).
  DERIVED. THE GIVEN ROWS OF THIS SEAT. 3 by the template 'for every input the law returns true; each argument reads behind the call as it read before'; 0 by the template 'total and deterministic' (their statements: YtmikbobckddodaaTotals.lean).
  GIVEN WITH THE SEED: the statements are not yours to turn. If you find one false, say at which input.
  Laid BY PROGRAM, IN A SANDBOX (cutbox-rows.mjs): the forced cells as the released guide's own fill.sh prints them over the translation 987f16eb9da2d5d8… (all of the seat's roots in one cut). By AI agents, Wed Nov 11 2026. No macro, syntax, notation, axiom, sorry.
-/
import Derived.Test.YtmikbobckddodaaChecked
import GoSem.Claim
import GoSem.ClaimJoined
import GoSem.ClaimMapViews
import Derived.JoinedTies
import Derived.KernelRfl
namespace Go.Proofs.Ytmikbobckddodaa
/- THE CELL 'sum', in the pinned program and in every row, IS THE sha256 OF THE DUMP (.gsa) THAT YtmikbobckddodaaProg.lean LOADS. Nothing in Lean hashes anything: it is a label: what it is worth is what the hold of that sum in a sandbox is worth. -/
noncomputable def Try.pinned : Pinned := { name := "ytmikbobckddodaa", sum := "987f16eb9da2d5d84ed4ba31529f718a2d42fabc614592fd78fba50da44ce614", checked := Try.checked }
namespace Rows
def none {H : Type} : Left H := { results := [], args := [] }

/-- 'laws.FnExactDomainsAfter': WHATEVER THE INPUT: true; the input reads as it did. -/
def fnExactDomainsAfterSpec : ChangeSpec := { name := "fnExactDomainsAfter", fn := fun _ => fun
  | [d1, d2, d3] => { results := [.lit (.bool true)], args := [d1, d2, d3] }
  | _ => none }
def fnExactDomainsAfterRow : OpenClaim := { program := "ytmikbobckddodaa", sum := "987f16eb9da2d5d84ed4ba31529f718a2d42fabc614592fd78fba50da44ce614", func := "loop.example/g01078/laws.FnExactDomainsAfter", spec := "fnExactDomainsAfter", apart := false }
def FnExactDomainsAfterSaid : Prop := fnExactDomainsAfterRow.holds Try.pinned (OpenSpec.ofChange fnExactDomainsAfterSpec)

/-- ITS FALSE NEIGHBOUR: 'it returns false'. Refute it at one input. -/
def fnExactDomainsAfterWrong : ChangeSpec := { name := "fnExactDomainsAfter", fn := fun _ => fun
  | [d1, d2, d3] => { results := [.lit (.bool false)], args := [d1, d2, d3] }
  | _ => none }
def FnExactDomainsAfterWrongFalsely : Prop := fnExactDomainsAfterRow.holds Try.pinned (OpenSpec.ofChange fnExactDomainsAfterWrong)

/-- 'laws.FnExactFoldedSolution': WHATEVER THE INPUT: true; the input reads as it did. -/
def fnExactFoldedSolutionSpec : ChangeSpec := { name := "fnExactFoldedSolution", fn := fun _ => fun
  | [d1, d2] => { results := [.lit (.bool true)], args := [d1, d2] }
  | _ => none }
def fnExactFoldedSolutionRow : OpenClaim := { program := "ytmikbobckddodaa", sum := "987f16eb9da2d5d84ed4ba31529f718a2d42fabc614592fd78fba50da44ce614", func := "loop.example/g01078/laws.FnExactFoldedSolution", spec := "fnExactFoldedSolution", apart := false }
def FnExactFoldedSolutionSaid : Prop := fnExactFoldedSolutionRow.holds Try.pinned (OpenSpec.ofChange fnExactFoldedSolutionSpec)

/-- ITS FALSE NEIGHBOUR: 'it returns false'. Refute it at one input. -/
def fnExactFoldedSolutionWrong : ChangeSpec := { name := "fnExactFoldedSolution", fn := fun _ => fun
  | [d1, d2] => { results := [.lit (.bool false)], args := [d1, d2] }
  | _ => none }
def FnExactFoldedSolutionWrongFalsely : Prop := fnExactFoldedSolutionRow.holds Try.pinned (OpenSpec.ofChange fnExactFoldedSolutionWrong)

/-- 'laws.FnExactSingleDomains': WHATEVER THE INPUT: true; the input reads as it did. -/
def fnExactSingleDomainsSpec : ChangeSpec := { name := "fnExactSingleDomains", fn := fun _ => fun
  | [d] => { results := [.lit (.bool true)], args := [d] }
  | _ => none }
def fnExactSingleDomainsRow : OpenClaim := { program := "ytmikbobckddodaa", sum := "987f16eb9da2d5d84ed4ba31529f718a2d42fabc614592fd78fba50da44ce614", func := "loop.example/g01078/laws.FnExactSingleDomains", spec := "fnExactSingleDomains", apart := false }
def FnExactSingleDomainsSaid : Prop := fnExactSingleDomainsRow.holds Try.pinned (OpenSpec.ofChange fnExactSingleDomainsSpec)

/-- ITS FALSE NEIGHBOUR: 'it returns false'. Refute it at one input. -/
def fnExactSingleDomainsWrong : ChangeSpec := { name := "fnExactSingleDomains", fn := fun _ => fun
  | [d] => { results := [.lit (.bool false)], args := [d] }
  | _ => none }
def FnExactSingleDomainsWrongFalsely : Prop := fnExactSingleDomainsRow.holds Try.pinned (OpenSpec.ofChange fnExactSingleDomainsWrong)

/- THE SECOND FORM. 'bulk': how many values and letters a reading holds, each counted each time it is reached (what is shared counts as often as it is met; a slice's spare places count too). A statement '..UptoSaid' is the law's where the arguments, and the package variables that the reading takes, are together of bulk at most 1048576: NARROWER than '..Said'. Prove '..Said' where nothing that the law and all that it calls make is longer than what came in: it says more and counts as full. Else prove '..UptoSaid'. A law counts once. -/
mutual
def uptoBulk {H : Type} : DataW H → Nat
  | .lit (.string bytes) => bytes.length + 1
  | .lit _ => 1
  | .nil => 1
  | .ptr d => uptoBulk d + 1
  | .slice elems spare => uptoBulkAll elems + uptoBulkAll spare + 1
  | .agg parts => uptoBulkAll parts + 1
  | .iface _ d => uptoBulk d + 1
  | .map entries => uptoBulkEntries entries + 1
  | .held _ => 1
def uptoBulkAll {H : Type} : List (DataW H) → Nat
  | [] => 0
  | d :: r => uptoBulk d + uptoBulkAll r
def uptoBulkEntries {H : Type} : List (Lit × DataW H) → Nat
  | [] => 0
  | x :: r => uptoBulkEntry x + uptoBulkEntries r
def uptoBulkEntry {H : Type} : Lit × DataW H → Nat
  | (.string bytes, d) => bytes.length + uptoBulk d + 1
  | (_, d) => uptoBulk d + 1
 end
def uptoSmall : (H : Type) → List (DataW H) → Bool := fun _ ds => decide (uptoBulkAll ds ≤ 1048576)
def OpenSpec.upto (s : _root_.Go.ChangeSpec) : _root_.Go.OpenSpec := { _root_.Go.OpenSpec.ofChange s with cond := some uptoSmall }

/-- 'laws.FnExactDomainsAfter', WHERE WHAT IT READS IS OF BULK AT MOST 1048576: true; the input reads as it did. -/
def fnExactDomainsAfterUptoRow : OpenClaim := { program := "ytmikbobckddodaa", sum := "987f16eb9da2d5d84ed4ba31529f718a2d42fabc614592fd78fba50da44ce614", func := "loop.example/g01078/laws.FnExactDomainsAfter", spec := "fnExactDomainsAfter", apart := false, narrowed := true }
def FnExactDomainsAfterUptoSaid : Prop := fnExactDomainsAfterUptoRow.holds Try.pinned (OpenSpec.upto fnExactDomainsAfterSpec)

/-- 'laws.FnExactFoldedSolution', WHERE WHAT IT READS IS OF BULK AT MOST 1048576: true; the input reads as it did. -/
def fnExactFoldedSolutionUptoRow : OpenClaim := { program := "ytmikbobckddodaa", sum := "987f16eb9da2d5d84ed4ba31529f718a2d42fabc614592fd78fba50da44ce614", func := "loop.example/g01078/laws.FnExactFoldedSolution", spec := "fnExactFoldedSolution", apart := false, narrowed := true }
def FnExactFoldedSolutionUptoSaid : Prop := fnExactFoldedSolutionUptoRow.holds Try.pinned (OpenSpec.upto fnExactFoldedSolutionSpec)

/-- 'laws.FnExactSingleDomains', WHERE WHAT IT READS IS OF BULK AT MOST 1048576: true; the input reads as it did. -/
def fnExactSingleDomainsUptoRow : OpenClaim := { program := "ytmikbobckddodaa", sum := "987f16eb9da2d5d84ed4ba31529f718a2d42fabc614592fd78fba50da44ce614", func := "loop.example/g01078/laws.FnExactSingleDomains", spec := "fnExactSingleDomains", apart := false, narrowed := true }
def FnExactSingleDomainsUptoSaid : Prop := fnExactSingleDomainsUptoRow.holds Try.pinned (OpenSpec.upto fnExactSingleDomainsSpec)

end Rows
end Go.Proofs.Ytmikbobckddodaa
