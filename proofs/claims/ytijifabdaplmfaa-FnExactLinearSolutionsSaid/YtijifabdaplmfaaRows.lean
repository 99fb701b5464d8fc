/-
  No cell of these rows narrows 'for every input' (looked for: loops, veiled, ifaces, maps, wideKeys, modest, calm, conditions, laid).
  DERIVED. THE GIVEN ROWS OF THIS SEAT. 4 by the template 'for every input the law returns true; each argument reads behind the call as it read before'; 0 by the template 'total and deterministic' (their statements: YtijifabdaplmfaaTotals.lean).
  GIVEN WITH THE SEED: the statements are not yours to turn. If you find one false, say at which input.
  Laid BY PROGRAM, IN A SANDBOX (cutbox-rows.mjs): the forced cells as the released guide's own fill.sh prints them over the translation 04b8cb957cfa6760… (all of the seat's roots in one cut). By AI agents, Wed Nov 11 2026. No macro, syntax, notation, axiom, sorry.
-/
import Derived.Test.YtijifabdaplmfaaChecked
import GoSem.Claim
import GoSem.ClaimJoined
import GoSem.ClaimMapViews
import Derived.JoinedTies
import Derived.KernelRfl
namespace Go.Proofs.Ytijifabdaplmfaa
/- THE CELL 'sum', in the pinned program and in every row, IS THE sha256 OF THE DUMP (.gsa) THAT YtijifabdaplmfaaProg.lean LOADS. Nothing in Lean hashes anything: it is a label: what it is worth is what the hold of that sum in a sandbox is worth. -/
noncomputable def Try.pinned : Pinned := { name := "ytijifabdaplmfaa", sum := "04b8cb957cfa676001be1768d3186f3199302cbfb01b4de347f4354f13b398b9", checked := Try.checked }
namespace Rows
def none {H : Type} : Left H := { results := [], args := [] }

/-- 'laws.FnExactForksOf': WHATEVER THE INPUT: true; the input reads as it did. -/
def fnExactForksOfSpec : ChangeSpec := { name := "fnExactForksOf", fn := fun _ => fun
  | [d1, d2, d3] => { results := [.lit (.bool true)], args := [d1, d2, d3] }
  | _ => none }
def fnExactForksOfRow : OpenClaim := { program := "ytijifabdaplmfaa", sum := "04b8cb957cfa676001be1768d3186f3199302cbfb01b4de347f4354f13b398b9", func := "loop.example/g01078/laws.FnExactForksOf", spec := "fnExactForksOf", inPlace := ["internal/reflectlite.ValueOf", "internal/reflectlite.Swapper", "(internal/reflectlite.Value).Len"], unfollowed := true, recurses := true, plainKeys := false, apart := false }
def FnExactForksOfSaid : Prop := fnExactForksOfRow.holds Try.pinned (OpenSpec.ofChange fnExactForksOfSpec)

/-- ITS FALSE NEIGHBOUR: 'it returns false'. Refute it at one input. -/
def fnExactForksOfWrong : ChangeSpec := { name := "fnExactForksOf", fn := fun _ => fun
  | [d1, d2, d3] => { results := [.lit (.bool false)], args := [d1, d2, d3] }
  | _ => none }
def FnExactForksOfWrongFalsely : Prop := fnExactForksOfRow.holds Try.pinned (OpenSpec.ofChange fnExactForksOfWrong)

/-- 'laws.FnExactWitnessesOf': WHATEVER THE INPUT: true; the input reads as it did. -/
def fnExactWitnessesOfSpec : ChangeSpec := { name := "fnExactWitnessesOf", fn := fun _ => fun
  | [d1, d2, d3] => { results := [.lit (.bool true)], args := [d1, d2, d3] }
  | _ => none }
def fnExactWitnessesOfRow : OpenClaim := { program := "ytijifabdaplmfaa", sum := "04b8cb957cfa676001be1768d3186f3199302cbfb01b4de347f4354f13b398b9", func := "loop.example/g01078/laws.FnExactWitnessesOf", spec := "fnExactWitnessesOf", inPlace := ["internal/reflectlite.ValueOf", "internal/reflectlite.Swapper", "(internal/reflectlite.Value).Len"], unfollowed := true, recurses := true, plainKeys := false, apart := false }
def FnExactWitnessesOfSaid : Prop := fnExactWitnessesOfRow.holds Try.pinned (OpenSpec.ofChange fnExactWitnessesOfSpec)

/-- ITS FALSE NEIGHBOUR: 'it returns false'. Refute it at one input. -/
def fnExactWitnessesOfWrong : ChangeSpec := { name := "fnExactWitnessesOf", fn := fun _ => fun
  | [d1, d2, d3] => { results := [.lit (.bool false)], args := [d1, d2, d3] }
  | _ => none }
def FnExactWitnessesOfWrongFalsely : Prop := fnExactWitnessesOfRow.holds Try.pinned (OpenSpec.ofChange fnExactWitnessesOfWrong)

/-- 'laws.FnExactLinearSolutions': WHATEVER THE INPUT: true; the input reads as it did. -/
def fnExactLinearSolutionsSpec : ChangeSpec := { name := "fnExactLinearSolutions", fn := fun _ => fun
  | [d] => { results := [.lit (.bool true)], args := [d] }
  | _ => none }
def fnExactLinearSolutionsRow : OpenClaim := { program := "ytijifabdaplmfaa", sum := "04b8cb957cfa676001be1768d3186f3199302cbfb01b4de347f4354f13b398b9", func := "loop.example/g01078/laws.FnExactLinearSolutions", spec := "fnExactLinearSolutions", inPlace := ["internal/reflectlite.ValueOf", "internal/reflectlite.Swapper", "(internal/reflectlite.Value).Len"], unfollowed := true, recurses := true, plainKeys := false, apart := false }
def FnExactLinearSolutionsSaid : Prop := fnExactLinearSolutionsRow.holds Try.pinned (OpenSpec.ofChange fnExactLinearSolutionsSpec)

/-- ITS FALSE NEIGHBOUR: 'it returns false'. Refute it at one input. -/
def fnExactLinearSolutionsWrong : ChangeSpec := { name := "fnExactLinearSolutions", fn := fun _ => fun
  | [d] => { results := [.lit (.bool false)], args := [d] }
  | _ => none }
def FnExactLinearSolutionsWrongFalsely : Prop := fnExactLinearSolutionsRow.holds Try.pinned (OpenSpec.ofChange fnExactLinearSolutionsWrong)

/-- 'laws.FnExactRestoreSet': WHATEVER THE INPUT: true; the input reads as it did. -/
def fnExactRestoreSetSpec : ChangeSpec := { name := "fnExactRestoreSet", fn := fun _ => fun
  | [d1, d2, d3, d4] => { results := [.lit (.bool true)], args := [d1, d2, d3, d4] }
  | _ => none }
def fnExactRestoreSetRow : OpenClaim := { program := "ytijifabdaplmfaa", sum := "04b8cb957cfa676001be1768d3186f3199302cbfb01b4de347f4354f13b398b9", func := "loop.example/g01078/laws.FnExactRestoreSet", spec := "fnExactRestoreSet", inPlace := ["internal/reflectlite.ValueOf", "internal/reflectlite.Swapper", "(internal/reflectlite.Value).Len"], unfollowed := true, recurses := true, plainKeys := false, apart := false }
def FnExactRestoreSetSaid : Prop := fnExactRestoreSetRow.holds Try.pinned (OpenSpec.ofChange fnExactRestoreSetSpec)

/-- ITS FALSE NEIGHBOUR: 'it returns false'. Refute it at one input. -/
def fnExactRestoreSetWrong : ChangeSpec := { name := "fnExactRestoreSet", fn := fun _ => fun
  | [d1, d2, d3, d4] => { results := [.lit (.bool false)], args := [d1, d2, d3, d4] }
  | _ => none }
def FnExactRestoreSetWrongFalsely : Prop := fnExactRestoreSetRow.holds Try.pinned (OpenSpec.ofChange fnExactRestoreSetWrong)

/- THE SECOND FORM. 'bulk': how many values and letters a reading holds, each counted each time it is reached (what is shared counts as often as it is met; a slice's spare places count too). A statement '..UptoSaid' is the law's where the arguments, and the package variables that the reading takes, are together of bulk at most 1048576: NARROWER than '..Said'. Prove '..Said' where nothing that the law and all that it calls make is longer than what came in: it says more and counts as full. Else prove '..UptoSaid'. A law counts once. -/
mutual
def uptoBulk {H : Type} : DataW H → Nat
  | .lit (.string bytes) => bytes.length + 1
  | .lit _ => 1
  | .nil => 1
  | .ptr d => uptoBulk d + 1
  | .slice elems spare => uptoBulkAll elems + uptoBulkAll spare + 1
  | .agg parts => uptoBulkAll parts + 1
  | .iface _ d => uptoBulk d + 1
  | .map entries => uptoBulkEntries entries + 1
  | .held _ => 1
def uptoBulkAll {H : Type} : List (DataW H) → Nat
  | [] => 0
  | d :: r => uptoBulk d + uptoBulkAll r
def uptoBulkEntries {H : Type} : List (Lit × DataW H) → Nat
  | [] => 0
  | x :: r => uptoBulkEntry x + uptoBulkEntries r
def uptoBulkEntry {H : Type} : Lit × DataW H → Nat
  | (.string bytes, d) => bytes.length + uptoBulk d + 1
  | (_, d) => uptoBulk d + 1
 end
def uptoSmall : (H : Type) → List (DataW H) → Bool := fun _ ds => decide (uptoBulkAll ds ≤ 1048576)
def OpenSpec.upto (s : _root_.Go.ChangeSpec) : _root_.Go.OpenSpec := { _root_.Go.OpenSpec.ofChange s with cond := some uptoSmall }

/-- 'laws.FnExactForksOf', WHERE WHAT IT READS IS OF BULK AT MOST 1048576: true; the input reads as it did. -/
def fnExactForksOfUptoRow : OpenClaim := { program := "ytijifabdaplmfaa", sum := "04b8cb957cfa676001be1768d3186f3199302cbfb01b4de347f4354f13b398b9", func := "loop.example/g01078/laws.FnExactForksOf", spec := "fnExactForksOf", inPlace := ["internal/reflectlite.ValueOf", "internal/reflectlite.Swapper", "(internal/reflectlite.Value).Len"], unfollowed := true, recurses := true, plainKeys := false, apart := false, narrowed := true }
def FnExactForksOfUptoSaid : Prop := fnExactForksOfUptoRow.holds Try.pinned (OpenSpec.upto fnExactForksOfSpec)

/-- 'laws.FnExactWitnessesOf', WHERE WHAT IT READS IS OF BULK AT MOST 1048576: true; the input reads as it did. -/
def fnExactWitnessesOfUptoRow : OpenClaim := { program := "ytijifabdaplmfaa", sum := "04b8cb957cfa676001be1768d3186f3199302cbfb01b4de347f4354f13b398b9", func := "loop.example/g01078/laws.FnExactWitnessesOf", spec := "fnExactWitnessesOf", inPlace := ["internal/reflectlite.ValueOf", "internal/reflectlite.Swapper", "(internal/reflectlite.Value).Len"], unfollowed := true, recurses := true, plainKeys := false, apart := false, narrowed := true }
def FnExactWitnessesOfUptoSaid : Prop := fnExactWitnessesOfUptoRow.holds Try.pinned (OpenSpec.upto fnExactWitnessesOfSpec)

/-- 'laws.FnExactLinearSolutions', WHERE WHAT IT READS IS OF BULK AT MOST 1048576: true; the input reads as it did. -/
def fnExactLinearSolutionsUptoRow : OpenClaim := { program := "ytijifabdaplmfaa", sum := "04b8cb957cfa676001be1768d3186f3199302cbfb01b4de347f4354f13b398b9", func := "loop.example/g01078/laws.FnExactLinearSolutions", spec := "fnExactLinearSolutions", inPlace := ["internal/reflectlite.ValueOf", "internal/reflectlite.Swapper", "(internal/reflectlite.Value).Len"], unfollowed := true, recurses := true, plainKeys := false, apart := false, narrowed := true }
def FnExactLinearSolutionsUptoSaid : Prop := fnExactLinearSolutionsUptoRow.holds Try.pinned (OpenSpec.upto fnExactLinearSolutionsSpec)

/-- 'laws.FnExactRestoreSet', WHERE WHAT IT READS IS OF BULK AT MOST 1048576: true; the input reads as it did. -/
def fnExactRestoreSetUptoRow : OpenClaim := { program := "ytijifabdaplmfaa", sum := "04b8cb957cfa676001be1768d3186f3199302cbfb01b4de347f4354f13b398b9", func := "loop.example/g01078/laws.FnExactRestoreSet", spec := "fnExactRestoreSet", inPlace := ["internal/reflectlite.ValueOf", "internal/reflectlite.Swapper", "(internal/reflectlite.Value).Len"], unfollowed := true, recurses := true, plainKeys := false, apart := false, narrowed := true }
def FnExactRestoreSetUptoSaid : Prop := fnExactRestoreSetUptoRow.holds Try.pinned (OpenSpec.upto fnExactRestoreSetSpec)

end Rows
end Go.Proofs.Ytijifabdaplmfaa
