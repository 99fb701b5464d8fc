/-
  No cell of these rows narrows 'for every input' (looked for: loops, veiled, ifaces, maps, wideKeys, modest, calm, conditions, laid).
  DERIVED. THE GIVEN ROWS OF THIS SEAT. 6 by the template 'for every input the law returns true; each argument reads behind the call as it read before'; 0 by the template 'total and deterministic' (their statements: YtgalokklfmmceaaTotals.lean).
  GIVEN WITH THE SEED: the statements are not yours to turn. If you find one false, say at which input.
  Laid BY PROGRAM, IN A SANDBOX (cutbox-rows.mjs): the forced cells as the released guide's own fill.sh prints them over the translation 40f6bc97afe06c0b… (all of the seat's roots in one cut). By AI agents, Wed Nov 11 2026. No macro, syntax, notation, axiom, sorry.
-/
import Derived.Test.YtgalokklfmmceaaChecked
import GoSem.Claim
import GoSem.ClaimJoined
import GoSem.ClaimMapViews
import Derived.JoinedTies
import Derived.KernelRfl
namespace Go.Proofs.Ytgalokklfmmceaa
/- THE CELL 'sum', in the pinned program and in every row, IS THE sha256 OF THE DUMP (.gsa) THAT YtgalokklfmmceaaProg.lean LOADS. Nothing in Lean hashes anything: it is a label: what it is worth is what the hold of that sum in a sandbox is worth. -/
noncomputable def Try.pinned : Pinned := { name := "ytgalokklfmmceaa", sum := "40f6bc97afe06c0b3c5f668e39eb9d6681939fee1acccea7a82032a1c2105c63", checked := Try.checked }
namespace Rows
def none {H : Type} : Left H := { results := [], args := [] }

/-- 'laws.FnExactAffineOp': WHATEVER THE INPUT: true; the input reads as it did. -/
def fnExactAffineOpSpec : ChangeSpec := { name := "fnExactAffineOp", fn := fun _ => fun
  | [d] => { results := [.lit (.bool true)], args := [d] }
  | _ => none }
def fnExactAffineOpRow : OpenClaim := { program := "ytgalokklfmmceaa", sum := "40f6bc97afe06c0b3c5f668e39eb9d6681939fee1acccea7a82032a1c2105c63", func := "loop.example/g01078/laws.FnExactAffineOp", spec := "fnExactAffineOp", unfollowed := true, recurses := true, apart := false }
def FnExactAffineOpSaid : Prop := fnExactAffineOpRow.holds Try.pinned (OpenSpec.ofChange fnExactAffineOpSpec)

/-- ITS FALSE NEIGHBOUR: 'it returns false'. Refute it at one input. -/
def fnExactAffineOpWrong : ChangeSpec := { name := "fnExactAffineOp", fn := fun _ => fun
  | [d] => { results := [.lit (.bool false)], args := [d] }
  | _ => none }
def FnExactAffineOpWrongFalsely : Prop := fnExactAffineOpRow.holds Try.pinned (OpenSpec.ofChange fnExactAffineOpWrong)

/-- 'laws.FnExactFirstClass': WHATEVER THE INPUT: true; the input reads as it did. -/
def fnExactFirstClassSpec : ChangeSpec := { name := "fnExactFirstClass", fn := fun _ => fun
  | [d] => { results := [.lit (.bool true)], args := [d] }
  | _ => none }
def fnExactFirstClassRow : OpenClaim := { program := "ytgalokklfmmceaa", sum := "40f6bc97afe06c0b3c5f668e39eb9d6681939fee1acccea7a82032a1c2105c63", func := "loop.example/g01078/laws.FnExactFirstClass", spec := "fnExactFirstClass", unfollowed := true, recurses := true, apart := false }
def FnExactFirstClassSaid : Prop := fnExactFirstClassRow.holds Try.pinned (OpenSpec.ofChange fnExactFirstClassSpec)

/-- ITS FALSE NEIGHBOUR: 'it returns false'. Refute it at one input. -/
def fnExactFirstClassWrong : ChangeSpec := { name := "fnExactFirstClass", fn := fun _ => fun
  | [d] => { results := [.lit (.bool false)], args := [d] }
  | _ => none }
def FnExactFirstClassWrongFalsely : Prop := fnExactFirstClassRow.holds Try.pinned (OpenSpec.ofChange fnExactFirstClassWrong)

/-- 'laws.FnExactBooleanClasses': WHATEVER THE INPUT: true; the input reads as it did. -/
def fnExactBooleanClassesSpec : ChangeSpec := { name := "fnExactBooleanClasses", fn := fun _ => fun
  | [d] => { results := [.lit (.bool true)], args := [d] }
  | _ => none }
def fnExactBooleanClassesRow : OpenClaim := { program := "ytgalokklfmmceaa", sum := "40f6bc97afe06c0b3c5f668e39eb9d6681939fee1acccea7a82032a1c2105c63", func := "loop.example/g01078/laws.FnExactBooleanClasses", spec := "fnExactBooleanClasses", unfollowed := true, recurses := true, apart := false }
def FnExactBooleanClassesSaid : Prop := fnExactBooleanClassesRow.holds Try.pinned (OpenSpec.ofChange fnExactBooleanClassesSpec)

/-- ITS FALSE NEIGHBOUR: 'it returns false'. Refute it at one input. -/
def fnExactBooleanClassesWrong : ChangeSpec := { name := "fnExactBooleanClasses", fn := fun _ => fun
  | [d] => { results := [.lit (.bool false)], args := [d] }
  | _ => none }
def FnExactBooleanClassesWrongFalsely : Prop := fnExactBooleanClassesRow.holds Try.pinned (OpenSpec.ofChange fnExactBooleanClassesWrong)

/-- 'laws.FnExactLowerAssignment': WHATEVER THE INPUT: true; the input reads as it did. -/
def fnExactLowerAssignmentSpec : ChangeSpec := { name := "fnExactLowerAssignment", fn := fun _ => fun
  | [d] => { results := [.lit (.bool true)], args := [d] }
  | _ => none }
def fnExactLowerAssignmentRow : OpenClaim := { program := "ytgalokklfmmceaa", sum := "40f6bc97afe06c0b3c5f668e39eb9d6681939fee1acccea7a82032a1c2105c63", func := "loop.example/g01078/laws.FnExactLowerAssignment", spec := "fnExactLowerAssignment", unfollowed := true, recurses := true, apart := false }
def FnExactLowerAssignmentSaid : Prop := fnExactLowerAssignmentRow.holds Try.pinned (OpenSpec.ofChange fnExactLowerAssignmentSpec)

/-- ITS FALSE NEIGHBOUR: 'it returns false'. Refute it at one input. -/
def fnExactLowerAssignmentWrong : ChangeSpec := { name := "fnExactLowerAssignment", fn := fun _ => fun
  | [d] => { results := [.lit (.bool false)], args := [d] }
  | _ => none }
def FnExactLowerAssignmentWrongFalsely : Prop := fnExactLowerAssignmentRow.holds Try.pinned (OpenSpec.ofChange fnExactLowerAssignmentWrong)

/-- 'laws.FnExactRaiseAssignment': WHATEVER THE INPUT: true; the input reads as it did. -/
def fnExactRaiseAssignmentSpec : ChangeSpec := { name := "fnExactRaiseAssignment", fn := fun _ => fun
  | [d] => { results := [.lit (.bool true)], args := [d] }
  | _ => none }
def fnExactRaiseAssignmentRow : OpenClaim := { program := "ytgalokklfmmceaa", sum := "40f6bc97afe06c0b3c5f668e39eb9d6681939fee1acccea7a82032a1c2105c63", func := "loop.example/g01078/laws.FnExactRaiseAssignment", spec := "fnExactRaiseAssignment", unfollowed := true, recurses := true, apart := false }
def FnExactRaiseAssignmentSaid : Prop := fnExactRaiseAssignmentRow.holds Try.pinned (OpenSpec.ofChange fnExactRaiseAssignmentSpec)

/-- ITS FALSE NEIGHBOUR: 'it returns false'. Refute it at one input. -/
def fnExactRaiseAssignmentWrong : ChangeSpec := { name := "fnExactRaiseAssignment", fn := fun _ => fun
  | [d] => { results := [.lit (.bool false)], args := [d] }
  | _ => none }
def FnExactRaiseAssignmentWrongFalsely : Prop := fnExactRaiseAssignmentRow.holds Try.pinned (OpenSpec.ofChange fnExactRaiseAssignmentWrong)

/-- 'laws.FnExactRaiseSteps': WHATEVER THE INPUT: true; the input reads as it did. -/
def fnExactRaiseStepsSpec : ChangeSpec := { name := "fnExactRaiseSteps", fn := fun _ => fun
  | [d] => { results := [.lit (.bool true)], args := [d] }
  | _ => none }
def fnExactRaiseStepsRow : OpenClaim := { program := "ytgalokklfmmceaa", sum := "40f6bc97afe06c0b3c5f668e39eb9d6681939fee1acccea7a82032a1c2105c63", func := "loop.example/g01078/laws.FnExactRaiseSteps", spec := "fnExactRaiseSteps", unfollowed := true, recurses := true, apart := false }
def FnExactRaiseStepsSaid : Prop := fnExactRaiseStepsRow.holds Try.pinned (OpenSpec.ofChange fnExactRaiseStepsSpec)

/-- ITS FALSE NEIGHBOUR: 'it returns false'. Refute it at one input. -/
def fnExactRaiseStepsWrong : ChangeSpec := { name := "fnExactRaiseSteps", fn := fun _ => fun
  | [d] => { results := [.lit (.bool false)], args := [d] }
  | _ => none }
def FnExactRaiseStepsWrongFalsely : Prop := fnExactRaiseStepsRow.holds Try.pinned (OpenSpec.ofChange fnExactRaiseStepsWrong)

/- THE SECOND FORM. 'bulk': how many values and letters a reading holds, each counted each time it is reached (what is shared counts as often as it is met; a slice's spare places count too). A statement '..UptoSaid' is the law's where the arguments, and the package variables that the reading takes, are together of bulk at most 1048576: NARROWER than '..Said'. Prove '..Said' where nothing that the law and all that it calls make is longer than what came in: it says more and counts as full. Else prove '..UptoSaid'. A law counts once. -/
mutual
def uptoBulk {H : Type} : DataW H → Nat
  | .lit (.string bytes) => bytes.length + 1
  | .lit _ => 1
  | .nil => 1
  | .ptr d => uptoBulk d + 1
  | .slice elems spare => uptoBulkAll elems + uptoBulkAll spare + 1
  | .agg parts => uptoBulkAll parts + 1
  | .iface _ d => uptoBulk d + 1
  | .map entries => uptoBulkEntries entries + 1
  | .held _ => 1
def uptoBulkAll {H : Type} : List (DataW H) → Nat
  | [] => 0
  | d :: r => uptoBulk d + uptoBulkAll r
def uptoBulkEntries {H : Type} : List (Lit × DataW H) → Nat
  | [] => 0
  | x :: r => uptoBulkEntry x + uptoBulkEntries r
def uptoBulkEntry {H : Type} : Lit × DataW H → Nat
  | (.string bytes, d) => bytes.length + uptoBulk d + 1
  | (_, d) => uptoBulk d + 1
 end
def uptoSmall : (H : Type) → List (DataW H) → Bool := fun _ ds => decide (uptoBulkAll ds ≤ 1048576)
def OpenSpec.upto (s : _root_.Go.ChangeSpec) : _root_.Go.OpenSpec := { _root_.Go.OpenSpec.ofChange s with cond := some uptoSmall }

/-- 'laws.FnExactAffineOp', WHERE WHAT IT READS IS OF BULK AT MOST 1048576: true; the input reads as it did. -/
def fnExactAffineOpUptoRow : OpenClaim := { program := "ytgalokklfmmceaa", sum := "40f6bc97afe06c0b3c5f668e39eb9d6681939fee1acccea7a82032a1c2105c63", func := "loop.example/g01078/laws.FnExactAffineOp", spec := "fnExactAffineOp", unfollowed := true, recurses := true, apart := false, narrowed := true }
def FnExactAffineOpUptoSaid : Prop := fnExactAffineOpUptoRow.holds Try.pinned (OpenSpec.upto fnExactAffineOpSpec)

/-- 'laws.FnExactFirstClass', WHERE WHAT IT READS IS OF BULK AT MOST 1048576: true; the input reads as it did. -/
def fnExactFirstClassUptoRow : OpenClaim := { program := "ytgalokklfmmceaa", sum := "40f6bc97afe06c0b3c5f668e39eb9d6681939fee1acccea7a82032a1c2105c63", func := "loop.example/g01078/laws.FnExactFirstClass", spec := "fnExactFirstClass", unfollowed := true, recurses := true, apart := false, narrowed := true }
def FnExactFirstClassUptoSaid : Prop := fnExactFirstClassUptoRow.holds Try.pinned (OpenSpec.upto fnExactFirstClassSpec)

/-- 'laws.FnExactBooleanClasses', WHERE WHAT IT READS IS OF BULK AT MOST 1048576: true; the input reads as it did. -/
def fnExactBooleanClassesUptoRow : OpenClaim := { program := "ytgalokklfmmceaa", sum := "40f6bc97afe06c0b3c5f668e39eb9d6681939fee1acccea7a82032a1c2105c63", func := "loop.example/g01078/laws.FnExactBooleanClasses", spec := "fnExactBooleanClasses", unfollowed := true, recurses := true, apart := false, narrowed := true }
def FnExactBooleanClassesUptoSaid : Prop := fnExactBooleanClassesUptoRow.holds Try.pinned (OpenSpec.upto fnExactBooleanClassesSpec)

/-- 'laws.FnExactLowerAssignment', WHERE WHAT IT READS IS OF BULK AT MOST 1048576: true; the input reads as it did. -/
def fnExactLowerAssignmentUptoRow : OpenClaim := { program := "ytgalokklfmmceaa", sum := "40f6bc97afe06c0b3c5f668e39eb9d6681939fee1acccea7a82032a1c2105c63", func := "loop.example/g01078/laws.FnExactLowerAssignment", spec := "fnExactLowerAssignment", unfollowed := true, recurses := true, apart := false, narrowed := true }
def FnExactLowerAssignmentUptoSaid : Prop := fnExactLowerAssignmentUptoRow.holds Try.pinned (OpenSpec.upto fnExactLowerAssignmentSpec)

/-- 'laws.FnExactRaiseAssignment', WHERE WHAT IT READS IS OF BULK AT MOST 1048576: true; the input reads as it did. -/
def fnExactRaiseAssignmentUptoRow : OpenClaim := { program := "ytgalokklfmmceaa", sum := "40f6bc97afe06c0b3c5f668e39eb9d6681939fee1acccea7a82032a1c2105c63", func := "loop.example/g01078/laws.FnExactRaiseAssignment", spec := "fnExactRaiseAssignment", unfollowed := true, recurses := true, apart := false, narrowed := true }
def FnExactRaiseAssignmentUptoSaid : Prop := fnExactRaiseAssignmentUptoRow.holds Try.pinned (OpenSpec.upto fnExactRaiseAssignmentSpec)

/-- 'laws.FnExactRaiseSteps', WHERE WHAT IT READS IS OF BULK AT MOST 1048576: true; the input reads as it did. -/
def fnExactRaiseStepsUptoRow : OpenClaim := { program := "ytgalokklfmmceaa", sum := "40f6bc97afe06c0b3c5f668e39eb9d6681939fee1acccea7a82032a1c2105c63", func := "loop.example/g01078/laws.FnExactRaiseSteps", spec := "fnExactRaiseSteps", unfollowed := true, recurses := true, apart := false, narrowed := true }
def FnExactRaiseStepsUptoSaid : Prop := fnExactRaiseStepsUptoRow.holds Try.pinned (OpenSpec.upto fnExactRaiseStepsSpec)

end Rows
end Go.Proofs.Ytgalokklfmmceaa
