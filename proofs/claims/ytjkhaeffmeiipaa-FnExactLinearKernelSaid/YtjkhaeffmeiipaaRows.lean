/-
  No cell of these rows narrows 'for every input' (looked for: loops, veiled, ifaces, maps, wideKeys, modest, calm, conditions, laid).
  DERIVED. THE GIVEN ROWS OF THIS SEAT. 6 by the template 'for every input the law returns true; each argument reads behind the call as it read before'; 0 by the template 'total and deterministic' (their statements: YtjkhaeffmeiipaaTotals.lean).
  GIVEN WITH THE SEED: the statements are not yours to turn. If you find one false, say at which input.
  Laid BY PROGRAM, IN A SANDBOX (cutbox-rows.mjs): the forced cells as the released guide's own fill.sh prints them over the translation 9673cf298abba607… (all of the seat's roots in one cut). By AI agents, Wed Nov 11 2026. No macro, syntax, notation, axiom, sorry.
-/
import Derived.Test.YtjkhaeffmeiipaaChecked
import GoSem.Claim
import GoSem.ClaimJoined
import GoSem.ClaimMapViews
import Derived.JoinedTies
import Derived.KernelRfl
namespace Go.Proofs.Ytjkhaeffmeiipaa
/- THE CELL 'sum', in the pinned program and in every row, IS THE sha256 OF THE DUMP (.gsa) THAT YtjkhaeffmeiipaaProg.lean LOADS. Nothing in Lean hashes anything: it is a label: what it is worth is what the hold of that sum in a sandbox is worth. -/
noncomputable def Try.pinned : Pinned := { name := "ytjkhaeffmeiipaa", sum := "9673cf298abba607c44bd0c784236014bd39a6afe97556fe295d12f62ffa6658", checked := Try.checked }
namespace Rows
def none {H : Type} : Left H := { results := [], args := [] }

/-- 'laws.FnExactCountLinear': WHATEVER THE INPUT: true; the input reads as it did. -/
def fnExactCountLinearSpec : ChangeSpec := { name := "fnExactCountLinear", fn := fun _ => fun
  | [d] => { results := [.lit (.bool true)], args := [d] }
  | _ => none }
def fnExactCountLinearRow : OpenClaim := { program := "ytjkhaeffmeiipaa", sum := "9673cf298abba607c44bd0c784236014bd39a6afe97556fe295d12f62ffa6658", func := "loop.example/g01078/laws.FnExactCountLinear", spec := "fnExactCountLinear", apart := false }
def FnExactCountLinearSaid : Prop := fnExactCountLinearRow.holds Try.pinned (OpenSpec.ofChange fnExactCountLinearSpec)

/-- ITS FALSE NEIGHBOUR: 'it returns false'. Refute it at one input. -/
def fnExactCountLinearWrong : ChangeSpec := { name := "fnExactCountLinear", fn := fun _ => fun
  | [d] => { results := [.lit (.bool false)], args := [d] }
  | _ => none }
def FnExactCountLinearWrongFalsely : Prop := fnExactCountLinearRow.holds Try.pinned (OpenSpec.ofChange fnExactCountLinearWrong)

/-- 'laws.FnExactFreeVars': WHATEVER THE INPUT: true; the input reads as it did. -/
def fnExactFreeVarsSpec : ChangeSpec := { name := "fnExactFreeVars", fn := fun _ => fun
  | [d] => { results := [.lit (.bool true)], args := [d] }
  | _ => none }
def fnExactFreeVarsRow : OpenClaim := { program := "ytjkhaeffmeiipaa", sum := "9673cf298abba607c44bd0c784236014bd39a6afe97556fe295d12f62ffa6658", func := "loop.example/g01078/laws.FnExactFreeVars", spec := "fnExactFreeVars", apart := false }
def FnExactFreeVarsSaid : Prop := fnExactFreeVarsRow.holds Try.pinned (OpenSpec.ofChange fnExactFreeVarsSpec)

/-- ITS FALSE NEIGHBOUR: 'it returns false'. Refute it at one input. -/
def fnExactFreeVarsWrong : ChangeSpec := { name := "fnExactFreeVars", fn := fun _ => fun
  | [d] => { results := [.lit (.bool false)], args := [d] }
  | _ => none }
def FnExactFreeVarsWrongFalsely : Prop := fnExactFreeVarsRow.holds Try.pinned (OpenSpec.ofChange fnExactFreeVarsWrong)

/-- 'laws.FnExactEliminate': WHATEVER THE INPUT: true; the input reads as it did. -/
def fnExactEliminateSpec : ChangeSpec := { name := "fnExactEliminate", fn := fun _ => fun
  | [d] => { results := [.lit (.bool true)], args := [d] }
  | _ => none }
def fnExactEliminateRow : OpenClaim := { program := "ytjkhaeffmeiipaa", sum := "9673cf298abba607c44bd0c784236014bd39a6afe97556fe295d12f62ffa6658", func := "loop.example/g01078/laws.FnExactEliminate", spec := "fnExactEliminate", apart := false }
def FnExactEliminateSaid : Prop := fnExactEliminateRow.holds Try.pinned (OpenSpec.ofChange fnExactEliminateSpec)

/-- ITS FALSE NEIGHBOUR: 'it returns false'. Refute it at one input. -/
def fnExactEliminateWrong : ChangeSpec := { name := "fnExactEliminate", fn := fun _ => fun
  | [d] => { results := [.lit (.bool false)], args := [d] }
  | _ => none }
def FnExactEliminateWrongFalsely : Prop := fnExactEliminateRow.holds Try.pinned (OpenSpec.ofChange fnExactEliminateWrong)

/-- 'laws.FnExactSolveLinear': WHATEVER THE INPUT: true; the input reads as it did. -/
def fnExactSolveLinearSpec : ChangeSpec := { name := "fnExactSolveLinear", fn := fun _ => fun
  | [d] => { results := [.lit (.bool true)], args := [d] }
  | _ => none }
def fnExactSolveLinearRow : OpenClaim := { program := "ytjkhaeffmeiipaa", sum := "9673cf298abba607c44bd0c784236014bd39a6afe97556fe295d12f62ffa6658", func := "loop.example/g01078/laws.FnExactSolveLinear", spec := "fnExactSolveLinear", apart := false }
def FnExactSolveLinearSaid : Prop := fnExactSolveLinearRow.holds Try.pinned (OpenSpec.ofChange fnExactSolveLinearSpec)

/-- ITS FALSE NEIGHBOUR: 'it returns false'. Refute it at one input. -/
def fnExactSolveLinearWrong : ChangeSpec := { name := "fnExactSolveLinear", fn := fun _ => fun
  | [d] => { results := [.lit (.bool false)], args := [d] }
  | _ => none }
def FnExactSolveLinearWrongFalsely : Prop := fnExactSolveLinearRow.holds Try.pinned (OpenSpec.ofChange fnExactSolveLinearWrong)

/-- 'laws.FnExactLinearKernel': WHATEVER THE INPUT: true; the input reads as it did. -/
def fnExactLinearKernelSpec : ChangeSpec := { name := "fnExactLinearKernel", fn := fun _ => fun
  | [d] => { results := [.lit (.bool true)], args := [d] }
  | _ => none }
def fnExactLinearKernelRow : OpenClaim := { program := "ytjkhaeffmeiipaa", sum := "9673cf298abba607c44bd0c784236014bd39a6afe97556fe295d12f62ffa6658", func := "loop.example/g01078/laws.FnExactLinearKernel", spec := "fnExactLinearKernel", apart := false }
def FnExactLinearKernelSaid : Prop := fnExactLinearKernelRow.holds Try.pinned (OpenSpec.ofChange fnExactLinearKernelSpec)

/-- ITS FALSE NEIGHBOUR: 'it returns false'. Refute it at one input. -/
def fnExactLinearKernelWrong : ChangeSpec := { name := "fnExactLinearKernel", fn := fun _ => fun
  | [d] => { results := [.lit (.bool false)], args := [d] }
  | _ => none }
def FnExactLinearKernelWrongFalsely : Prop := fnExactLinearKernelRow.holds Try.pinned (OpenSpec.ofChange fnExactLinearKernelWrong)

/-- 'laws.FnExactRefuteLinear': WHATEVER THE INPUT: true; the input reads as it did. -/
def fnExactRefuteLinearSpec : ChangeSpec := { name := "fnExactRefuteLinear", fn := fun _ => fun
  | [d] => { results := [.lit (.bool true)], args := [d] }
  | _ => none }
def fnExactRefuteLinearRow : OpenClaim := { program := "ytjkhaeffmeiipaa", sum := "9673cf298abba607c44bd0c784236014bd39a6afe97556fe295d12f62ffa6658", func := "loop.example/g01078/laws.FnExactRefuteLinear", spec := "fnExactRefuteLinear", apart := false }
def FnExactRefuteLinearSaid : Prop := fnExactRefuteLinearRow.holds Try.pinned (OpenSpec.ofChange fnExactRefuteLinearSpec)

/-- ITS FALSE NEIGHBOUR: 'it returns false'. Refute it at one input. -/
def fnExactRefuteLinearWrong : ChangeSpec := { name := "fnExactRefuteLinear", fn := fun _ => fun
  | [d] => { results := [.lit (.bool false)], args := [d] }
  | _ => none }
def FnExactRefuteLinearWrongFalsely : Prop := fnExactRefuteLinearRow.holds Try.pinned (OpenSpec.ofChange fnExactRefuteLinearWrong)

/- THE SECOND FORM. 'bulk': how many values and letters a reading holds, each counted each time it is reached (what is shared counts as often as it is met; a slice's spare places count too). A statement '..UptoSaid' is the law's where the arguments, and the package variables that the reading takes, are together of bulk at most 1048576: NARROWER than '..Said'. Prove '..Said' where nothing that the law and all that it calls make is longer than what came in: it says more and counts as full. Else prove '..UptoSaid'. A law counts once. -/
mutual
def uptoBulk {H : Type} : DataW H → Nat
  | .lit (.string bytes) => bytes.length + 1
  | .lit _ => 1
  | .nil => 1
  | .ptr d => uptoBulk d + 1
  | .slice elems spare => uptoBulkAll elems + uptoBulkAll spare + 1
  | .agg parts => uptoBulkAll parts + 1
  | .iface _ d => uptoBulk d + 1
  | .map entries => uptoBulkEntries entries + 1
  | .held _ => 1
def uptoBulkAll {H : Type} : List (DataW H) → Nat
  | [] => 0
  | d :: r => uptoBulk d + uptoBulkAll r
def uptoBulkEntries {H : Type} : List (Lit × DataW H) → Nat
  | [] => 0
  | x :: r => uptoBulkEntry x + uptoBulkEntries r
def uptoBulkEntry {H : Type} : Lit × DataW H → Nat
  | (.string bytes, d) => bytes.length + uptoBulk d + 1
  | (_, d) => uptoBulk d + 1
 end
def uptoSmall : (H : Type) → List (DataW H) → Bool := fun _ ds => decide (uptoBulkAll ds ≤ 1048576)
def OpenSpec.upto (s : _root_.Go.ChangeSpec) : _root_.Go.OpenSpec := { _root_.Go.OpenSpec.ofChange s with cond := some uptoSmall }

/-- 'laws.FnExactCountLinear', WHERE WHAT IT READS IS OF BULK AT MOST 1048576: true; the input reads as it did. -/
def fnExactCountLinearUptoRow : OpenClaim := { program := "ytjkhaeffmeiipaa", sum := "9673cf298abba607c44bd0c784236014bd39a6afe97556fe295d12f62ffa6658", func := "loop.example/g01078/laws.FnExactCountLinear", spec := "fnExactCountLinear", apart := false, narrowed := true }
def FnExactCountLinearUptoSaid : Prop := fnExactCountLinearUptoRow.holds Try.pinned (OpenSpec.upto fnExactCountLinearSpec)

/-- 'laws.FnExactFreeVars', WHERE WHAT IT READS IS OF BULK AT MOST 1048576: true; the input reads as it did. -/
def fnExactFreeVarsUptoRow : OpenClaim := { program := "ytjkhaeffmeiipaa", sum := "9673cf298abba607c44bd0c784236014bd39a6afe97556fe295d12f62ffa6658", func := "loop.example/g01078/laws.FnExactFreeVars", spec := "fnExactFreeVars", apart := false, narrowed := true }
def FnExactFreeVarsUptoSaid : Prop := fnExactFreeVarsUptoRow.holds Try.pinned (OpenSpec.upto fnExactFreeVarsSpec)

/-- 'laws.FnExactEliminate', WHERE WHAT IT READS IS OF BULK AT MOST 1048576: true; the input reads as it did. -/
def fnExactEliminateUptoRow : OpenClaim := { program := "ytjkhaeffmeiipaa", sum := "9673cf298abba607c44bd0c784236014bd39a6afe97556fe295d12f62ffa6658", func := "loop.example/g01078/laws.FnExactEliminate", spec := "fnExactEliminate", apart := false, narrowed := true }
def FnExactEliminateUptoSaid : Prop := fnExactEliminateUptoRow.holds Try.pinned (OpenSpec.upto fnExactEliminateSpec)

/-- 'laws.FnExactSolveLinear', WHERE WHAT IT READS IS OF BULK AT MOST 1048576: true; the input reads as it did. -/
def fnExactSolveLinearUptoRow : OpenClaim := { program := "ytjkhaeffmeiipaa", sum := "9673cf298abba607c44bd0c784236014bd39a6afe97556fe295d12f62ffa6658", func := "loop.example/g01078/laws.FnExactSolveLinear", spec := "fnExactSolveLinear", apart := false, narrowed := true }
def FnExactSolveLinearUptoSaid : Prop := fnExactSolveLinearUptoRow.holds Try.pinned (OpenSpec.upto fnExactSolveLinearSpec)

/-- 'laws.FnExactLinearKernel', WHERE WHAT IT READS IS OF BULK AT MOST 1048576: true; the input reads as it did. -/
def fnExactLinearKernelUptoRow : OpenClaim := { program := "ytjkhaeffmeiipaa", sum := "9673cf298abba607c44bd0c784236014bd39a6afe97556fe295d12f62ffa6658", func := "loop.example/g01078/laws.FnExactLinearKernel", spec := "fnExactLinearKernel", apart := false, narrowed := true }
def FnExactLinearKernelUptoSaid : Prop := fnExactLinearKernelUptoRow.holds Try.pinned (OpenSpec.upto fnExactLinearKernelSpec)

/-- 'laws.FnExactRefuteLinear', WHERE WHAT IT READS IS OF BULK AT MOST 1048576: true; the input reads as it did. -/
def fnExactRefuteLinearUptoRow : OpenClaim := { program := "ytjkhaeffmeiipaa", sum := "9673cf298abba607c44bd0c784236014bd39a6afe97556fe295d12f62ffa6658", func := "loop.example/g01078/laws.FnExactRefuteLinear", spec := "fnExactRefuteLinear", apart := false, narrowed := true }
def FnExactRefuteLinearUptoSaid : Prop := fnExactRefuteLinearUptoRow.holds Try.pinned (OpenSpec.upto fnExactRefuteLinearSpec)

end Rows
end Go.Proofs.Ytjkhaeffmeiipaa
