/-
  No cell of these rows narrows 'for every input' (looked for: loops, veiled, ifaces, maps, wideKeys, modest, calm, conditions, laid).
  DERIVED. THE GIVEN ROWS OF THIS SEAT. 3 by the template 'for every input the law returns true; each argument reads behind the call as it read before'; 0 by the template 'total and deterministic' (their statements: YthakgchekjnfcaaTotals.lean).
  GIVEN WITH THE SEED: the statements are not yours to turn. If you find one false, say at which input.
  Laid BY PROGRAM, IN A SANDBOX (cutbox-rows.mjs): the forced cells as the released guide's own fill.sh prints them over the translation 72da243a52a6707b… (all of the seat's roots in one cut). By AI agents, Wed Nov 11 2026. No macro, syntax, notation, axiom, sorry.
-/
import Derived.Test.YthakgchekjnfcaaChecked
import GoSem.Claim
import GoSem.ClaimJoined
import GoSem.ClaimMapViews
import Derived.JoinedTies
import Derived.KernelRfl
namespace Go.Proofs.Ythakgchekjnfcaa
/- THE CELL 'sum', in the pinned program and in every row, IS THE sha256 OF THE DUMP (.gsa) THAT YthakgchekjnfcaaProg.lean LOADS. Nothing in Lean hashes anything: it is a label: what it is worth is what the hold of that sum in a sandbox is worth. -/
noncomputable def Try.pinned : Pinned := { name := "ythakgchekjnfcaa", sum := "72da243a52a6707b5ea079aec68f3f2f32542d1d1ad5fea6f4667b8a6b5fb980", checked := Try.checked }
namespace Rows
def none {H : Type} : Left H := { results := [], args := [] }

/-- 'laws.FnExactPairsRefute': WHATEVER THE INPUT: true; the input reads as it did. -/
def fnExactPairsRefuteSpec : ChangeSpec := { name := "fnExactPairsRefute", fn := fun _ => fun
  | [d] => { results := [.lit (.bool true)], args := [d] }
  | _ => none }
def fnExactPairsRefuteRow : OpenClaim := { program := "ythakgchekjnfcaa", sum := "72da243a52a6707b5ea079aec68f3f2f32542d1d1ad5fea6f4667b8a6b5fb980", func := "loop.example/g01078/laws.FnExactPairsRefute", spec := "fnExactPairsRefute", apart := false }
def FnExactPairsRefuteSaid : Prop := fnExactPairsRefuteRow.holds Try.pinned (OpenSpec.ofChange fnExactPairsRefuteSpec)

/-- ITS FALSE NEIGHBOUR: 'it returns false'. Refute it at one input. -/
def fnExactPairsRefuteWrong : ChangeSpec := { name := "fnExactPairsRefute", fn := fun _ => fun
  | [d] => { results := [.lit (.bool false)], args := [d] }
  | _ => none }
def FnExactPairsRefuteWrongFalsely : Prop := fnExactPairsRefuteRow.holds Try.pinned (OpenSpec.ofChange fnExactPairsRefuteWrong)

/-- 'laws.FnExactGreedyByPairs': WHATEVER THE INPUT: true; the input reads as it did. -/
def fnExactGreedyByPairsSpec : ChangeSpec := { name := "fnExactGreedyByPairs", fn := fun _ => fun
  | [d] => { results := [.lit (.bool true)], args := [d] }
  | _ => none }
def fnExactGreedyByPairsRow : OpenClaim := { program := "ythakgchekjnfcaa", sum := "72da243a52a6707b5ea079aec68f3f2f32542d1d1ad5fea6f4667b8a6b5fb980", func := "loop.example/g01078/laws.FnExactGreedyByPairs", spec := "fnExactGreedyByPairs", apart := false }
def FnExactGreedyByPairsSaid : Prop := fnExactGreedyByPairsRow.holds Try.pinned (OpenSpec.ofChange fnExactGreedyByPairsSpec)

/-- ITS FALSE NEIGHBOUR: 'it returns false'. Refute it at one input. -/
def fnExactGreedyByPairsWrong : ChangeSpec := { name := "fnExactGreedyByPairs", fn := fun _ => fun
  | [d] => { results := [.lit (.bool false)], args := [d] }
  | _ => none }
def FnExactGreedyByPairsWrongFalsely : Prop := fnExactGreedyByPairsRow.holds Try.pinned (OpenSpec.ofChange fnExactGreedyByPairsWrong)

/-- 'laws.FnExactMinimalPairs': WHATEVER THE INPUT: true; the input reads as it did. -/
def fnExactMinimalPairsSpec : ChangeSpec := { name := "fnExactMinimalPairs", fn := fun _ => fun
  | [d] => { results := [.lit (.bool true)], args := [d] }
  | _ => none }
def fnExactMinimalPairsRow : OpenClaim := { program := "ythakgchekjnfcaa", sum := "72da243a52a6707b5ea079aec68f3f2f32542d1d1ad5fea6f4667b8a6b5fb980", func := "loop.example/g01078/laws.FnExactMinimalPairs", spec := "fnExactMinimalPairs", apart := false }
def FnExactMinimalPairsSaid : Prop := fnExactMinimalPairsRow.holds Try.pinned (OpenSpec.ofChange fnExactMinimalPairsSpec)

/-- ITS FALSE NEIGHBOUR: 'it returns false'. Refute it at one input. -/
def fnExactMinimalPairsWrong : ChangeSpec := { name := "fnExactMinimalPairs", fn := fun _ => fun
  | [d] => { results := [.lit (.bool false)], args := [d] }
  | _ => none }
def FnExactMinimalPairsWrongFalsely : Prop := fnExactMinimalPairsRow.holds Try.pinned (OpenSpec.ofChange fnExactMinimalPairsWrong)

/- THE SECOND FORM. 'bulk': how many values and letters a reading holds, each counted each time it is reached (what is shared counts as often as it is met; a slice's spare places count too). A statement '..UptoSaid' is the law's where the arguments, and the package variables that the reading takes, are together of bulk at most 1048576: NARROWER than '..Said'. Prove '..Said' where nothing that the law and all that it calls make is longer than what came in: it says more and counts as full. Else prove '..UptoSaid'. A law counts once. -/
mutual
def uptoBulk {H : Type} : DataW H → Nat
  | .lit (.string bytes) => bytes.length + 1
  | .lit _ => 1
  | .nil => 1
  | .ptr d => uptoBulk d + 1
  | .slice elems spare => uptoBulkAll elems + uptoBulkAll spare + 1
  | .agg parts => uptoBulkAll parts + 1
  | .iface _ d => uptoBulk d + 1
  | .map entries => uptoBulkEntries entries + 1
  | .held _ => 1
def uptoBulkAll {H : Type} : List (DataW H) → Nat
  | [] => 0
  | d :: r => uptoBulk d + uptoBulkAll r
def uptoBulkEntries {H : Type} : List (Lit × DataW H) → Nat
  | [] => 0
  | x :: r => uptoBulkEntry x + uptoBulkEntries r
def uptoBulkEntry {H : Type} : Lit × DataW H → Nat
  | (.string bytes, d) => bytes.length + uptoBulk d + 1
  | (_, d) => uptoBulk d + 1
 end
def uptoSmall : (H : Type) → List (DataW H) → Bool := fun _ ds => decide (uptoBulkAll ds ≤ 1048576)
def OpenSpec.upto (s : _root_.Go.ChangeSpec) : _root_.Go.OpenSpec := { _root_.Go.OpenSpec.ofChange s with cond := some uptoSmall }

/-- 'laws.FnExactPairsRefute', WHERE WHAT IT READS IS OF BULK AT MOST 1048576: true; the input reads as it did. -/
def fnExactPairsRefuteUptoRow : OpenClaim := { program := "ythakgchekjnfcaa", sum := "72da243a52a6707b5ea079aec68f3f2f32542d1d1ad5fea6f4667b8a6b5fb980", func := "loop.example/g01078/laws.FnExactPairsRefute", spec := "fnExactPairsRefute", apart := false, narrowed := true }
def FnExactPairsRefuteUptoSaid : Prop := fnExactPairsRefuteUptoRow.holds Try.pinned (OpenSpec.upto fnExactPairsRefuteSpec)

/-- 'laws.FnExactGreedyByPairs', WHERE WHAT IT READS IS OF BULK AT MOST 1048576: true; the input reads as it did. -/
def fnExactGreedyByPairsUptoRow : OpenClaim := { program := "ythakgchekjnfcaa", sum := "72da243a52a6707b5ea079aec68f3f2f32542d1d1ad5fea6f4667b8a6b5fb980", func := "loop.example/g01078/laws.FnExactGreedyByPairs", spec := "fnExactGreedyByPairs", apart := false, narrowed := true }
def FnExactGreedyByPairsUptoSaid : Prop := fnExactGreedyByPairsUptoRow.holds Try.pinned (OpenSpec.upto fnExactGreedyByPairsSpec)

/-- 'laws.FnExactMinimalPairs', WHERE WHAT IT READS IS OF BULK AT MOST 1048576: true; the input reads as it did. -/
def fnExactMinimalPairsUptoRow : OpenClaim := { program := "ythakgchekjnfcaa", sum := "72da243a52a6707b5ea079aec68f3f2f32542d1d1ad5fea6f4667b8a6b5fb980", func := "loop.example/g01078/laws.FnExactMinimalPairs", spec := "fnExactMinimalPairs", apart := false, narrowed := true }
def FnExactMinimalPairsUptoSaid : Prop := fnExactMinimalPairsUptoRow.holds Try.pinned (OpenSpec.upto fnExactMinimalPairsSpec)

end Rows
end Go.Proofs.Ythakgchekjnfcaa
