/-
  No cell of these rows narrows 'for every input' (looked for: loops, veiled, ifaces, maps, wideKeys, modest, calm, conditions, laid).
  DERIVED. THE GIVEN ROWS OF THIS SEAT. 3 by the template 'for every input the law returns true; each argument reads behind the call as it read before'; 0 by the template 'total and deterministic' (their statements: YtgeboeaoblppcaaTotals.lean).
  GIVEN WITH THE SEED: the statements are not yours to turn. If you find one false, say at which input.
  Laid BY PROGRAM, IN A SANDBOX (cutbox-rows.mjs): the forced cells as the released guide's own fill.sh prints them over the translation e3de26b4c47b0f99… (all of the seat's roots in one cut). By AI agents, Wed Nov 11 2026. No macro, syntax, notation, axiom, sorry.
-/
import Derived.Test.YtgeboeaoblppcaaChecked
import GoSem.Claim
import GoSem.ClaimJoined
import GoSem.ClaimMapViews
import Derived.JoinedTies
import Derived.KernelRfl
namespace Go.Proofs.Ytgeboeaoblppcaa
/- THE CELL 'sum', in the pinned program and in every row, IS THE sha256 OF THE DUMP (.gsa) THAT YtgeboeaoblppcaaProg.lean LOADS. Nothing in Lean hashes anything: it is a label: what it is worth is what the hold of that sum in a sandbox is worth. -/
noncomputable def Try.pinned : Pinned := { name := "ytgeboeaoblppcaa", sum := "e3de26b4c47b0f99799f6d27c24e6929dcab8534540e2d7574d10b323d2f5719", checked := Try.checked }
namespace Rows
def none {H : Type} : Left H := { results := [], args := [] }

/-- 'laws.FnExactRestoreSet': WHATEVER THE INPUT: true; the input reads as it did. -/
def fnExactRestoreSetSpec : ChangeSpec := { name := "fnExactRestoreSet", fn := fun _ => fun
  | [d1, d2, d3, d4] => { results := [.lit (.bool true)], args := [d1, d2, d3, d4] }
  | _ => none }
def fnExactRestoreSetRow : OpenClaim := { program := "ytgeboeaoblppcaa", sum := "e3de26b4c47b0f99799f6d27c24e6929dcab8534540e2d7574d10b323d2f5719", func := "loop.example/g01078/laws.FnExactRestoreSet", spec := "fnExactRestoreSet", inPlace := ["internal/reflectlite.ValueOf", "internal/reflectlite.Swapper", "(internal/reflectlite.Value).Len"], unfollowed := true, recurses := true, plainKeys := false, apart := false }
def FnExactRestoreSetSaid : Prop := fnExactRestoreSetRow.holds Try.pinned (OpenSpec.ofChange fnExactRestoreSetSpec)

/-- ITS FALSE NEIGHBOUR: 'it returns false'. Refute it at one input. -/
def fnExactRestoreSetWrong : ChangeSpec := { name := "fnExactRestoreSet", fn := fun _ => fun
  | [d1, d2, d3, d4] => { results := [.lit (.bool false)], args := [d1, d2, d3, d4] }
  | _ => none }
def FnExactRestoreSetWrongFalsely : Prop := fnExactRestoreSetRow.holds Try.pinned (OpenSpec.ofChange fnExactRestoreSetWrong)

/-- 'laws.FnExactWitnessesOf': WHATEVER THE INPUT: true; the input reads as it did. -/
def fnExactWitnessesOfSpec : ChangeSpec := { name := "fnExactWitnessesOf", fn := fun _ => fun
  | [d1, d2, d3] => { results := [.lit (.bool true)], args := [d1, d2, d3] }
  | _ => none }
def fnExactWitnessesOfRow : OpenClaim := { program := "ytgeboeaoblppcaa", sum := "e3de26b4c47b0f99799f6d27c24e6929dcab8534540e2d7574d10b323d2f5719", func := "loop.example/g01078/laws.FnExactWitnessesOf", spec := "fnExactWitnessesOf", inPlace := ["internal/reflectlite.ValueOf", "internal/reflectlite.Swapper", "(internal/reflectlite.Value).Len"], unfollowed := true, recurses := true, plainKeys := false, apart := false }
def FnExactWitnessesOfSaid : Prop := fnExactWitnessesOfRow.holds Try.pinned (OpenSpec.ofChange fnExactWitnessesOfSpec)

/-- ITS FALSE NEIGHBOUR: 'it returns false'. Refute it at one input. -/
def fnExactWitnessesOfWrong : ChangeSpec := { name := "fnExactWitnessesOf", fn := fun _ => fun
  | [d1, d2, d3] => { results := [.lit (.bool false)], args := [d1, d2, d3] }
  | _ => none }
def FnExactWitnessesOfWrongFalsely : Prop := fnExactWitnessesOfRow.holds Try.pinned (OpenSpec.ofChange fnExactWitnessesOfWrong)

/-- 'laws.FnWitnesses': WHATEVER THE INPUT: true; the input reads as it did. -/
def fnWitnessesSpec : ChangeSpec := { name := "fnWitnesses", fn := fun _ => fun
  | [d] => { results := [.lit (.bool true)], args := [d] }
  | _ => none }
def fnWitnessesRow : OpenClaim := { program := "ytgeboeaoblppcaa", sum := "e3de26b4c47b0f99799f6d27c24e6929dcab8534540e2d7574d10b323d2f5719", func := "loop.example/g01078/laws.FnWitnesses", spec := "fnWitnesses", inPlace := ["internal/reflectlite.ValueOf", "internal/reflectlite.Swapper", "(internal/reflectlite.Value).Len"], unfollowed := true, recurses := true, plainKeys := false, apart := false }
def FnWitnessesSaid : Prop := fnWitnessesRow.holds Try.pinned (OpenSpec.ofChange fnWitnessesSpec)

/-- ITS FALSE NEIGHBOUR: 'it returns false'. Refute it at one input. -/
def fnWitnessesWrong : ChangeSpec := { name := "fnWitnesses", fn := fun _ => fun
  | [d] => { results := [.lit (.bool false)], args := [d] }
  | _ => none }
def FnWitnessesWrongFalsely : Prop := fnWitnessesRow.holds Try.pinned (OpenSpec.ofChange fnWitnessesWrong)

/- THE SECOND FORM. 'bulk': how many values and letters a reading holds, each counted each time it is reached (what is shared counts as often as it is met; a slice's spare places count too). A statement '..UptoSaid' is the law's where the arguments, and the package variables that the reading takes, are together of bulk at most 1048576: NARROWER than '..Said'. Prove '..Said' where nothing that the law and all that it calls make is longer than what came in: it says more and counts as full. Else prove '..UptoSaid'. A law counts once. -/
mutual
def uptoBulk {H : Type} : DataW H → Nat
  | .lit (.string bytes) => bytes.length + 1
  | .lit _ => 1
  | .nil => 1
  | .ptr d => uptoBulk d + 1
  | .slice elems spare => uptoBulkAll elems + uptoBulkAll spare + 1
  | .agg parts => uptoBulkAll parts + 1
  | .iface _ d => uptoBulk d + 1
  | .map entries => uptoBulkEntries entries + 1
  | .held _ => 1
def uptoBulkAll {H : Type} : List (DataW H) → Nat
  | [] => 0
  | d :: r => uptoBulk d + uptoBulkAll r
def uptoBulkEntries {H : Type} : List (Lit × DataW H) → Nat
  | [] => 0
  | x :: r => uptoBulkEntry x + uptoBulkEntries r
def uptoBulkEntry {H : Type} : Lit × DataW H → Nat
  | (.string bytes, d) => bytes.length + uptoBulk d + 1
  | (_, d) => uptoBulk d + 1
 end
def uptoSmall : (H : Type) → List (DataW H) → Bool := fun _ ds => decide (uptoBulkAll ds ≤ 1048576)
def OpenSpec.upto (s : _root_.Go.ChangeSpec) : _root_.Go.OpenSpec := { _root_.Go.OpenSpec.ofChange s with cond := some uptoSmall }

/-- 'laws.FnExactRestoreSet', WHERE WHAT IT READS IS OF BULK AT MOST 1048576: true; the input reads as it did. -/
def fnExactRestoreSetUptoRow : OpenClaim := { program := "ytgeboeaoblppcaa", sum := "e3de26b4c47b0f99799f6d27c24e6929dcab8534540e2d7574d10b323d2f5719", func := "loop.example/g01078/laws.FnExactRestoreSet", spec := "fnExactRestoreSet", inPlace := ["internal/reflectlite.ValueOf", "internal/reflectlite.Swapper", "(internal/reflectlite.Value).Len"], unfollowed := true, recurses := true, plainKeys := false, apart := false, narrowed := true }
def FnExactRestoreSetUptoSaid : Prop := fnExactRestoreSetUptoRow.holds Try.pinned (OpenSpec.upto fnExactRestoreSetSpec)

/-- 'laws.FnExactWitnessesOf', WHERE WHAT IT READS IS OF BULK AT MOST 1048576: true; the input reads as it did. -/
def fnExactWitnessesOfUptoRow : OpenClaim := { program := "ytgeboeaoblppcaa", sum := "e3de26b4c47b0f99799f6d27c24e6929dcab8534540e2d7574d10b323d2f5719", func := "loop.example/g01078/laws.FnExactWitnessesOf", spec := "fnExactWitnessesOf", inPlace := ["internal/reflectlite.ValueOf", "internal/reflectlite.Swapper", "(internal/reflectlite.Value).Len"], unfollowed := true, recurses := true, plainKeys := false, apart := false, narrowed := true }
def FnExactWitnessesOfUptoSaid : Prop := fnExactWitnessesOfUptoRow.holds Try.pinned (OpenSpec.upto fnExactWitnessesOfSpec)

/-- 'laws.FnWitnesses', WHERE WHAT IT READS IS OF BULK AT MOST 1048576: true; the input reads as it did. -/
def fnWitnessesUptoRow : OpenClaim := { program := "ytgeboeaoblppcaa", sum := "e3de26b4c47b0f99799f6d27c24e6929dcab8534540e2d7574d10b323d2f5719", func := "loop.example/g01078/laws.FnWitnesses", spec := "fnWitnesses", inPlace := ["internal/reflectlite.ValueOf", "internal/reflectlite.Swapper", "(internal/reflectlite.Value).Len"], unfollowed := true, recurses := true, plainKeys := false, apart := false, narrowed := true }
def FnWitnessesUptoSaid : Prop := fnWitnessesUptoRow.holds Try.pinned (OpenSpec.upto fnWitnessesSpec)

end Rows
end Go.Proofs.Ytgeboeaoblppcaa
