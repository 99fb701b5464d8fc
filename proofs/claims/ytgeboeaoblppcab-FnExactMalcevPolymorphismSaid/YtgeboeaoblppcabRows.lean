/-
  No cell of these rows narrows 'for every input' (looked for: loops, veiled, ifaces, maps, wideKeys, modest, calm, conditions, laid).
  DERIVED. THE GIVEN ROWS OF THIS SEAT. 3 by the template 'for every input the law returns true; each argument reads behind the call as it read before'; 0 by the template 'total and deterministic' (their statements: YtgeboeaoblppcabTotals.lean).
  GIVEN WITH THE SEED: the statements are not yours to turn. If you find one false, say at which input.
  Laid BY PROGRAM, IN A SANDBOX (cutbox-rows.mjs): the forced cells as the released guide's own fill.sh prints them over the translation 2b147983b032f5bb… (all of the seat's roots in one cut). By AI agents, Wed Nov 11 2026. No macro, syntax, notation, axiom, sorry.
-/
import Derived.Test.YtgeboeaoblppcabChecked
import GoSem.Claim
import GoSem.ClaimJoined
import GoSem.ClaimMapViews
import Derived.JoinedTies
import Derived.KernelRfl
namespace Go.Proofs.Ytgeboeaoblppcab
/- THE CELL 'sum', in the pinned program and in every row, IS THE sha256 OF THE DUMP (.gsa) THAT YtgeboeaoblppcabProg.lean LOADS. Nothing in Lean hashes anything: it is a label: what it is worth is what the hold of that sum in a sandbox is worth. -/
noncomputable def Try.pinned : Pinned := { name := "ytgeboeaoblppcab", sum := "2b147983b032f5bbc8d921032a384ed2a126f80c11ae3d606ad55ee2148df13d", checked := Try.checked }
namespace Rows
def none {H : Type} : Left H := { results := [], args := [] }

/-- 'laws.FnExactExtendPolymorphism': WHATEVER THE INPUT: true; the input reads as it did. -/
def fnExactExtendPolymorphismSpec : ChangeSpec := { name := "fnExactExtendPolymorphism", fn := fun _ => fun
  | [d1, d2, d3, d4] => { results := [.lit (.bool true)], args := [d1, d2, d3, d4] }
  | _ => none }
def fnExactExtendPolymorphismRow : OpenClaim := { program := "ytgeboeaoblppcab", sum := "2b147983b032f5bbc8d921032a384ed2a126f80c11ae3d606ad55ee2148df13d", func := "loop.example/g01078/laws.FnExactExtendPolymorphism", spec := "fnExactExtendPolymorphism", unfollowed := true, recurses := true, apart := false }
def FnExactExtendPolymorphismSaid : Prop := fnExactExtendPolymorphismRow.holds Try.pinned (OpenSpec.ofChange fnExactExtendPolymorphismSpec)

/-- ITS FALSE NEIGHBOUR: 'it returns false'. Refute it at one input. -/
def fnExactExtendPolymorphismWrong : ChangeSpec := { name := "fnExactExtendPolymorphism", fn := fun _ => fun
  | [d1, d2, d3, d4] => { results := [.lit (.bool false)], args := [d1, d2, d3, d4] }
  | _ => none }
def FnExactExtendPolymorphismWrongFalsely : Prop := fnExactExtendPolymorphismRow.holds Try.pinned (OpenSpec.ofChange fnExactExtendPolymorphismWrong)

/-- 'laws.FnExactMajorityPolymorphism': WHATEVER THE INPUT: true; the input reads as it did. -/
def fnExactMajorityPolymorphismSpec : ChangeSpec := { name := "fnExactMajorityPolymorphism", fn := fun _ => fun
  | [d1, d2] => { results := [.lit (.bool true)], args := [d1, d2] }
  | _ => none }
def fnExactMajorityPolymorphismRow : OpenClaim := { program := "ytgeboeaoblppcab", sum := "2b147983b032f5bbc8d921032a384ed2a126f80c11ae3d606ad55ee2148df13d", func := "loop.example/g01078/laws.FnExactMajorityPolymorphism", spec := "fnExactMajorityPolymorphism", unfollowed := true, recurses := true, apart := false }
def FnExactMajorityPolymorphismSaid : Prop := fnExactMajorityPolymorphismRow.holds Try.pinned (OpenSpec.ofChange fnExactMajorityPolymorphismSpec)

/-- ITS FALSE NEIGHBOUR: 'it returns false'. Refute it at one input. -/
def fnExactMajorityPolymorphismWrong : ChangeSpec := { name := "fnExactMajorityPolymorphism", fn := fun _ => fun
  | [d1, d2] => { results := [.lit (.bool false)], args := [d1, d2] }
  | _ => none }
def FnExactMajorityPolymorphismWrongFalsely : Prop := fnExactMajorityPolymorphismRow.holds Try.pinned (OpenSpec.ofChange fnExactMajorityPolymorphismWrong)

/-- 'laws.FnExactMalcevPolymorphism': WHATEVER THE INPUT: true; the input reads as it did. -/
def fnExactMalcevPolymorphismSpec : ChangeSpec := { name := "fnExactMalcevPolymorphism", fn := fun _ => fun
  | [d1, d2] => { results := [.lit (.bool true)], args := [d1, d2] }
  | _ => none }
def fnExactMalcevPolymorphismRow : OpenClaim := { program := "ytgeboeaoblppcab", sum := "2b147983b032f5bbc8d921032a384ed2a126f80c11ae3d606ad55ee2148df13d", func := "loop.example/g01078/laws.FnExactMalcevPolymorphism", spec := "fnExactMalcevPolymorphism", unfollowed := true, recurses := true, apart := false }
def FnExactMalcevPolymorphismSaid : Prop := fnExactMalcevPolymorphismRow.holds Try.pinned (OpenSpec.ofChange fnExactMalcevPolymorphismSpec)

/-- ITS FALSE NEIGHBOUR: 'it returns false'. Refute it at one input. -/
def fnExactMalcevPolymorphismWrong : ChangeSpec := { name := "fnExactMalcevPolymorphism", fn := fun _ => fun
  | [d1, d2] => { results := [.lit (.bool false)], args := [d1, d2] }
  | _ => none }
def FnExactMalcevPolymorphismWrongFalsely : Prop := fnExactMalcevPolymorphismRow.holds Try.pinned (OpenSpec.ofChange fnExactMalcevPolymorphismWrong)

/- THE SECOND FORM. 'bulk': how many values and letters a reading holds, each counted each time it is reached (what is shared counts as often as it is met; a slice's spare places count too). A statement '..UptoSaid' is the law's where the arguments, and the package variables that the reading takes, are together of bulk at most 1048576: NARROWER than '..Said'. Prove '..Said' where nothing that the law and all that it calls make is longer than what came in: it says more and counts as full. Else prove '..UptoSaid'. A law counts once. -/
mutual
def uptoBulk {H : Type} : DataW H → Nat
  | .lit (.string bytes) => bytes.length + 1
  | .lit _ => 1
  | .nil => 1
  | .ptr d => uptoBulk d + 1
  | .slice elems spare => uptoBulkAll elems + uptoBulkAll spare + 1
  | .agg parts => uptoBulkAll parts + 1
  | .iface _ d => uptoBulk d + 1
  | .map entries => uptoBulkEntries entries + 1
  | .held _ => 1
def uptoBulkAll {H : Type} : List (DataW H) → Nat
  | [] => 0
  | d :: r => uptoBulk d + uptoBulkAll r
def uptoBulkEntries {H : Type} : List (Lit × DataW H) → Nat
  | [] => 0
  | x :: r => uptoBulkEntry x + uptoBulkEntries r
def uptoBulkEntry {H : Type} : Lit × DataW H → Nat
  | (.string bytes, d) => bytes.length + uptoBulk d + 1
  | (_, d) => uptoBulk d + 1
 end
def uptoSmall : (H : Type) → List (DataW H) → Bool := fun _ ds => decide (uptoBulkAll ds ≤ 1048576)
def OpenSpec.upto (s : _root_.Go.ChangeSpec) : _root_.Go.OpenSpec := { _root_.Go.OpenSpec.ofChange s with cond := some uptoSmall }

/-- 'laws.FnExactExtendPolymorphism', WHERE WHAT IT READS IS OF BULK AT MOST 1048576: true; the input reads as it did. -/
def fnExactExtendPolymorphismUptoRow : OpenClaim := { program := "ytgeboeaoblppcab", sum := "2b147983b032f5bbc8d921032a384ed2a126f80c11ae3d606ad55ee2148df13d", func := "loop.example/g01078/laws.FnExactExtendPolymorphism", spec := "fnExactExtendPolymorphism", unfollowed := true, recurses := true, apart := false, narrowed := true }
def FnExactExtendPolymorphismUptoSaid : Prop := fnExactExtendPolymorphismUptoRow.holds Try.pinned (OpenSpec.upto fnExactExtendPolymorphismSpec)

/-- 'laws.FnExactMajorityPolymorphism', WHERE WHAT IT READS IS OF BULK AT MOST 1048576: true; the input reads as it did. -/
def fnExactMajorityPolymorphismUptoRow : OpenClaim := { program := "ytgeboeaoblppcab", sum := "2b147983b032f5bbc8d921032a384ed2a126f80c11ae3d606ad55ee2148df13d", func := "loop.example/g01078/laws.FnExactMajorityPolymorphism", spec := "fnExactMajorityPolymorphism", unfollowed := true, recurses := true, apart := false, narrowed := true }
def FnExactMajorityPolymorphismUptoSaid : Prop := fnExactMajorityPolymorphismUptoRow.holds Try.pinned (OpenSpec.upto fnExactMajorityPolymorphismSpec)

/-- 'laws.FnExactMalcevPolymorphism', WHERE WHAT IT READS IS OF BULK AT MOST 1048576: true; the input reads as it did. -/
def fnExactMalcevPolymorphismUptoRow : OpenClaim := { program := "ytgeboeaoblppcab", sum := "2b147983b032f5bbc8d921032a384ed2a126f80c11ae3d606ad55ee2148df13d", func := "loop.example/g01078/laws.FnExactMalcevPolymorphism", spec := "fnExactMalcevPolymorphism", unfollowed := true, recurses := true, apart := false, narrowed := true }
def FnExactMalcevPolymorphismUptoSaid : Prop := fnExactMalcevPolymorphismUptoRow.holds Try.pinned (OpenSpec.upto fnExactMalcevPolymorphismSpec)

end Rows
end Go.Proofs.Ytgeboeaoblppcab
