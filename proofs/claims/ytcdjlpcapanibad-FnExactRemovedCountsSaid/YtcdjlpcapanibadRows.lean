/-
  No cell of these rows narrows 'for every input' (looked for: loops, veiled, ifaces, maps, wideKeys, modest, calm, conditions, laid).
  DERIVED. THE GIVEN ROWS OF THIS SEAT. 4 by the template 'for every input the law returns true; each argument reads behind the call as it read before'; 0 by the template 'total and deterministic' (their statements: YtcdjlpcapanibadTotals.lean).
  GIVEN WITH THE SEED: the statements are not yours to turn. If you find one false, say at which input.
  Laid BY PROGRAM, IN A SANDBOX (cutbox-rows.mjs): the forced cells as the released guide's own fill.sh prints them over the translation 77705f800d25066e… (all of the seat's roots in one cut). By AI agents, Wed Nov 11 2026. No macro, syntax, notation, axiom, sorry.
-/
import Derived.Test.YtcdjlpcapanibadChecked
import GoSem.Claim
import GoSem.ClaimJoined
import GoSem.ClaimMapViews
import Derived.JoinedTies
import Derived.KernelRfl
namespace Go.Proofs.Ytcdjlpcapanibad
/- THE CELL 'sum', in the pinned program and in every row, IS THE sha256 OF THE DUMP (.gsa) THAT YtcdjlpcapanibadProg.lean LOADS. Nothing in Lean hashes anything: it is a label: what it is worth is what the hold of that sum in a sandbox is worth. -/
noncomputable def Try.pinned : Pinned := { name := "ytcdjlpcapanibad", sum := "77705f800d25066e4cc29bc83eedc559c9cf53e47d840232db4b91d586bd2dbd", checked := Try.checked }
namespace Rows
def none {H : Type} : Left H := { results := [], args := [] }

/-- 'laws.FnPolymorphisms': WHATEVER THE INPUT: true; the input reads as it did. -/
def fnPolymorphismsSpec : ChangeSpec := { name := "fnPolymorphisms", fn := fun _ => fun
  | [d] => { results := [.lit (.bool true)], args := [d] }
  | _ => none }
def fnPolymorphismsRow : OpenClaim := { program := "ytcdjlpcapanibad", sum := "77705f800d25066e4cc29bc83eedc559c9cf53e47d840232db4b91d586bd2dbd", func := "loop.example/g01078/laws.FnPolymorphisms", spec := "fnPolymorphisms", unfollowed := true, recurses := true, apart := false }
def FnPolymorphismsSaid : Prop := fnPolymorphismsRow.holds Try.pinned (OpenSpec.ofChange fnPolymorphismsSpec)

/-- ITS FALSE NEIGHBOUR: 'it returns false'. Refute it at one input. -/
def fnPolymorphismsWrong : ChangeSpec := { name := "fnPolymorphisms", fn := fun _ => fun
  | [d] => { results := [.lit (.bool false)], args := [d] }
  | _ => none }
def FnPolymorphismsWrongFalsely : Prop := fnPolymorphismsRow.holds Try.pinned (OpenSpec.ofChange fnPolymorphismsWrong)

/-- 'laws.FnCores': WHATEVER THE INPUT: true; the input reads as it did. -/
def fnCoresSpec : ChangeSpec := { name := "fnCores", fn := fun _ => fun
  | [d] => { results := [.lit (.bool true)], args := [d] }
  | _ => none }
def fnCoresRow : OpenClaim := { program := "ytcdjlpcapanibad", sum := "77705f800d25066e4cc29bc83eedc559c9cf53e47d840232db4b91d586bd2dbd", func := "loop.example/g01078/laws.FnCores", spec := "fnCores", unfollowed := true, recurses := true, apart := false }
def FnCoresSaid : Prop := fnCoresRow.holds Try.pinned (OpenSpec.ofChange fnCoresSpec)

/-- ITS FALSE NEIGHBOUR: 'it returns false'. Refute it at one input. -/
def fnCoresWrong : ChangeSpec := { name := "fnCores", fn := fun _ => fun
  | [d] => { results := [.lit (.bool false)], args := [d] }
  | _ => none }
def FnCoresWrongFalsely : Prop := fnCoresRow.holds Try.pinned (OpenSpec.ofChange fnCoresWrong)

/-- 'laws.FnExactRemovedCounts': WHATEVER THE INPUT: true; the input reads as it did. -/
def fnExactRemovedCountsSpec : ChangeSpec := { name := "fnExactRemovedCounts", fn := fun _ => fun
  | [d] => { results := [.lit (.bool true)], args := [d] }
  | _ => none }
def fnExactRemovedCountsRow : OpenClaim := { program := "ytcdjlpcapanibad", sum := "77705f800d25066e4cc29bc83eedc559c9cf53e47d840232db4b91d586bd2dbd", func := "loop.example/g01078/laws.FnExactRemovedCounts", spec := "fnExactRemovedCounts", unfollowed := true, recurses := true, apart := false }
def FnExactRemovedCountsSaid : Prop := fnExactRemovedCountsRow.holds Try.pinned (OpenSpec.ofChange fnExactRemovedCountsSpec)

/-- ITS FALSE NEIGHBOUR: 'it returns false'. Refute it at one input. -/
def fnExactRemovedCountsWrong : ChangeSpec := { name := "fnExactRemovedCounts", fn := fun _ => fun
  | [d] => { results := [.lit (.bool false)], args := [d] }
  | _ => none }
def FnExactRemovedCountsWrongFalsely : Prop := fnExactRemovedCountsRow.holds Try.pinned (OpenSpec.ofChange fnExactRemovedCountsWrong)

/-- 'laws.FnExactPairsAssignment': WHATEVER THE INPUT: true; the input reads as it did. -/
def fnExactPairsAssignmentSpec : ChangeSpec := { name := "fnExactPairsAssignment", fn := fun _ => fun
  | [d] => { results := [.lit (.bool true)], args := [d] }
  | _ => none }
def fnExactPairsAssignmentRow : OpenClaim := { program := "ytcdjlpcapanibad", sum := "77705f800d25066e4cc29bc83eedc559c9cf53e47d840232db4b91d586bd2dbd", func := "loop.example/g01078/laws.FnExactPairsAssignment", spec := "fnExactPairsAssignment", unfollowed := true, recurses := true, apart := false }
def FnExactPairsAssignmentSaid : Prop := fnExactPairsAssignmentRow.holds Try.pinned (OpenSpec.ofChange fnExactPairsAssignmentSpec)

/-- ITS FALSE NEIGHBOUR: 'it returns false'. Refute it at one input. -/
def fnExactPairsAssignmentWrong : ChangeSpec := { name := "fnExactPairsAssignment", fn := fun _ => fun
  | [d] => { results := [.lit (.bool false)], args := [d] }
  | _ => none }
def FnExactPairsAssignmentWrongFalsely : Prop := fnExactPairsAssignmentRow.holds Try.pinned (OpenSpec.ofChange fnExactPairsAssignmentWrong)

/- THE SECOND FORM. 'bulk': how many values and letters a reading holds, each counted each time it is reached (what is shared counts as often as it is met; a slice's spare places count too). A statement '..UptoSaid' is the law's where the arguments, and the package variables that the reading takes, are together of bulk at most 1048576: NARROWER than '..Said'. Prove '..Said' where nothing that the law and all that it calls make is longer than what came in: it says more and counts as full. Else prove '..UptoSaid'. A law counts once. -/
mutual
def uptoBulk {H : Type} : DataW H → Nat
  | .lit (.string bytes) => bytes.length + 1
  | .lit _ => 1
  | .nil => 1
  | .ptr d => uptoBulk d + 1
  | .slice elems spare => uptoBulkAll elems + uptoBulkAll spare + 1
  | .agg parts => uptoBulkAll parts + 1
  | .iface _ d => uptoBulk d + 1
  | .map entries => uptoBulkEntries entries + 1
  | .held _ => 1
def uptoBulkAll {H : Type} : List (DataW H) → Nat
  | [] => 0
  | d :: r => uptoBulk d + uptoBulkAll r
def uptoBulkEntries {H : Type} : List (Lit × DataW H) → Nat
  | [] => 0
  | x :: r => uptoBulkEntry x + uptoBulkEntries r
def uptoBulkEntry {H : Type} : Lit × DataW H → Nat
  | (.string bytes, d) => bytes.length + uptoBulk d + 1
  | (_, d) => uptoBulk d + 1
 end
def uptoSmall : (H : Type) → List (DataW H) → Bool := fun _ ds => decide (uptoBulkAll ds ≤ 1048576)
def OpenSpec.upto (s : _root_.Go.ChangeSpec) : _root_.Go.OpenSpec := { _root_.Go.OpenSpec.ofChange s with cond := some uptoSmall }

/-- 'laws.FnPolymorphisms', WHERE WHAT IT READS IS OF BULK AT MOST 1048576: true; the input reads as it did. -/
def fnPolymorphismsUptoRow : OpenClaim := { program := "ytcdjlpcapanibad", sum := "77705f800d25066e4cc29bc83eedc559c9cf53e47d840232db4b91d586bd2dbd", func := "loop.example/g01078/laws.FnPolymorphisms", spec := "fnPolymorphisms", unfollowed := true, recurses := true, apart := false, narrowed := true }
def FnPolymorphismsUptoSaid : Prop := fnPolymorphismsUptoRow.holds Try.pinned (OpenSpec.upto fnPolymorphismsSpec)

/-- 'laws.FnCores', WHERE WHAT IT READS IS OF BULK AT MOST 1048576: true; the input reads as it did. -/
def fnCoresUptoRow : OpenClaim := { program := "ytcdjlpcapanibad", sum := "77705f800d25066e4cc29bc83eedc559c9cf53e47d840232db4b91d586bd2dbd", func := "loop.example/g01078/laws.FnCores", spec := "fnCores", unfollowed := true, recurses := true, apart := false, narrowed := true }
def FnCoresUptoSaid : Prop := fnCoresUptoRow.holds Try.pinned (OpenSpec.upto fnCoresSpec)

/-- 'laws.FnExactRemovedCounts', WHERE WHAT IT READS IS OF BULK AT MOST 1048576: true; the input reads as it did. -/
def fnExactRemovedCountsUptoRow : OpenClaim := { program := "ytcdjlpcapanibad", sum := "77705f800d25066e4cc29bc83eedc559c9cf53e47d840232db4b91d586bd2dbd", func := "loop.example/g01078/laws.FnExactRemovedCounts", spec := "fnExactRemovedCounts", unfollowed := true, recurses := true, apart := false, narrowed := true }
def FnExactRemovedCountsUptoSaid : Prop := fnExactRemovedCountsUptoRow.holds Try.pinned (OpenSpec.upto fnExactRemovedCountsSpec)

/-- 'laws.FnExactPairsAssignment', WHERE WHAT IT READS IS OF BULK AT MOST 1048576: true; the input reads as it did. -/
def fnExactPairsAssignmentUptoRow : OpenClaim := { program := "ytcdjlpcapanibad", sum := "77705f800d25066e4cc29bc83eedc559c9cf53e47d840232db4b91d586bd2dbd", func := "loop.example/g01078/laws.FnExactPairsAssignment", spec := "fnExactPairsAssignment", unfollowed := true, recurses := true, apart := false, narrowed := true }
def FnExactPairsAssignmentUptoSaid : Prop := fnExactPairsAssignmentUptoRow.holds Try.pinned (OpenSpec.upto fnExactPairsAssignmentSpec)

end Rows
end Go.Proofs.Ytcdjlpcapanibad
