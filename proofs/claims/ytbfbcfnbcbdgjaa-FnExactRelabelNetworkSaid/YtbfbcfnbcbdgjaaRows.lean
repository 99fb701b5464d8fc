/-
  No cell of these rows narrows 'for every input' (looked for: loops, veiled, ifaces, maps, wideKeys, modest, calm, conditions, laid).
  DERIVED. THE GIVEN ROWS OF THIS SEAT. 4 by the template 'for every input the law returns true; each argument reads behind the call as it read before'; 0 by the template 'total and deterministic' (their statements: YtbfbcfnbcbdgjaaTotals.lean).
  GIVEN WITH THE SEED: the statements are not yours to turn. If you find one false, say at which input.
  Laid BY PROGRAM, IN A SANDBOX (cutbox-rows.mjs): the forced cells as the released guide's own fill.sh prints them over the translation 60e1dafc67788266… (all of the seat's roots in one cut). By AI agents, Wed Nov 11 2026. No macro, syntax, notation, axiom, sorry.
-/
import Derived.Test.YtbfbcfnbcbdgjaaChecked
import GoSem.Claim
import GoSem.ClaimJoined
import GoSem.ClaimMapViews
import Derived.JoinedTies
import Derived.KernelRfl
namespace Go.Proofs.Ytbfbcfnbcbdgjaa
/- THE CELL 'sum', in the pinned program and in every row, IS THE sha256 OF THE DUMP (.gsa) THAT YtbfbcfnbcbdgjaaProg.lean LOADS. Nothing in Lean hashes anything: it is a label: what it is worth is what the hold of that sum in a sandbox is worth. -/
noncomputable def Try.pinned : Pinned := { name := "ytbfbcfnbcbdgjaa", sum := "60e1dafc677882668f68fc274a6e43e60be7d555351d34accd3186cebf820186", checked := Try.checked }
namespace Rows
def none {H : Type} : Left H := { results := [], args := [] }

/-- 'laws.FnExactForksOf': WHATEVER THE INPUT: true; the input reads as it did. -/
def fnExactForksOfSpec : ChangeSpec := { name := "fnExactForksOf", fn := fun _ => fun
  | [d1, d2, d3] => { results := [.lit (.bool true)], args := [d1, d2, d3] }
  | _ => none }
def fnExactForksOfRow : OpenClaim := { program := "ytbfbcfnbcbdgjaa", sum := "60e1dafc677882668f68fc274a6e43e60be7d555351d34accd3186cebf820186", func := "loop.example/g01078/laws.FnExactForksOf", spec := "fnExactForksOf", inPlace := ["internal/reflectlite.ValueOf", "internal/reflectlite.Swapper", "(internal/reflectlite.Value).Len"], unfollowed := true, recurses := true, apart := false }
def FnExactForksOfSaid : Prop := fnExactForksOfRow.holds Try.pinned (OpenSpec.ofChange fnExactForksOfSpec)

/-- ITS FALSE NEIGHBOUR: 'it returns false'. Refute it at one input. -/
def fnExactForksOfWrong : ChangeSpec := { name := "fnExactForksOf", fn := fun _ => fun
  | [d1, d2, d3] => { results := [.lit (.bool false)], args := [d1, d2, d3] }
  | _ => none }
def FnExactForksOfWrongFalsely : Prop := fnExactForksOfRow.holds Try.pinned (OpenSpec.ofChange fnExactForksOfWrong)

/-- 'laws.FnExactBinaryPart': WHATEVER THE INPUT: true; the input reads as it did. -/
def fnExactBinaryPartSpec : ChangeSpec := { name := "fnExactBinaryPart", fn := fun _ => fun
  | [d] => { results := [.lit (.bool true)], args := [d] }
  | _ => none }
def fnExactBinaryPartRow : OpenClaim := { program := "ytbfbcfnbcbdgjaa", sum := "60e1dafc677882668f68fc274a6e43e60be7d555351d34accd3186cebf820186", func := "loop.example/g01078/laws.FnExactBinaryPart", spec := "fnExactBinaryPart", inPlace := ["internal/reflectlite.ValueOf", "internal/reflectlite.Swapper", "(internal/reflectlite.Value).Len"], unfollowed := true, recurses := true, apart := false }
def FnExactBinaryPartSaid : Prop := fnExactBinaryPartRow.holds Try.pinned (OpenSpec.ofChange fnExactBinaryPartSpec)

/-- ITS FALSE NEIGHBOUR: 'it returns false'. Refute it at one input. -/
def fnExactBinaryPartWrong : ChangeSpec := { name := "fnExactBinaryPart", fn := fun _ => fun
  | [d] => { results := [.lit (.bool false)], args := [d] }
  | _ => none }
def FnExactBinaryPartWrongFalsely : Prop := fnExactBinaryPartRow.holds Try.pinned (OpenSpec.ofChange fnExactBinaryPartWrong)

/-- 'laws.FnExactRelabelNetwork': WHATEVER THE INPUT: true; the input reads as it did. -/
def fnExactRelabelNetworkSpec : ChangeSpec := { name := "fnExactRelabelNetwork", fn := fun _ => fun
  | [d1, d2] => { results := [.lit (.bool true)], args := [d1, d2] }
  | _ => none }
def fnExactRelabelNetworkRow : OpenClaim := { program := "ytbfbcfnbcbdgjaa", sum := "60e1dafc677882668f68fc274a6e43e60be7d555351d34accd3186cebf820186", func := "loop.example/g01078/laws.FnExactRelabelNetwork", spec := "fnExactRelabelNetwork", inPlace := ["internal/reflectlite.ValueOf", "internal/reflectlite.Swapper", "(internal/reflectlite.Value).Len"], unfollowed := true, recurses := true, apart := false }
def FnExactRelabelNetworkSaid : Prop := fnExactRelabelNetworkRow.holds Try.pinned (OpenSpec.ofChange fnExactRelabelNetworkSpec)

/-- ITS FALSE NEIGHBOUR: 'it returns false'. Refute it at one input. -/
def fnExactRelabelNetworkWrong : ChangeSpec := { name := "fnExactRelabelNetwork", fn := fun _ => fun
  | [d1, d2] => { results := [.lit (.bool false)], args := [d1, d2] }
  | _ => none }
def FnExactRelabelNetworkWrongFalsely : Prop := fnExactRelabelNetworkRow.holds Try.pinned (OpenSpec.ofChange fnExactRelabelNetworkWrong)

/-- 'laws.FnExactSwapNetwork': WHATEVER THE INPUT: true; the input reads as it did. -/
def fnExactSwapNetworkSpec : ChangeSpec := { name := "fnExactSwapNetwork", fn := fun _ => fun
  | [d] => { results := [.lit (.bool true)], args := [d] }
  | _ => none }
def fnExactSwapNetworkRow : OpenClaim := { program := "ytbfbcfnbcbdgjaa", sum := "60e1dafc677882668f68fc274a6e43e60be7d555351d34accd3186cebf820186", func := "loop.example/g01078/laws.FnExactSwapNetwork", spec := "fnExactSwapNetwork", inPlace := ["internal/reflectlite.ValueOf", "internal/reflectlite.Swapper", "(internal/reflectlite.Value).Len"], unfollowed := true, recurses := true, apart := false }
def FnExactSwapNetworkSaid : Prop := fnExactSwapNetworkRow.holds Try.pinned (OpenSpec.ofChange fnExactSwapNetworkSpec)

/-- ITS FALSE NEIGHBOUR: 'it returns false'. Refute it at one input. -/
def fnExactSwapNetworkWrong : ChangeSpec := { name := "fnExactSwapNetwork", fn := fun _ => fun
  | [d] => { results := [.lit (.bool false)], args := [d] }
  | _ => none }
def FnExactSwapNetworkWrongFalsely : Prop := fnExactSwapNetworkRow.holds Try.pinned (OpenSpec.ofChange fnExactSwapNetworkWrong)

/- THE SECOND FORM. 'bulk': how many values and letters a reading holds, each counted each time it is reached (what is shared counts as often as it is met; a slice's spare places count too). A statement '..UptoSaid' is the law's where the arguments, and the package variables that the reading takes, are together of bulk at most 1048576: NARROWER than '..Said'. Prove '..Said' where nothing that the law and all that it calls make is longer than what came in: it says more and counts as full. Else prove '..UptoSaid'. A law counts once. -/
mutual
def uptoBulk {H : Type} : DataW H → Nat
  | .lit (.string bytes) => bytes.length + 1
  | .lit _ => 1
  | .nil => 1
  | .ptr d => uptoBulk d + 1
  | .slice elems spare => uptoBulkAll elems + uptoBulkAll spare + 1
  | .agg parts => uptoBulkAll parts + 1
  | .iface _ d => uptoBulk d + 1
  | .map entries => uptoBulkEntries entries + 1
  | .held _ => 1
def uptoBulkAll {H : Type} : List (DataW H) → Nat
  | [] => 0
  | d :: r => uptoBulk d + uptoBulkAll r
def uptoBulkEntries {H : Type} : List (Lit × DataW H) → Nat
  | [] => 0
  | x :: r => uptoBulkEntry x + uptoBulkEntries r
def uptoBulkEntry {H : Type} : Lit × DataW H → Nat
  | (.string bytes, d) => bytes.length + uptoBulk d + 1
  | (_, d) => uptoBulk d + 1
 end
def uptoSmall : (H : Type) → List (DataW H) → Bool := fun _ ds => decide (uptoBulkAll ds ≤ 1048576)
def OpenSpec.upto (s : _root_.Go.ChangeSpec) : _root_.Go.OpenSpec := { _root_.Go.OpenSpec.ofChange s with cond := some uptoSmall }

/-- 'laws.FnExactForksOf', WHERE WHAT IT READS IS OF BULK AT MOST 1048576: true; the input reads as it did. -/
def fnExactForksOfUptoRow : OpenClaim := { program := "ytbfbcfnbcbdgjaa", sum := "60e1dafc677882668f68fc274a6e43e60be7d555351d34accd3186cebf820186", func := "loop.example/g01078/laws.FnExactForksOf", spec := "fnExactForksOf", inPlace := ["internal/reflectlite.ValueOf", "internal/reflectlite.Swapper", "(internal/reflectlite.Value).Len"], unfollowed := true, recurses := true, apart := false, narrowed := true }
def FnExactForksOfUptoSaid : Prop := fnExactForksOfUptoRow.holds Try.pinned (OpenSpec.upto fnExactForksOfSpec)

/-- 'laws.FnExactBinaryPart', WHERE WHAT IT READS IS OF BULK AT MOST 1048576: true; the input reads as it did. -/
def fnExactBinaryPartUptoRow : OpenClaim := { program := "ytbfbcfnbcbdgjaa", sum := "60e1dafc677882668f68fc274a6e43e60be7d555351d34accd3186cebf820186", func := "loop.example/g01078/laws.FnExactBinaryPart", spec := "fnExactBinaryPart", inPlace := ["internal/reflectlite.ValueOf", "internal/reflectlite.Swapper", "(internal/reflectlite.Value).Len"], unfollowed := true, recurses := true, apart := false, narrowed := true }
def FnExactBinaryPartUptoSaid : Prop := fnExactBinaryPartUptoRow.holds Try.pinned (OpenSpec.upto fnExactBinaryPartSpec)

/-- 'laws.FnExactRelabelNetwork', WHERE WHAT IT READS IS OF BULK AT MOST 1048576: true; the input reads as it did. -/
def fnExactRelabelNetworkUptoRow : OpenClaim := { program := "ytbfbcfnbcbdgjaa", sum := "60e1dafc677882668f68fc274a6e43e60be7d555351d34accd3186cebf820186", func := "loop.example/g01078/laws.FnExactRelabelNetwork", spec := "fnExactRelabelNetwork", inPlace := ["internal/reflectlite.ValueOf", "internal/reflectlite.Swapper", "(internal/reflectlite.Value).Len"], unfollowed := true, recurses := true, apart := false, narrowed := true }
def FnExactRelabelNetworkUptoSaid : Prop := fnExactRelabelNetworkUptoRow.holds Try.pinned (OpenSpec.upto fnExactRelabelNetworkSpec)

/-- 'laws.FnExactSwapNetwork', WHERE WHAT IT READS IS OF BULK AT MOST 1048576: true; the input reads as it did. -/
def fnExactSwapNetworkUptoRow : OpenClaim := { program := "ytbfbcfnbcbdgjaa", sum := "60e1dafc677882668f68fc274a6e43e60be7d555351d34accd3186cebf820186", func := "loop.example/g01078/laws.FnExactSwapNetwork", spec := "fnExactSwapNetwork", inPlace := ["internal/reflectlite.ValueOf", "internal/reflectlite.Swapper", "(internal/reflectlite.Value).Len"], unfollowed := true, recurses := true, apart := false, narrowed := true }
def FnExactSwapNetworkUptoSaid : Prop := fnExactSwapNetworkUptoRow.holds Try.pinned (OpenSpec.upto fnExactSwapNetworkSpec)

end Rows
end Go.Proofs.Ytbfbcfnbcbdgjaa
