/-
  No cell of these rows narrows 'for every input' (looked for: loops, veiled, ifaces, maps, wideKeys, modest, calm, conditions, laid).
  DERIVED. THE GIVEN ROWS OF THIS SEAT. 10 by the template 'for every input the law returns true; each argument reads behind the call as it read before'; 0 by the template 'total and deterministic' (their statements: YtjggcabkdajfeaaTotals.lean).
  GIVEN WITH THE SEED: the statements are not yours to turn. If you find one false, say at which input.
  Laid BY PROGRAM, IN A SANDBOX (cutbox-rows.mjs): the forced cells as the released guide's own fill.sh prints them over the translation d48e982f99b7e471… (all of the seat's roots in one cut). By AI agents, Wed Nov 11 2026. No macro, syntax, notation, axiom, sorry.
-/
import Derived.Test.YtjggcabkdajfeaaChecked
import GoSem.Claim
import GoSem.ClaimJoined
import GoSem.ClaimMapViews
import Derived.JoinedTies
import Derived.KernelRfl
namespace Go.Proofs.Ytjggcabkdajfeaa
/- THE CELL 'sum', in the pinned program and in every row, IS THE sha256 OF THE DUMP (.gsa) THAT YtjggcabkdajfeaaProg.lean LOADS. Nothing in Lean hashes anything: it is a label: what it is worth is what the hold of that sum in a sandbox is worth. -/
noncomputable def Try.pinned : Pinned := { name := "ytjggcabkdajfeaa", sum := "d48e982f99b7e47143c568f05a3a4a289a3469b137e1feb2edc10d8110726b29", checked := Try.checked }
namespace Rows
def none {H : Type} : Left H := { results := [], args := [] }

/-- 'laws.FnExactAffineOp': WHATEVER THE INPUT: true; the input reads as it did. -/
def fnExactAffineOpSpec : ChangeSpec := { name := "fnExactAffineOp", fn := fun _ => fun
  | [d] => { results := [.lit (.bool true)], args := [d] }
  | _ => none }
def fnExactAffineOpRow : OpenClaim := { program := "ytjggcabkdajfeaa", sum := "d48e982f99b7e47143c568f05a3a4a289a3469b137e1feb2edc10d8110726b29", func := "loop.example/g01078/laws.FnExactAffineOp", spec := "fnExactAffineOp", unfollowed := true, recurses := true, apart := false }
def FnExactAffineOpSaid : Prop := fnExactAffineOpRow.holds Try.pinned (OpenSpec.ofChange fnExactAffineOpSpec)

/-- ITS FALSE NEIGHBOUR: 'it returns false'. Refute it at one input. -/
def fnExactAffineOpWrong : ChangeSpec := { name := "fnExactAffineOp", fn := fun _ => fun
  | [d] => { results := [.lit (.bool false)], args := [d] }
  | _ => none }
def FnExactAffineOpWrongFalsely : Prop := fnExactAffineOpRow.holds Try.pinned (OpenSpec.ofChange fnExactAffineOpWrong)

/-- 'laws.FnExactExtendPolymorphism': WHATEVER THE INPUT: true; the input reads as it did. -/
def fnExactExtendPolymorphismSpec : ChangeSpec := { name := "fnExactExtendPolymorphism", fn := fun _ => fun
  | [d1, d2, d3, d4] => { results := [.lit (.bool true)], args := [d1, d2, d3, d4] }
  | _ => none }
def fnExactExtendPolymorphismRow : OpenClaim := { program := "ytjggcabkdajfeaa", sum := "d48e982f99b7e47143c568f05a3a4a289a3469b137e1feb2edc10d8110726b29", func := "loop.example/g01078/laws.FnExactExtendPolymorphism", spec := "fnExactExtendPolymorphism", unfollowed := true, recurses := true, apart := false }
def FnExactExtendPolymorphismSaid : Prop := fnExactExtendPolymorphismRow.holds Try.pinned (OpenSpec.ofChange fnExactExtendPolymorphismSpec)

/-- ITS FALSE NEIGHBOUR: 'it returns false'. Refute it at one input. -/
def fnExactExtendPolymorphismWrong : ChangeSpec := { name := "fnExactExtendPolymorphism", fn := fun _ => fun
  | [d1, d2, d3, d4] => { results := [.lit (.bool false)], args := [d1, d2, d3, d4] }
  | _ => none }
def FnExactExtendPolymorphismWrongFalsely : Prop := fnExactExtendPolymorphismRow.holds Try.pinned (OpenSpec.ofChange fnExactExtendPolymorphismWrong)

/-- 'laws.FnExactMajorityPolymorphism': WHATEVER THE INPUT: true; the input reads as it did. -/
def fnExactMajorityPolymorphismSpec : ChangeSpec := { name := "fnExactMajorityPolymorphism", fn := fun _ => fun
  | [d1, d2] => { results := [.lit (.bool true)], args := [d1, d2] }
  | _ => none }
def fnExactMajorityPolymorphismRow : OpenClaim := { program := "ytjggcabkdajfeaa", sum := "d48e982f99b7e47143c568f05a3a4a289a3469b137e1feb2edc10d8110726b29", func := "loop.example/g01078/laws.FnExactMajorityPolymorphism", spec := "fnExactMajorityPolymorphism", unfollowed := true, recurses := true, apart := false }
def FnExactMajorityPolymorphismSaid : Prop := fnExactMajorityPolymorphismRow.holds Try.pinned (OpenSpec.ofChange fnExactMajorityPolymorphismSpec)

/-- ITS FALSE NEIGHBOUR: 'it returns false'. Refute it at one input. -/
def fnExactMajorityPolymorphismWrong : ChangeSpec := { name := "fnExactMajorityPolymorphism", fn := fun _ => fun
  | [d1, d2] => { results := [.lit (.bool false)], args := [d1, d2] }
  | _ => none }
def FnExactMajorityPolymorphismWrongFalsely : Prop := fnExactMajorityPolymorphismRow.holds Try.pinned (OpenSpec.ofChange fnExactMajorityPolymorphismWrong)

/-- 'laws.FnExactMalcevPolymorphism': WHATEVER THE INPUT: true; the input reads as it did. -/
def fnExactMalcevPolymorphismSpec : ChangeSpec := { name := "fnExactMalcevPolymorphism", fn := fun _ => fun
  | [d1, d2] => { results := [.lit (.bool true)], args := [d1, d2] }
  | _ => none }
def fnExactMalcevPolymorphismRow : OpenClaim := { program := "ytjggcabkdajfeaa", sum := "d48e982f99b7e47143c568f05a3a4a289a3469b137e1feb2edc10d8110726b29", func := "loop.example/g01078/laws.FnExactMalcevPolymorphism", spec := "fnExactMalcevPolymorphism", unfollowed := true, recurses := true, apart := false }
def FnExactMalcevPolymorphismSaid : Prop := fnExactMalcevPolymorphismRow.holds Try.pinned (OpenSpec.ofChange fnExactMalcevPolymorphismSpec)

/-- ITS FALSE NEIGHBOUR: 'it returns false'. Refute it at one input. -/
def fnExactMalcevPolymorphismWrong : ChangeSpec := { name := "fnExactMalcevPolymorphism", fn := fun _ => fun
  | [d1, d2] => { results := [.lit (.bool false)], args := [d1, d2] }
  | _ => none }
def FnExactMalcevPolymorphismWrongFalsely : Prop := fnExactMalcevPolymorphismRow.holds Try.pinned (OpenSpec.ofChange fnExactMalcevPolymorphismWrong)

/-- 'laws.FnExactPolymorphismsOf': WHATEVER THE INPUT: true; the input reads as it did. -/
def fnExactPolymorphismsOfSpec : ChangeSpec := { name := "fnExactPolymorphismsOf", fn := fun _ => fun
  | [d1, d2, d3] => { results := [.lit (.bool true)], args := [d1, d2, d3] }
  | _ => none }
def fnExactPolymorphismsOfRow : OpenClaim := { program := "ytjggcabkdajfeaa", sum := "d48e982f99b7e47143c568f05a3a4a289a3469b137e1feb2edc10d8110726b29", func := "loop.example/g01078/laws.FnExactPolymorphismsOf", spec := "fnExactPolymorphismsOf", unfollowed := true, recurses := true, apart := false }
def FnExactPolymorphismsOfSaid : Prop := fnExactPolymorphismsOfRow.holds Try.pinned (OpenSpec.ofChange fnExactPolymorphismsOfSpec)

/-- ITS FALSE NEIGHBOUR: 'it returns false'. Refute it at one input. -/
def fnExactPolymorphismsOfWrong : ChangeSpec := { name := "fnExactPolymorphismsOf", fn := fun _ => fun
  | [d1, d2, d3] => { results := [.lit (.bool false)], args := [d1, d2, d3] }
  | _ => none }
def FnExactPolymorphismsOfWrongFalsely : Prop := fnExactPolymorphismsOfRow.holds Try.pinned (OpenSpec.ofChange fnExactPolymorphismsOfWrong)

/-- 'laws.FnExactCommonPolymorphisms': WHATEVER THE INPUT: true; the input reads as it did. -/
def fnExactCommonPolymorphismsSpec : ChangeSpec := { name := "fnExactCommonPolymorphisms", fn := fun _ => fun
  | [d1, d2, d3, d4] => { results := [.lit (.bool true)], args := [d1, d2, d3, d4] }
  | _ => none }
def fnExactCommonPolymorphismsRow : OpenClaim := { program := "ytjggcabkdajfeaa", sum := "d48e982f99b7e47143c568f05a3a4a289a3469b137e1feb2edc10d8110726b29", func := "loop.example/g01078/laws.FnExactCommonPolymorphisms", spec := "fnExactCommonPolymorphisms", unfollowed := true, recurses := true, apart := false }
def FnExactCommonPolymorphismsSaid : Prop := fnExactCommonPolymorphismsRow.holds Try.pinned (OpenSpec.ofChange fnExactCommonPolymorphismsSpec)

/-- ITS FALSE NEIGHBOUR: 'it returns false'. Refute it at one input. -/
def fnExactCommonPolymorphismsWrong : ChangeSpec := { name := "fnExactCommonPolymorphisms", fn := fun _ => fun
  | [d1, d2, d3, d4] => { results := [.lit (.bool false)], args := [d1, d2, d3, d4] }
  | _ => none }
def FnExactCommonPolymorphismsWrongFalsely : Prop := fnExactCommonPolymorphismsRow.holds Try.pinned (OpenSpec.ofChange fnExactCommonPolymorphismsWrong)

/-- 'laws.FnExactIdempotentPolymorphisms': WHATEVER THE INPUT: true; the input reads as it did. -/
def fnExactIdempotentPolymorphismsSpec : ChangeSpec := { name := "fnExactIdempotentPolymorphisms", fn := fun _ => fun
  | [d1, d2, d3] => { results := [.lit (.bool true)], args := [d1, d2, d3] }
  | _ => none }
def fnExactIdempotentPolymorphismsRow : OpenClaim := { program := "ytjggcabkdajfeaa", sum := "d48e982f99b7e47143c568f05a3a4a289a3469b137e1feb2edc10d8110726b29", func := "loop.example/g01078/laws.FnExactIdempotentPolymorphisms", spec := "fnExactIdempotentPolymorphisms", unfollowed := true, recurses := true, apart := false }
def FnExactIdempotentPolymorphismsSaid : Prop := fnExactIdempotentPolymorphismsRow.holds Try.pinned (OpenSpec.ofChange fnExactIdempotentPolymorphismsSpec)

/-- ITS FALSE NEIGHBOUR: 'it returns false'. Refute it at one input. -/
def fnExactIdempotentPolymorphismsWrong : ChangeSpec := { name := "fnExactIdempotentPolymorphisms", fn := fun _ => fun
  | [d1, d2, d3] => { results := [.lit (.bool false)], args := [d1, d2, d3] }
  | _ => none }
def FnExactIdempotentPolymorphismsWrongFalsely : Prop := fnExactIdempotentPolymorphismsRow.holds Try.pinned (OpenSpec.ofChange fnExactIdempotentPolymorphismsWrong)

/-- 'laws.FnExactCoreMap': WHATEVER THE INPUT: true; the input reads as it did. -/
def fnExactCoreMapSpec : ChangeSpec := { name := "fnExactCoreMap", fn := fun _ => fun
  | [d1, d2] => { results := [.lit (.bool true)], args := [d1, d2] }
  | _ => none }
def fnExactCoreMapRow : OpenClaim := { program := "ytjggcabkdajfeaa", sum := "d48e982f99b7e47143c568f05a3a4a289a3469b137e1feb2edc10d8110726b29", func := "loop.example/g01078/laws.FnExactCoreMap", spec := "fnExactCoreMap", unfollowed := true, recurses := true, apart := false }
def FnExactCoreMapSaid : Prop := fnExactCoreMapRow.holds Try.pinned (OpenSpec.ofChange fnExactCoreMapSpec)

/-- ITS FALSE NEIGHBOUR: 'it returns false'. Refute it at one input. -/
def fnExactCoreMapWrong : ChangeSpec := { name := "fnExactCoreMap", fn := fun _ => fun
  | [d1, d2] => { results := [.lit (.bool false)], args := [d1, d2] }
  | _ => none }
def FnExactCoreMapWrongFalsely : Prop := fnExactCoreMapRow.holds Try.pinned (OpenSpec.ofChange fnExactCoreMapWrong)

/-- 'laws.FnExactCoreTemplate': WHATEVER THE INPUT: true; the input reads as it did. -/
def fnExactCoreTemplateSpec : ChangeSpec := { name := "fnExactCoreTemplate", fn := fun _ => fun
  | [d1, d2] => { results := [.lit (.bool true)], args := [d1, d2] }
  | _ => none }
def fnExactCoreTemplateRow : OpenClaim := { program := "ytjggcabkdajfeaa", sum := "d48e982f99b7e47143c568f05a3a4a289a3469b137e1feb2edc10d8110726b29", func := "loop.example/g01078/laws.FnExactCoreTemplate", spec := "fnExactCoreTemplate", unfollowed := true, recurses := true, apart := false }
def FnExactCoreTemplateSaid : Prop := fnExactCoreTemplateRow.holds Try.pinned (OpenSpec.ofChange fnExactCoreTemplateSpec)

/-- ITS FALSE NEIGHBOUR: 'it returns false'. Refute it at one input. -/
def fnExactCoreTemplateWrong : ChangeSpec := { name := "fnExactCoreTemplate", fn := fun _ => fun
  | [d1, d2] => { results := [.lit (.bool false)], args := [d1, d2] }
  | _ => none }
def FnExactCoreTemplateWrongFalsely : Prop := fnExactCoreTemplateRow.holds Try.pinned (OpenSpec.ofChange fnExactCoreTemplateWrong)

/-- 'laws.FnExactSemilatticePolymorphism': WHATEVER THE INPUT: true; the input reads as it did. -/
def fnExactSemilatticePolymorphismSpec : ChangeSpec := { name := "fnExactSemilatticePolymorphism", fn := fun _ => fun
  | [d1, d2] => { results := [.lit (.bool true)], args := [d1, d2] }
  | _ => none }
def fnExactSemilatticePolymorphismRow : OpenClaim := { program := "ytjggcabkdajfeaa", sum := "d48e982f99b7e47143c568f05a3a4a289a3469b137e1feb2edc10d8110726b29", func := "loop.example/g01078/laws.FnExactSemilatticePolymorphism", spec := "fnExactSemilatticePolymorphism", unfollowed := true, recurses := true, apart := false }
def FnExactSemilatticePolymorphismSaid : Prop := fnExactSemilatticePolymorphismRow.holds Try.pinned (OpenSpec.ofChange fnExactSemilatticePolymorphismSpec)

/-- ITS FALSE NEIGHBOUR: 'it returns false'. Refute it at one input. -/
def fnExactSemilatticePolymorphismWrong : ChangeSpec := { name := "fnExactSemilatticePolymorphism", fn := fun _ => fun
  | [d1, d2] => { results := [.lit (.bool false)], args := [d1, d2] }
  | _ => none }
def FnExactSemilatticePolymorphismWrongFalsely : Prop := fnExactSemilatticePolymorphismRow.holds Try.pinned (OpenSpec.ofChange fnExactSemilatticePolymorphismWrong)

/- THE SECOND FORM. 'bulk': how many values and letters a reading holds, each counted each time it is reached (what is shared counts as often as it is met; a slice's spare places count too). A statement '..UptoSaid' is the law's where the arguments, and the package variables that the reading takes, are together of bulk at most 1048576: NARROWER than '..Said'. Prove '..Said' where nothing that the law and all that it calls make is longer than what came in: it says more and counts as full. Else prove '..UptoSaid'. A law counts once. -/
mutual
def uptoBulk {H : Type} : DataW H → Nat
  | .lit (.string bytes) => bytes.length + 1
  | .lit _ => 1
  | .nil => 1
  | .ptr d => uptoBulk d + 1
  | .slice elems spare => uptoBulkAll elems + uptoBulkAll spare + 1
  | .agg parts => uptoBulkAll parts + 1
  | .iface _ d => uptoBulk d + 1
  | .map entries => uptoBulkEntries entries + 1
  | .held _ => 1
def uptoBulkAll {H : Type} : List (DataW H) → Nat
  | [] => 0
  | d :: r => uptoBulk d + uptoBulkAll r
def uptoBulkEntries {H : Type} : List (Lit × DataW H) → Nat
  | [] => 0
  | x :: r => uptoBulkEntry x + uptoBulkEntries r
def uptoBulkEntry {H : Type} : Lit × DataW H → Nat
  | (.string bytes, d) => bytes.length + uptoBulk d + 1
  | (_, d) => uptoBulk d + 1
 end
def uptoSmall : (H : Type) → List (DataW H) → Bool := fun _ ds => decide (uptoBulkAll ds ≤ 1048576)
def OpenSpec.upto (s : _root_.Go.ChangeSpec) : _root_.Go.OpenSpec := { _root_.Go.OpenSpec.ofChange s with cond := some uptoSmall }

/-- 'laws.FnExactAffineOp', WHERE WHAT IT READS IS OF BULK AT MOST 1048576: true; the input reads as it did. -/
def fnExactAffineOpUptoRow : OpenClaim := { program := "ytjggcabkdajfeaa", sum := "d48e982f99b7e47143c568f05a3a4a289a3469b137e1feb2edc10d8110726b29", func := "loop.example/g01078/laws.FnExactAffineOp", spec := "fnExactAffineOp", unfollowed := true, recurses := true, apart := false, narrowed := true }
def FnExactAffineOpUptoSaid : Prop := fnExactAffineOpUptoRow.holds Try.pinned (OpenSpec.upto fnExactAffineOpSpec)

/-- 'laws.FnExactExtendPolymorphism', WHERE WHAT IT READS IS OF BULK AT MOST 1048576: true; the input reads as it did. -/
def fnExactExtendPolymorphismUptoRow : OpenClaim := { program := "ytjggcabkdajfeaa", sum := "d48e982f99b7e47143c568f05a3a4a289a3469b137e1feb2edc10d8110726b29", func := "loop.example/g01078/laws.FnExactExtendPolymorphism", spec := "fnExactExtendPolymorphism", unfollowed := true, recurses := true, apart := false, narrowed := true }
def FnExactExtendPolymorphismUptoSaid : Prop := fnExactExtendPolymorphismUptoRow.holds Try.pinned (OpenSpec.upto fnExactExtendPolymorphismSpec)

/-- 'laws.FnExactMajorityPolymorphism', WHERE WHAT IT READS IS OF BULK AT MOST 1048576: true; the input reads as it did. -/
def fnExactMajorityPolymorphismUptoRow : OpenClaim := { program := "ytjggcabkdajfeaa", sum := "d48e982f99b7e47143c568f05a3a4a289a3469b137e1feb2edc10d8110726b29", func := "loop.example/g01078/laws.FnExactMajorityPolymorphism", spec := "fnExactMajorityPolymorphism", unfollowed := true, recurses := true, apart := false, narrowed := true }
def FnExactMajorityPolymorphismUptoSaid : Prop := fnExactMajorityPolymorphismUptoRow.holds Try.pinned (OpenSpec.upto fnExactMajorityPolymorphismSpec)

/-- 'laws.FnExactMalcevPolymorphism', WHERE WHAT IT READS IS OF BULK AT MOST 1048576: true; the input reads as it did. -/
def fnExactMalcevPolymorphismUptoRow : OpenClaim := { program := "ytjggcabkdajfeaa", sum := "d48e982f99b7e47143c568f05a3a4a289a3469b137e1feb2edc10d8110726b29", func := "loop.example/g01078/laws.FnExactMalcevPolymorphism", spec := "fnExactMalcevPolymorphism", unfollowed := true, recurses := true, apart := false, narrowed := true }
def FnExactMalcevPolymorphismUptoSaid : Prop := fnExactMalcevPolymorphismUptoRow.holds Try.pinned (OpenSpec.upto fnExactMalcevPolymorphismSpec)

/-- 'laws.FnExactPolymorphismsOf', WHERE WHAT IT READS IS OF BULK AT MOST 1048576: true; the input reads as it did. -/
def fnExactPolymorphismsOfUptoRow : OpenClaim := { program := "ytjggcabkdajfeaa", sum := "d48e982f99b7e47143c568f05a3a4a289a3469b137e1feb2edc10d8110726b29", func := "loop.example/g01078/laws.FnExactPolymorphismsOf", spec := "fnExactPolymorphismsOf", unfollowed := true, recurses := true, apart := false, narrowed := true }
def FnExactPolymorphismsOfUptoSaid : Prop := fnExactPolymorphismsOfUptoRow.holds Try.pinned (OpenSpec.upto fnExactPolymorphismsOfSpec)

/-- 'laws.FnExactCommonPolymorphisms', WHERE WHAT IT READS IS OF BULK AT MOST 1048576: true; the input reads as it did. -/
def fnExactCommonPolymorphismsUptoRow : OpenClaim := { program := "ytjggcabkdajfeaa", sum := "d48e982f99b7e47143c568f05a3a4a289a3469b137e1feb2edc10d8110726b29", func := "loop.example/g01078/laws.FnExactCommonPolymorphisms", spec := "fnExactCommonPolymorphisms", unfollowed := true, recurses := true, apart := false, narrowed := true }
def FnExactCommonPolymorphismsUptoSaid : Prop := fnExactCommonPolymorphismsUptoRow.holds Try.pinned (OpenSpec.upto fnExactCommonPolymorphismsSpec)

/-- 'laws.FnExactIdempotentPolymorphisms', WHERE WHAT IT READS IS OF BULK AT MOST 1048576: true; the input reads as it did. -/
def fnExactIdempotentPolymorphismsUptoRow : OpenClaim := { program := "ytjggcabkdajfeaa", sum := "d48e982f99b7e47143c568f05a3a4a289a3469b137e1feb2edc10d8110726b29", func := "loop.example/g01078/laws.FnExactIdempotentPolymorphisms", spec := "fnExactIdempotentPolymorphisms", unfollowed := true, recurses := true, apart := false, narrowed := true }
def FnExactIdempotentPolymorphismsUptoSaid : Prop := fnExactIdempotentPolymorphismsUptoRow.holds Try.pinned (OpenSpec.upto fnExactIdempotentPolymorphismsSpec)

/-- 'laws.FnExactCoreMap', WHERE WHAT IT READS IS OF BULK AT MOST 1048576: true; the input reads as it did. -/
def fnExactCoreMapUptoRow : OpenClaim := { program := "ytjggcabkdajfeaa", sum := "d48e982f99b7e47143c568f05a3a4a289a3469b137e1feb2edc10d8110726b29", func := "loop.example/g01078/laws.FnExactCoreMap", spec := "fnExactCoreMap", unfollowed := true, recurses := true, apart := false, narrowed := true }
def FnExactCoreMapUptoSaid : Prop := fnExactCoreMapUptoRow.holds Try.pinned (OpenSpec.upto fnExactCoreMapSpec)

/-- 'laws.FnExactCoreTemplate', WHERE WHAT IT READS IS OF BULK AT MOST 1048576: true; the input reads as it did. -/
def fnExactCoreTemplateUptoRow : OpenClaim := { program := "ytjggcabkdajfeaa", sum := "d48e982f99b7e47143c568f05a3a4a289a3469b137e1feb2edc10d8110726b29", func := "loop.example/g01078/laws.FnExactCoreTemplate", spec := "fnExactCoreTemplate", unfollowed := true, recurses := true, apart := false, narrowed := true }
def FnExactCoreTemplateUptoSaid : Prop := fnExactCoreTemplateUptoRow.holds Try.pinned (OpenSpec.upto fnExactCoreTemplateSpec)

/-- 'laws.FnExactSemilatticePolymorphism', WHERE WHAT IT READS IS OF BULK AT MOST 1048576: true; the input reads as it did. -/
def fnExactSemilatticePolymorphismUptoRow : OpenClaim := { program := "ytjggcabkdajfeaa", sum := "d48e982f99b7e47143c568f05a3a4a289a3469b137e1feb2edc10d8110726b29", func := "loop.example/g01078/laws.FnExactSemilatticePolymorphism", spec := "fnExactSemilatticePolymorphism", unfollowed := true, recurses := true, apart := false, narrowed := true }
def FnExactSemilatticePolymorphismUptoSaid : Prop := fnExactSemilatticePolymorphismUptoRow.holds Try.pinned (OpenSpec.upto fnExactSemilatticePolymorphismSpec)

end Rows
end Go.Proofs.Ytjggcabkdajfeaa
