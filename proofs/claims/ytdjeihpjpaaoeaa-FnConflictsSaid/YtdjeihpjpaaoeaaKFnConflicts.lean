/- FnConflicts answers true for every input and leaves it as it was; no conditions. -/
import Derived.Test.YtdjeihpjpaaoeaaPFnConflicts
import Derived.Test.YtdjeihpjpaaoeaaHFnConflicts
import Derived.Test.YtdjeihpjpaaoeaaRows
import Derived.WalkKit
import Derived.ProofKit
import Derived.OpenShut
import Derived.ShutString
import Derived.ChangeOld
import Derived.Below
set_option linter.all false
namespace Go.Proofs.Ytdjeihpjpaaoeaa
open Go.ChangeShapes Go.WideShapes Go.ChangeAt Go.RowKit Go.Va
theorem ownFnConflicts : ownKnob Try.prog.godebug = none := by kernel_rfl
theorem laidOutFnConflicts : laidOutB Try.prog = true := by kernel_rfl
set_option maxRecDepth 20000 in
theorem walkFnConflicts {H : Type} {enc : TypeId × Value → H} (w : World) (base : Nat) (v0 : Value) (d0 : DataW H) (p0 : List MemPlace) (g0 : Value.okWide Try.prog w .any base 44 v0) (h0 : DataW.Trod enc Try.prog w 0 (fun _ => true) true 44 v0 d0 p0) : Calls Try.prog 4 #[v0] w fun e w' => e = .returned (.bool true) ∧ Below w.heap.size w w' := by
 obtain ⟨hT, hC⟩ := tabOk_ok T.tabT (cx := T.C_83) rfl
 obtain ⟨x0, dv0, wf0⟩ := arg_dv hT hC (i := { ty := (.slice (.num .u8)), elem := 5 }) (by kernel_rfl) (by decide) g0 h0
 have hb : T.E_83.run x0 = some (show T.E_83.B from true) := T.FnConflicts_law wf0
 exact law_calls T.H_83 (args_one dv0) hb (fun _ _ _ _ h => res_true h)
set_option maxRecDepth 100000 in
theorem liftedFnConflicts (os : Os) (started : os.Started) (H : Type) (enc : TypeId × Value → H) :
    ReturnsInHanded {} Try.checked os 4 .any (Rows.fnConflictsSpec.pre6 enc Try.prog Try.f4 Rows.fnConflictsRow.domain false) (Rows.fnConflictsSpec.post enc Try.prog Try.f4 false true false false) := by
  refine returnsInHanded_of_change (C := Try.checked) ownFnConflicts started (by kernel_rfl) Try.func4
    (ChangeSpec.witness6 (enc := enc) (C := Try.checked) false ⟨#[], #[.slice none 0 0], []⟩ 8 (by kernel_rfl) (by kernel_rfl) (by kernel_rfl) (by kernel_rfl)) ?_
  intro W base args ds gs before hval0 hW hcnd _
  have hval : ∀ (j : Nat) t v, Try.f4.params[j]? = some t → args[j]? = some v → Value.okWide Try.prog W .any base t v := hval0
  have hW' := hW
  obtain ⟨p, q, hA0, hV, rfl, hfz, hnd⟩ := hW
  have hA : DataW.TrodAll enc Try.prog W 0 (fun _ => true) true Try.f4.params.toList args.toList ds p := hA0
  rw [Try.params4] at hA hval
  obtain ⟨v0, vs0, d0, ds0, p0, q0, hargs, rfl, rfl, h0, r0⟩ := trodAll_cons hA
  obtain ⟨rfl, rfl, rfl⟩ := trodAll_nil r0
  obtain rfl : args = #[v0] := by cases args; simp_all
  obtain ⟨rfl, rfl⟩ := trodVars_none hV
  have k0 := h0
  have lt0 : ∀ x ∈ p0, x.block < W.heap.size := by obtain ⟨m, hm⟩ := k0; exact DataW.trod_lt m _ _ _ hm
  refine (walkFnConflicts W base v0 d0 p0 (hval 0 44 v0 rfl rfl) h0).mono fun e W' ⟨he, bel⟩ => ?_
  subst he
  exact ⟨_, rfl, _, _, _, [], _, [], hW', trodAll_mk1 (shut_bool Try.underlying4 _), (trodAll_cons_mk (Below.trod laidOutFnConflicts (by kernel_rfl) (of_decide_eq_true (by kernel_rfl)) k0 bel lt0) trodAll_mk0), rfl, bel.frame _, fun h => by cases h⟩
theorem fnConflicts_holds : Rows.FnConflictsSaid :=
 OpenClaim.holds_of_wide 4 Try.f4 rfl rfl rfl rfl rfl rfl rfl ⟨rfl, rfl, rfl, rfl, rfl⟩ rfl rfl rfl rfl rfl (by kernel_rfl) Try.func4 (by kernel_rfl)
  (of_decide_eq_true (by kernel_rfl)) (by unfold Func.isWrapper; first | (rw [if_pos (by decide +kernel)]; kernel_rfl) | (rw [if_neg (by decide +kernel)]; exact ⟨rfl, rfl⟩))
  (fun os started H enc _ => liftedFnConflicts os started H enc)
#print axioms fnConflicts_holds
end Go.Proofs.Ytdjeihpjpaaoeaa
