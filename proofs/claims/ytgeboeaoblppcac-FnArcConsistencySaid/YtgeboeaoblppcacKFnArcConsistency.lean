/- FnArcConsistency answers true for every input and leaves it as it was; no conditions. -/
import Derived.Test.YtgeboeaoblppcacPFnArcConsistency
import Derived.Test.YtgeboeaoblppcacHFnArcConsistency
import Derived.Test.YtgeboeaoblppcacRows
import Derived.WalkKit
import Derived.ProofKit
import Derived.OpenShut
import Derived.ShutString
import Derived.ChangeOld
import Derived.Below
set_option linter.all false
namespace Go.Proofs.Ytgeboeaoblppcac
open Go.ChangeShapes Go.WideShapes Go.ChangeAt Go.RowKit Go.Va
theorem ownFnArcConsistency:ownKnob Try.prog.godebug=none:=by kernel_rfl
theorem laidOutFnArcConsistency:laidOutB Try.prog=true:=by kernel_rfl
set_option maxRecDepth 20000 in
theorem walkFnArcConsistency {H:Type} {enc:TypeId×Value->H} (w:World) (base:Nat) (v0:Value) (d0:DataW H) (p0:List MemPlace) (g0:Value.okWide Try.prog w .any base 22 v0) (h0:DataW.Trod enc Try.prog w 0 (λ_=>true) true 22 v0 d0 p0):Calls Try.prog 3 #[v0] w λe w'=>e= .returned (.bool true)/\Below w.heap.size w w':=by
 obtain⟨hT,hC⟩:=Yhe T.tabT (cx:=T.C_97) rfl
 obtain⟨x0,dv0,wf0⟩:=Yi6 hT hC (i:= { ty:=(.slice (.num .u8)),elem:=5 }) (by kernel_rfl) (by decide) g0 h0
 have hb:T.E_97.run x0=some (show T.E_97.B from true):=T.FnArcConsistency_law wf0
 exact YiM T.H_97 (YiP dv0) hb (λ_ _ _ _ h=>Yi1 h)
set_option maxRecDepth 100000 in
theorem liftedFnArcConsistency (os:Os) (started:os.Started) (H:Type) (enc:TypeId×Value->H):
  ReturnsInHanded {} Try.checked os 3 .any (Rows.fnArcConsistencySpec.pre6 enc Try.prog Try.f3 Rows.fnArcConsistencyRow.domain false) (Rows.fnArcConsistencySpec.post enc Try.prog Try.f3 false true false false):=by
 refine returnsInHanded_of_change (C:=Try.checked) ownFnArcConsistency started (by kernel_rfl) Try.func3
  (ChangeSpec.witness6 (enc:=enc) (C:=Try.checked) false ⟨#[],#[.slice none 0 0],[]⟩ 8 (by kernel_rfl) (by kernel_rfl) (by kernel_rfl) (by kernel_rfl)) ?_
 intro W base args ds gs before hval0 hW hcnd _
 have hval: ∀(j:Nat) t v,Try.f3.params[j]? =some t->args[j]? =some v->Value.okWide Try.prog W .any base t v:=hval0
 have hW':=hW
 obtain⟨p,q,hA0,hV,rfl,hfz,hnd⟩:=hW
 have hA:DataW.TrodAll enc Try.prog W 0 (λ_=>true) true Try.f3.params.toList args.toList ds p:=hA0
 rw[Try.params3]at hA hval
 obtain⟨v0,vs0,d0,ds0,p0,q0,hargs,rfl,rfl,h0,r0⟩:=trodAll_cons hA
 obtain⟨rfl,rfl,rfl⟩:=trodAll_nil r0
 obtain rfl:args= #[v0]:=by cases args;simp_all
 obtain⟨rfl,rfl⟩:=trodVars_none hV
 have k0:=h0
 have lt0: ∀x∈p0,x.block<W.heap.size:=by obtain⟨m,hm⟩:=k0;exact DataW.trod_lt m _ _ _ hm
 refine(walkFnArcConsistency W base v0 d0 p0 (hval 0 22 v0 rfl rfl) h0).mono λe W' ⟨he,bel⟩=>?_
 subst he
 exact⟨_,rfl,_,_,_,[],_,[],hW',trodAll_mk1 (shut_bool Try.underlying4 _),(trodAll_cons_mk (Below.trod laidOutFnArcConsistency (by kernel_rfl) (of_decide_eq_true (by kernel_rfl)) k0 bel lt0) trodAll_mk0),rfl,bel.frame _,λh=>by cases h⟩
theorem fnArcConsistency_holds:Rows.FnArcConsistencySaid:=
 OpenClaim.holds_of_wide 3 Try.f3 rfl rfl rfl rfl rfl rfl rfl ⟨rfl,rfl,rfl,rfl,rfl⟩ rfl rfl rfl rfl rfl (by kernel_rfl) Try.func3 (by kernel_rfl)
  (of_decide_eq_true (by kernel_rfl)) (by unfold Func.isWrapper;first|(rw[if_pos (by decide+kernel)];kernel_rfl)|(rw[if_neg (by decide+kernel)];exact⟨rfl,rfl⟩))
  (λos started H enc _=>liftedFnArcConsistency os started H enc)
#print axioms fnArcConsistency_holds
end Go.Proofs.Ytgeboeaoblppcac
