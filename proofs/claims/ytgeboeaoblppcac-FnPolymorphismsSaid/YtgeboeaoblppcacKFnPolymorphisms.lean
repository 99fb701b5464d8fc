/- FnPolymorphisms answers true for every input and leaves it as it was; no conditions. -/
import Derived.Test.YtgeboeaoblppcacPFnPolymorphisms
import Derived.Test.YtgeboeaoblppcacHFnPolymorphisms
import Derived.Test.YtgeboeaoblppcacRows
import Derived.WalkKit
import Derived.ProofKit
import Derived.OpenShut
import Derived.ShutString
import Derived.ChangeOld
import Derived.Below
set_option linter.all false
namespace Go.Proofs.Ytgeboeaoblppcac
open Go.ChangeShapes Go.WideShapes Go.ChangeAt Go.RowKit Go.Va
theorem ownFnPolymorphisms:ownKnob Try.prog.godebug=none:=by kernel_rfl
theorem laidOutFnPolymorphisms:laidOutB Try.prog=true:=by kernel_rfl
set_option maxRecDepth 20000 in
theorem walkFnPolymorphisms {H:Type} {enc:TypeId×Value->H} (w:World) (base:Nat) (v0:Value) (d0:DataW H) (p0:List MemPlace) (g0:Value.okWide Try.prog w .any base 22 v0) (h0:DataW.Trod enc Try.prog w 0 (λ_=>true) true 22 v0 d0 p0):Calls Try.prog 4 #[v0] w λe w'=>e= .returned (.bool true)/\Below w.heap.size w w':=by
 obtain⟨hT,hC⟩:=Yhe T.tabT (cx:=T.C_94) rfl
 obtain⟨x0,dv0,wf0⟩:=Yi6 hT hC (i:= { ty:=(.slice (.num .u8)),elem:=5 }) (by kernel_rfl) (by decide) g0 h0
 have hb:T.E_94.run x0=some (show T.E_94.B from true):=T.FnPolymorphisms_law wf0
 exact YiM T.H_94 (YiP dv0) hb (λ_ _ _ _ h=>Yi1 h)
set_option maxRecDepth 100000 in
theorem liftedFnPolymorphisms (os:Os) (started:os.Started) (H:Type) (enc:TypeId×Value->H):
  ReturnsInHanded {} Try.checked os 4 .any (Rows.fnPolymorphismsSpec.pre6 enc Try.prog Try.f4 Rows.fnPolymorphismsRow.domain false) (Rows.fnPolymorphismsSpec.post enc Try.prog Try.f4 false true false false):=by
 refine returnsInHanded_of_change (C:=Try.checked) ownFnPolymorphisms started (by kernel_rfl) Try.func4
  (ChangeSpec.witness6 (enc:=enc) (C:=Try.checked) false ⟨#[],#[.slice none 0 0],[]⟩ 8 (by kernel_rfl) (by kernel_rfl) (by kernel_rfl) (by kernel_rfl)) ?_
 intro W base args ds gs before hval0 hW hcnd _
 have hval: ∀(j:Nat) t v,Try.f4.params[j]? =some t->args[j]? =some v->Value.okWide Try.prog W .any base t v:=hval0
 have hW':=hW
 obtain⟨p,q,hA0,hV,rfl,hfz,hnd⟩:=hW
 have hA:DataW.TrodAll enc Try.prog W 0 (λ_=>true) true Try.f4.params.toList args.toList ds p:=hA0
 rw[Try.params4]at hA hval
 obtain⟨v0,vs0,d0,ds0,p0,q0,hargs,rfl,rfl,h0,r0⟩:=trodAll_cons hA
 obtain⟨rfl,rfl,rfl⟩:=trodAll_nil r0
 obtain rfl:args= #[v0]:=by cases args;simp_all
 obtain⟨rfl,rfl⟩:=trodVars_none hV
 have k0:=h0
 have lt0: ∀x∈p0,x.block<W.heap.size:=by obtain⟨m,hm⟩:=k0;exact DataW.trod_lt m _ _ _ hm
 refine(walkFnPolymorphisms W base v0 d0 p0 (hval 0 22 v0 rfl rfl) h0).mono λe W' ⟨he,bel⟩=>?_
 subst he
 exact⟨_,rfl,_,_,_,[],_,[],hW',trodAll_mk1 (shut_bool Try.underlying4 _),(trodAll_cons_mk (Below.trod laidOutFnPolymorphisms (by kernel_rfl) (of_decide_eq_true (by kernel_rfl)) k0 bel lt0) trodAll_mk0),rfl,bel.frame _,λh=>by cases h⟩
theorem fnPolymorphisms_holds:Rows.FnPolymorphismsSaid:=
 OpenClaim.holds_of_wide 4 Try.f4 rfl rfl rfl rfl rfl rfl rfl ⟨rfl,rfl,rfl,rfl,rfl⟩ rfl rfl rfl rfl rfl (by kernel_rfl) Try.func4 (by kernel_rfl)
  (of_decide_eq_true (by kernel_rfl)) (by unfold Func.isWrapper;first|(rw[if_pos (by decide+kernel)];kernel_rfl)|(rw[if_neg (by decide+kernel)];exact⟨rfl,rfl⟩))
  (λos started H enc _=>liftedFnPolymorphisms os started H enc)
#print axioms fnPolymorphisms_holds
end Go.Proofs.Ytgeboeaoblppcac
