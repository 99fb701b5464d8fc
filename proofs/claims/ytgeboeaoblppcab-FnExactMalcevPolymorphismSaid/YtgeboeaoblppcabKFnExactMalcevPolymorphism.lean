/- FnExactMalcevPolymorphism answers true for every input and leaves it as it was; no conditions. -/
import Derived.Test.YtgeboeaoblppcabPFnExactMalcevPolymorphism
import Derived.Test.YtgeboeaoblppcabHFnExactMalcevPolymorphism
import Derived.Test.YtgeboeaoblppcabRows
import Derived.WalkKit
import Derived.ProofKit
import Derived.OpenShut
import Derived.ShutString
import Derived.ChangeOld
import Derived.Below
set_option linter.all false
namespace Go.Proofs.Ytgeboeaoblppcab
open Go.ChangeShapes Go.WideShapes Go.ChangeAt Go.RowKit Go.Va
theorem ownFnExactMalcevPolymorphism:ownKnob Try.prog.godebug=none:=by kernel_rfl
theorem laidOutFnExactMalcevPolymorphism:laidOutB Try.prog=true:=by kernel_rfl
set_option maxRecDepth 20000 in
theorem walkFnExactMalcevPolymorphism {H:Type} {enc:TypeId×Value->H} (w:World) (base:Nat) (v0:Value) (d0:DataW H) (p0:List MemPlace) (v1:Value) (d1:DataW H) (p1:List MemPlace) (g0:Value.okWide Try.prog w .any base 3 v0) (h0:DataW.Trod enc Try.prog w 0 (λ_=>true) true 3 v0 d0 p0) (g1:Value.okWide Try.prog w .any base 22 v1) (h1:DataW.Trod enc Try.prog w 0 (λ_=>true) true 22 v1 d1 p1):Calls Try.prog 5 #[v0,v1] w λe w'=>e= .returned (.bool true)/\Below w.heap.size w w':=by
 obtain⟨hT,hC⟩:=Yhe T.tabT (cx:=T.C_63) rfl
 obtain⟨x0,dv0,wf0⟩:=Yi6 hT hC (i:= { ty:= .int }) (by kernel_rfl) (by decide) g0 h0
 obtain⟨x1,dv1,wf1⟩:=Yi6 hT hC (i:= { ty:=(.slice (.pair .int (.slice (.slice .int)))),elem:=44 }) (by kernel_rfl) (by decide) g1 h1
 have hb:T.E_63.run (x0,x1)=some (show T.E_63.B from true):=T.FnExactMalcevPolymorphism_law wf0 wf1
 exact YiM T.H_63 (YiK dv0 (YiP dv1)) hb (λ_ _ _ _ h=>Yi1 h)
set_option maxRecDepth 100000 in
theorem liftedFnExactMalcevPolymorphism (os:Os) (started:os.Started) (H:Type) (enc:TypeId×Value->H):
  ReturnsInHanded {} Try.checked os 5 .any (Rows.fnExactMalcevPolymorphismSpec.pre6 enc Try.prog Try.f5 Rows.fnExactMalcevPolymorphismRow.domain false) (Rows.fnExactMalcevPolymorphismSpec.post enc Try.prog Try.f5 false true false false):=by
 refine returnsInHanded_of_change (C:=Try.checked) ownFnExactMalcevPolymorphism started (by kernel_rfl) Try.func5
  (ChangeSpec.witness6 (enc:=enc) (C:=Try.checked) false ⟨#[],#[.int .i64 0,.slice none 0 0],[]⟩ 8 (by kernel_rfl) (by kernel_rfl) (by kernel_rfl) (by kernel_rfl)) ?_
 intro W base args ds gs before hval0 hW hcnd _
 have hval: ∀(j:Nat) t v,Try.f5.params[j]? =some t->args[j]? =some v->Value.okWide Try.prog W .any base t v:=hval0
 have hW':=hW
 obtain⟨p,q,hA0,hV,rfl,hfz,hnd⟩:=hW
 have hA:DataW.TrodAll enc Try.prog W 0 (λ_=>true) true Try.f5.params.toList args.toList ds p:=hA0
 rw[Try.params5]at hA hval
 obtain⟨v0,vs0,d0,ds0,p0,q0,hargs,rfl,rfl,h0,r0⟩:=trodAll_cons hA
 obtain⟨v1,vs1,d1,ds1,p1,q1,rfl,rfl,rfl,h1,r1⟩:=trodAll_cons r0
 obtain⟨rfl,rfl,rfl⟩:=trodAll_nil r1
 obtain rfl:args= #[v0,v1]:=by cases args;simp_all
 obtain⟨rfl,rfl⟩:=trodVars_none hV
 have k0:=h0
 have lt0: ∀x∈p0,x.block<W.heap.size:=by obtain⟨m,hm⟩:=k0;exact DataW.trod_lt m _ _ _ hm
 have k1:=h1
 have lt1: ∀x∈p1,x.block<W.heap.size:=by obtain⟨m,hm⟩:=k1;exact DataW.trod_lt m _ _ _ hm
 refine(walkFnExactMalcevPolymorphism W base v0 d0 p0 v1 d1 p1 (hval 0 3 v0 rfl rfl) h0 (hval 1 22 v1 rfl rfl) h1).mono λe W' ⟨he,bel⟩=>?_
 subst he
 exact⟨_,rfl,_,_,_,[],_,[],hW',trodAll_mk1 (shut_bool Try.underlying4 _),(trodAll_cons_mk (Below.trod laidOutFnExactMalcevPolymorphism (by kernel_rfl) (of_decide_eq_true (by kernel_rfl)) k0 bel lt0) (trodAll_cons_mk (Below.trod laidOutFnExactMalcevPolymorphism (by kernel_rfl) (of_decide_eq_true (by kernel_rfl)) k1 bel lt1) trodAll_mk0)),rfl,bel.frame _,λh=>by cases h⟩
theorem fnExactMalcevPolymorphism_holds:Rows.FnExactMalcevPolymorphismSaid:=
 OpenClaim.holds_of_wide 5 Try.f5 rfl rfl rfl rfl rfl rfl rfl ⟨rfl,rfl,rfl,rfl,rfl⟩ rfl rfl rfl rfl rfl (by kernel_rfl) Try.func5 (by kernel_rfl)
  (of_decide_eq_true (by kernel_rfl)) (by unfold Func.isWrapper;first|(rw[if_pos (by decide+kernel)];kernel_rfl)|(rw[if_neg (by decide+kernel)];exact⟨rfl,rfl⟩))
  (λos started H enc _=>liftedFnExactMalcevPolymorphism os started H enc)
#print axioms fnExactMalcevPolymorphism_holds
end Go.Proofs.Ytgeboeaoblppcab
