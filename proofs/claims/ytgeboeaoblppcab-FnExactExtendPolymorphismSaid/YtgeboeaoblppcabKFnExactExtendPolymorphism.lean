/- FnExactExtendPolymorphism answers true for every input and leaves it as it was; no conditions. -/
import Derived.Test.YtgeboeaoblppcabPFnExactExtendPolymorphism
import Derived.Test.YtgeboeaoblppcabHFnExactExtendPolymorphism
import Derived.Test.YtgeboeaoblppcabRows
import Derived.WalkKit
import Derived.ProofKit
import Derived.OpenShut
import Derived.ShutString
import Derived.ChangeOld
import Derived.Below
set_option linter.all false
namespace Go.Proofs.Ytgeboeaoblppcab
open Go.ChangeShapes Go.WideShapes Go.ChangeAt Go.RowKit Go.Va
theorem ownFnExactExtendPolymorphism:ownKnob Try.prog.godebug=none:=by kernel_rfl
theorem laidOutFnExactExtendPolymorphism:laidOutB Try.prog=true:=by kernel_rfl
set_option maxRecDepth 20000 in
theorem walkFnExactExtendPolymorphism {H:Type} {enc:TypeId×Value->H} (w:World) (base:Nat) (v0:Value) (d0:DataW H) (p0:List MemPlace) (v1:Value) (d1:DataW H) (p1:List MemPlace) (v2:Value) (d2:DataW H) (p2:List MemPlace) (v3:Value) (d3:DataW H) (p3:List MemPlace) (g0:Value.okWide Try.prog w .any base 3 v0) (h0:DataW.Trod enc Try.prog w 0 (λ_=>true) true 3 v0 d0 p0) (g1:Value.okWide Try.prog w .any base 22 v1) (h1:DataW.Trod enc Try.prog w 0 (λ_=>true) true 22 v1 d1 p1) (g2:Value.okWide Try.prog w .any base 3 v2) (h2:DataW.Trod enc Try.prog w 0 (λ_=>true) true 3 v2 d2 p2) (g3:Value.okWide Try.prog w .any base 23 v3) (h3:DataW.Trod enc Try.prog w 0 (λ_=>true) true 23 v3 d3 p3):Calls Try.prog 3 #[v0,v1,v2,v3] w λe w'=>e= .returned (.bool true)/\Below w.heap.size w w':=by
 obtain⟨hT,hC⟩:=Yhe T.tabT (cx:=T.C_62) rfl
 obtain⟨x0,dv0,wf0⟩:=Yi6 hT hC (i:= { ty:= .int }) (by kernel_rfl) (by decide) g0 h0
 obtain⟨x1,dv1,wf1⟩:=Yi6 hT hC (i:= { ty:=(.slice (.pair .int (.slice (.slice .int)))),elem:=44 }) (by kernel_rfl) (by decide) g1 h1
 obtain⟨x2,dv2,wf2⟩:=Yi6 hT hC (i:= { ty:= .int }) (by kernel_rfl) (by decide) g2 h2
 obtain⟨x3,dv3,wf3⟩:=Yi6 hT hC (i:= { ty:=(.slice .int),elem:=3 }) (by kernel_rfl) (by decide) g3 h3
 have hb:T.E_62.run (x0,(x1,(x2,x3)))=some (show T.E_62.B from true):=T.FnExactExtendPolymorphism_law wf0 wf1 wf2 wf3
 exact YiM T.H_62 (YiK dv0 (YiK dv1 (YiK dv2 (YiP dv3)))) hb (λ_ _ _ _ h=>Yi1 h)
set_option maxRecDepth 100000 in
theorem liftedFnExactExtendPolymorphism (os:Os) (started:os.Started) (H:Type) (enc:TypeId×Value->H):
  ReturnsInHanded {} Try.checked os 3 .any (Rows.fnExactExtendPolymorphismSpec.pre6 enc Try.prog Try.f3 Rows.fnExactExtendPolymorphismRow.domain false) (Rows.fnExactExtendPolymorphismSpec.post enc Try.prog Try.f3 false true false false):=by
 refine returnsInHanded_of_change (C:=Try.checked) ownFnExactExtendPolymorphism started (by kernel_rfl) Try.func3
  (ChangeSpec.witness6 (enc:=enc) (C:=Try.checked) false ⟨#[],#[.int .i64 0,.slice none 0 0,.int .i64 0,.slice none 0 0],[]⟩ 8 (by kernel_rfl) (by kernel_rfl) (by kernel_rfl) (by kernel_rfl)) ?_
 intro W base args ds gs before hval0 hW hcnd _
 have hval: ∀(j:Nat) t v,Try.f3.params[j]? =some t->args[j]? =some v->Value.okWide Try.prog W .any base t v:=hval0
 have hW':=hW
 obtain⟨p,q,hA0,hV,rfl,hfz,hnd⟩:=hW
 have hA:DataW.TrodAll enc Try.prog W 0 (λ_=>true) true Try.f3.params.toList args.toList ds p:=hA0
 rw[Try.params3]at hA hval
 obtain⟨v0,vs0,d0,ds0,p0,q0,hargs,rfl,rfl,h0,r0⟩:=trodAll_cons hA
 obtain⟨v1,vs1,d1,ds1,p1,q1,rfl,rfl,rfl,h1,r1⟩:=trodAll_cons r0
 obtain⟨v2,vs2,d2,ds2,p2,q2,rfl,rfl,rfl,h2,r2⟩:=trodAll_cons r1
 obtain⟨v3,vs3,d3,ds3,p3,q3,rfl,rfl,rfl,h3,r3⟩:=trodAll_cons r2
 obtain⟨rfl,rfl,rfl⟩:=trodAll_nil r3
 obtain rfl:args= #[v0,v1,v2,v3]:=by cases args;simp_all
 obtain⟨rfl,rfl⟩:=trodVars_none hV
 have k0:=h0
 have lt0: ∀x∈p0,x.block<W.heap.size:=by obtain⟨m,hm⟩:=k0;exact DataW.trod_lt m _ _ _ hm
 have k1:=h1
 have lt1: ∀x∈p1,x.block<W.heap.size:=by obtain⟨m,hm⟩:=k1;exact DataW.trod_lt m _ _ _ hm
 have k2:=h2
 have lt2: ∀x∈p2,x.block<W.heap.size:=by obtain⟨m,hm⟩:=k2;exact DataW.trod_lt m _ _ _ hm
 have k3:=h3
 have lt3: ∀x∈p3,x.block<W.heap.size:=by obtain⟨m,hm⟩:=k3;exact DataW.trod_lt m _ _ _ hm
 refine(walkFnExactExtendPolymorphism W base v0 d0 p0 v1 d1 p1 v2 d2 p2 v3 d3 p3 (hval 0 3 v0 rfl rfl) h0 (hval 1 22 v1 rfl rfl) h1 (hval 2 3 v2 rfl rfl) h2 (hval 3 23 v3 rfl rfl) h3).mono λe W' ⟨he,bel⟩=>?_
 subst he
 exact⟨_,rfl,_,_,_,[],_,[],hW',trodAll_mk1 (shut_bool Try.underlying4 _),(trodAll_cons_mk (Below.trod laidOutFnExactExtendPolymorphism (by kernel_rfl) (of_decide_eq_true (by kernel_rfl)) k0 bel lt0) (trodAll_cons_mk (Below.trod laidOutFnExactExtendPolymorphism (by kernel_rfl) (of_decide_eq_true (by kernel_rfl)) k1 bel lt1) (trodAll_cons_mk (Below.trod laidOutFnExactExtendPolymorphism (by kernel_rfl) (of_decide_eq_true (by kernel_rfl)) k2 bel lt2) (trodAll_cons_mk (Below.trod laidOutFnExactExtendPolymorphism (by kernel_rfl) (of_decide_eq_true (by kernel_rfl)) k3 bel lt3) trodAll_mk0)))),rfl,bel.frame _,λh=>by cases h⟩
theorem fnExactExtendPolymorphism_holds:Rows.FnExactExtendPolymorphismSaid:=
 OpenClaim.holds_of_wide 3 Try.f3 rfl rfl rfl rfl rfl rfl rfl ⟨rfl,rfl,rfl,rfl,rfl⟩ rfl rfl rfl rfl rfl (by kernel_rfl) Try.func3 (by kernel_rfl)
  (of_decide_eq_true (by kernel_rfl)) (by unfold Func.isWrapper;first|(rw[if_pos (by decide+kernel)];kernel_rfl)|(rw[if_neg (by decide+kernel)];exact⟨rfl,rfl⟩))
  (λos started H enc _=>liftedFnExactExtendPolymorphism os started H enc)
#print axioms fnExactExtendPolymorphism_holds
end Go.Proofs.Ytgeboeaoblppcab
