/- A call of a function is sound, by its contract; no conditions. -/
import Derived.Test.YtgeboeaoblppcacV2
set_option linter.unusedVariables false
set_option linter.unusedSimpArgs false
namespace Go.Va
section
variable {w:World} {F:Fp} {H V:Store} {loc:Loc} {fp:Nat->Fp}
def Back (w:World) (F:Fp) (l:Value) (fr:Fp) (e':Ty) (d':Nat) (xs:List e'.den) (p:List PE) (e:Ty) (d:Nat) (v:Value) (fa:Fp):Prop:=
 ∀(w':World) (F':Fp) (y:List e.den) (f':Fp) (zs:List e'.den),(∀m,F m->w'.heap[m]? =w.heap[m]?)->(∀m,fr m-> ¬fa m->w'.heap[m]? =w.heap[m]?)->(∀m,F m->F' m)->
  (∀m,f' m->fr m->fa m)->Rep w' F' (.slice e) (d+1) [v] y f'->XR (.slice e') (d'+1) xs p (.slice e) y=some zs->
  Rep w' F' (.slice e') (d'+1) [l] zs (λn=>(fr n/\ ¬fa n)∨f' n)/\List.length zs=List.length xs
theorem Rep.length {e:Ty} {d d2:Nat} {v:Value} {w2:World} {F2:Fp} {xs ys:List e.den} {f f2:Fp} (h:Rep w F (.slice e) (d+1) [v] xs f) (h2:Rep w2 F2 (.slice e) (d2+1) [v] ys f2):xs.length=ys.length:=by
 rcases Cont.of_own h with ⟨h1,rfl,_⟩|⟨b,cap,_,_,h1,_⟩
 ·rcases Cont.of_own h2 with ⟨_,rfl,_⟩|⟨b,cap,_,_,h3,_⟩
  ·rfl
  ·rw[h1]at h3;cases h3
 ·rcases Cont.of_own h2 with ⟨h3,rfl,_⟩|⟨b,cap,_,_,h3,_⟩
  ·rw[h1]at h3;cases h3
  ·rw[h1]at h3;injection h3
theorem YhD (hR:Roots w F H loc fp) (hV:View V H) {r ver:Nat} {p:List PE} {v:Value} (hc:AVC w F H loc (.ref r ver p) [v]) {g:Got} (hg:YX V (.ref r ver p)=some g) {e:Ty} {d:Nat} (hd:g.d=d+1) (ht:g.t= .slice e):
  ∃e' d' xs ver' pin fa,V r= .arr e' d' xs ver' pin/\Rep w F g.t g.d [v] g.x fa/\(∀n,fa n->fp r n)/\Back w F (loc r) (fp r) e' d' xs p e d v fa:=by
 obtain⟨v',hv',hv⟩:=hc
 have hv':v'=v:=by simpa using hv'.symm
 subst hv'
 simp only[YX]at hg
 split at hg
 ·rename_i e' d' xs ver' pin hVr
  have hHr:=hV.arr hVr (by simp)
  have hok:=hR.ok r
  rw[hHr]at hok
  obtain⟨_,hv⟩:=hv
  rw[hHr]at hv
  split at hg
  ·simp only[Option.some.injEq]at hg
   subst hg
   have:=hv.2.1 rfl;subst this
   injection ht with ht
   subst ht
   simp only[Nat.add_right_cancel_iff]at hd
   subst hd
   refine⟨e',d',xs,ver',pin,fp r,hVr,hok,λ_ h=>h,?_⟩
   intro w' F' y f' zs hk1 hk2 hm ha hr hz
   simp only[XR]at hz
   have:=YM hz
   subst this
   refine⟨Rep.fpEq hr λn=>⟨.inr,λh=>h.elim (λh=>absurd h.1 h.2) id⟩,(Rep.length hok hr).symm⟩
  ·rename_i hp
   split at hg
   rotate_left
   ·cases hg
   rename_i hver
   obtain⟨hin,b,o,ha,hcell,_⟩:=hv.2.2 hp hver
   cases p with
   |nil=>exact absurd rfl hp
   |cons q p=>
    cases q with
    |fst=>simp[InB]at hin
    |snd=>simp[InB]at hin
    |idx i=>
     obtain⟨b',o',f,ha',hA,hf,hb',hupd⟩:=YaG (XG p) i w F e' d' (loc r) xs (fp r) g hok hin hg
     rw[ha]at ha';injection ha' with ha';injection ha' with e1 e2;subst e1;subst e2
     obtain⟨gt,gd,gx⟩:=g
     dsimp only at ht hd;subst ht;subst hd
     obtain⟨h,hh,hr⟩:=hA.hdr
     rw[hcell]at hh;injection hh with hh;subst hh
     obtain⟨c,hbc,hroom,_,hnb⟩:=hA
     refine⟨e',d',xs,ver',pin,f,hVr,hr,hf,?_⟩
     intro w' F' y f' zs hk1 hk2 hm hap hr' hz
     have hbw:w'.heap[b]? =w.heap[b]? :=hk2 b hb' hnb
     refine⟨hupd w' F' [v'] y f' zs ⟨hk1,λm h1 _ h3=>hk2 m h1 h3,?_,hm,λm h1 h2=>hap m h1 h2,λh=>hnb (hap b h hb')⟩ hr' hz,YcR hz⟩
     refine⟨c,c,hbc,hbc.keep hbw,rfl,λ_ _=>rfl,?_⟩
     simp only[Ty.cells]at hroom⊢
     have hlt:o<c.length:=by omega
     have e1:(c.drop o).take 1= [c[o]]:=by rw[List.drop_eq_getElem_cons hlt];rfl
     have:=hbc.lies o
     rw[hcell,List.getElem?_eq_getElem hlt]at this
     injection this with this
     rw[this];exact e1
 ·split at hg
  ·simp only[Option.some.injEq]at hg
   subst hg
   cases hd
  ·cases hg
 ·cases hg
end
end Go.Va
namespace Go.Va
section
variable {P:Program} {w w':World} {F F1 F2:Fp} {H V:Store} {loc:Loc} {fp fp1 fp2:Nat->Fp}
theorem Yy: ∀(u:Ups) {H:Store} {r:Nat},(∀q∈u,q.1≠r)->(H.upd u) r=H r
 | [],_,_,_=>rfl
 |(r',R)::u,H,r,h=>by
  have:=Yy u (H:=H.set r' R) (r:=r) λq hq=>h q (List.mem_cons_of_mem _ hq)
  have hr:r≠r':=λe=>h (r',R) (List.mem_cons_self ..) e.symm
  exact this.trans (Store.set_other _ _ hr)
theorem YD: ∀(a:AV) {V:Store} {t:Ty} {d:Nat} {x:t.den} {u:Ups},Ya V a t d=some (x,u)-> ∀q∈u,q.1∈Yj a
 | .nils,V,t,d,x,u,h=>by
  cases t with
  |slice e=>simp only[Ya,Option.some.injEq,Prod.mk.injEq]at h;obtain⟨_,rfl⟩:=h;simp
  |_=>simp[Ya]at h
 | .val s y,V,t,d,x,u,h=>by
  simp only[Ya]at h
  split at h
  rotate_left
  ·cases h
  split at h
  rotate_left
  ·cases h
  simp only[Option.some.injEq,Prod.mk.injEq]at h
  obtain⟨_,rfl⟩:=h;simp
 | .pr a b,V,t,d,x,u,h=>by
  cases t with
  |pair s s'=>
   simp only[Ya]at h
   split at h
   rotate_left
   ·cases h
   rename_i x1 u1 h1
   split at h
   rotate_left
   ·cases h
   rename_i x2 u2 h2
   simp only[Option.some.injEq,Prod.mk.injEq]at h
   obtain⟨_,rfl⟩:=h
   intro q hq
   simp only[Yj,List.mem_append]
   rcases List.mem_append.1 hq with hq|hq
   ·exact .inl (YD a h1 q hq)
   ·exact .inr (YD b h2 q hq)
  |_=>simp[Ya]at h
 | .ref r ver [],V,t,d,x,u,h=>by
  cases t with
  |slice e=>
   simp only[Ya]at h
   split at h
   ·split at h
    rotate_left
    ·cases h
    cases d with
    |zero=>
     simp only[Option.some.injEq,Prod.mk.injEq]at h
     obtain⟨_,rfl⟩:=h
     intro q hq;simp at hq;subst hq;simp[Yj]
    |succ d=>
     dsimp only at h
     split at h
     rotate_left
     ·cases h
     simp only[Option.some.injEq,Prod.mk.injEq]at h
     obtain⟨_,rfl⟩:=h
     intro q hq;simp at hq;subst hq;simp[Yj]
   ·cases d with
    |zero=>
     simp only at h
     split at h
     rotate_left
     ·cases h
     simp only[Option.some.injEq,Prod.mk.injEq]at h
     obtain⟨_,rfl⟩:=h;simp
    |succ d=>simp at h
   ·split at h
    rotate_left
    ·cases h
    match d with
    |0=>
     simp only[Option.some.injEq,Prod.mk.injEq]at h
     obtain⟨_,rfl⟩:=h
     intro q hq;simp at hq;subst hq;simp[Yj]
    |1=>
     simp only[Option.some.injEq,Prod.mk.injEq]at h
     obtain⟨_,rfl⟩:=h
     intro q hq;simp at hq;subst hq;simp[Yj]
    |d+2=>cases h
   ·cases h
  |smap kd=>
   simp only[Ya]at h
   split at h
   rotate_left
   ·cases h
   split at h
   ·cases h;intro q hq;simp at hq;subst hq;simp[Yj]
   ·cases h
  |_=>simp[Ya]at h
 | .ref r ver [.idx j],V,.slice e,d+1,x,u,h=>by
  simp only[Ya]at h
  split at h
  rotate_left
  ·cases h
  split at h
  rotate_left
  ·cases h
  split at h
  rotate_left
  ·cases h
  cases h
  intro q hq;simp at hq;subst hq;simp[Yj]
 | .ref r ver (q::p),V,.slice e,0,x,u,h=>by
  simp only[Ya]at h
  split at h
  rotate_left
  ·cases h
  split at h
  rotate_left
  ·cases h
  split at h
  rotate_left
  ·cases h
  split at h
  rotate_left
  ·cases h
  cases h
  intro q hq;simp at hq;subst hq;simp[Yj]
 | .ref r ver (q::p),_,.num _,_,_,_,ht=>by simp[Ya]at ht
 | .ref r ver (q::p),_,.bool,_,_,_,ht=>by simp[Ya]at ht
 | .ref r ver (q::p),_,.str,_,_,_,ht=>by simp[Ya]at ht
 | .ref r ver (q::p),_,.pair _ _,_,_,_,ht=>by simp[Ya]at ht
 | .ref r ver (q::p),_,.fn _,_,_,_,ht=>by simp[Ya]at ht
 | .ref r ver (q::p),_,.smap _,_,_,_,ht=>by simp[Ya]at ht
 | .ref r ver (q::p),_,.op _,_,_,_,ht=>by simp[Ya]at ht
 | .ref r ver (q::p),_,.ptr _,_,_,_,ht=>by simp[Ya]at ht
 | .ref r ver (q::p),_,.fc _ _,_,_,_,ht=>by simp[Ya]at ht
 | .ref r ver (.fst::p),V,.slice e,d+1,_,_,ht=>by simp[Ya]at ht
 | .ref r ver (.snd::p),V,.slice e,d+1,_,_,ht=>by simp[Ya]at ht
 | .ref r ver (.idx j:: .snd::p),V,.slice e,d+1,_,_,ht=>by simp[Ya]at ht
 | .ref r ver (.idx j:: .idx _::p),V,.slice e,d+1,_,_,ht=>by simp[Ya]at ht
 | .ref r ver (.idx j:: .fst::q::p),V,.slice e,d+1,_,_,ht=>by simp[Ya]at ht
 | .ref r ver [.idx j,.fst],V,.slice e,d+1,x,u,ht=>by
  simp only[Ya]at ht
  split at ht
  rotate_left
  ·cases ht
  split at ht
  rotate_left
  ·cases ht
  split at ht
  rotate_left
  ·cases ht
  cases ht
  intro q hq;simp at hq;subst hq;simp[Yj]
 | .clo _ _,V,t,_,_,_,ht=>by cases t<;>simp[Ya]at ht
 | .un,V,t,_,_,_,ht=>by cases t<;>simp[Ya]at ht
 | .jk _,V,t,_,_,_,ht=>by cases t<;>simp[Ya]at ht
 | .ptr _ _ _ _,V,t,_,_,_,ht=>by cases t<;>simp[Ya]at ht
 | .bptr _ _,V,t,_,_,_,ht=>by cases t<;>simp[Ya]at ht
 | .vptr _ _,V,t,_,_,_,ht=>by cases t<;>simp[Ya]at ht
 | .tup _,V,t,_,_,_,ht=>by cases t<;>simp[Ya]at ht
 | .nv _ _,V,t,_,_,_,ht=>by cases t<;>simp[Ya]at ht
theorem Ybi: ∀(a:AV) {V:Store} {t:Ty} {d:Nat} {x:t.den} {u:Ups},t.dep=0->Ya V a t d=some (x,u)->u= []
 | .nils,V,t,d,x,u,hd,h=>by
  cases t with
  |slice e=>simp[Ty.dep]at hd
  |_=>simp[Ya]at h
 | .val s y,V,t,d,x,u,hd,h=>by
  simp only[Ya]at h
  split at h
  rotate_left
  ·cases h
  split at h
  rotate_left
  ·cases h
  simp only[Option.some.injEq,Prod.mk.injEq]at h
  exact h.2.symm
 | .pr a b,V,t,d,x,u,hd,h=>by
  cases t with
  |pair s s'=>
   simp only[Ty.dep]at hd
   simp only[Ya]at h
   split at h
   rotate_left
   ·cases h
   rename_i x1 u1 h1
   split at h
   rotate_left
   ·cases h
   rename_i x2 u2 h2
   simp only[Option.some.injEq,Prod.mk.injEq]at h
   obtain⟨_,rfl⟩:=h
   rw[Ybi a (by omega) h1,Ybi b (by omega) h2];rfl
  |_=>simp[Ya]at h
 | .ref r ver p,V,t,d,x,u,hd,h=>by
  cases t with
  |slice e=>simp[Ty.dep]at hd
  |smap kd=>simp[Ty.dep]at hd
  |_=>rcases p with _|⟨_|_|_,_|_⟩<;>simp[Ya]at h
 | .un,V,t,_,_,_,_,ht=>by cases t<;>simp[Ya]at ht
 | .jk _,V,t,_,_,_,_,ht=>by cases t<;>simp[Ya]at ht
 | .ptr _ _ _ _,V,t,_,_,_,_,ht=>by cases t<;>simp[Ya]at ht
 | .bptr _ _,V,t,_,_,_,_,ht=>by cases t<;>simp[Ya]at ht
 | .vptr _ _,V,t,_,_,_,_,ht=>by cases t<;>simp[Ya]at ht
 | .tup _,V,t,_,_,_,_,ht=>by cases t<;>simp[Ya]at ht
 | .nv _ _,V,t,_,_,_,_,ht=>by cases t<;>simp[Ya]at ht
 | .clo _ _,V,t,_,_,_,_,ht=>by cases t<;>simp[Ya]at ht
theorem Yab {kd:MK} {a:AV} {V:Store} {ks:List ByteArray} {u:Ups} (h:YbB V kd a=some (ks,u)): ∀q∈u,q.1∈Yj a:=by
 unfold YbB at h
 split at h
 rotate_left
 ·cases h
 split at h
 rotate_left
 ·cases h
 split at h
 ·cases h;intro q hq;simp at hq;subst hq;simp[Yj]
 ·cases h
theorem XY {V:Store} {a:AV} {e:Ty} {d:Nat} {x:Bool×List e.den} {u:Ups} (h:Yay V e d a=some (x,u)): ∀q∈u,q.1∈Yj a:=by
 unfold Yay at h
 split at h
 ·cases h;simp
 ·split at h
  ·rename_i h1;cases h;exact YD (.ref _ _ _) h1
  ·cases h
 ·split at h
  ·rename_i h1;cases h;exact YD _ h1
  ·cases h
 ·cases h
theorem YcU {share:Bool}: ∀(ad:AD) {F:Fp} {H V:Store} {fp:Nat->Fp} {a:AV} {x:ad.den} {u:Ups} {cs:List Value},Roots w F H loc fp->View V H->AVC w F H loc a cs->
  (share=false->ad.alone=true)->YO V ad a=some (x,u)-> ∃F' fp' f,Taken w F H loc fp u F' fp' f/\DR w F' ad cs x f/\ ∀q∈u,∃b,(q.1,b)∈Y8 ad a/\(share=false->b=true)
 | .v t,F,H,V,fp,a,x,u,cs,hR,hV,hc,hsh,ht=>by
  simp only[YO]at ht
  obtain⟨F',fp',f,h1,h2⟩:=Yw (t:=t) (d:=0) (x:=x) (u:=u) a hR hV hc ht
  refine⟨F',fp',f,h1,h2,λq hq=>?_⟩
  refine⟨false,by simp only[Y8];exact List.mem_map_of_mem (f:=λr=>(r,false)) (YD (t:=t) (d:=0) (x:=x) (u:=u) a ht q hq),λe=>?_⟩
  have hd:=hsh e
  simp only[AD.alone,beq_iff_eq]at hd
  rw[Ybi (t:=t) (d:=0) (x:=x) (u:=u) a hd ht]at hq;simp at hq
 | .mv e d,F,H,V,fp,a,x,u,cs,hR,hV,hc,hsh,ht=>by
  simp only[YO]at ht
  obtain⟨F',fp',f,h1,h2⟩:=Yw (t:= .slice e) (d:=d+1) (x:=x) (u:=u) a hR hV hc ht
  exact⟨F',fp',f,h1,h2,λq hq=>⟨true,by simp only[Y8];exact List.mem_map_of_mem (f:=λr=>(r,true)) (YD (t:= .slice e) (d:=d+1) (x:=x) (u:=u) a ht q hq),λ_=>rfl⟩⟩
 | .mp _,F,H,V,fp,a,x,u,cs,hR,hV,hc,hsh,ht=>by
  simp only[YO]at ht
  obtain⟨fp',f,h1,h2⟩:=YcY hR hV hc ht
  exact⟨F,fp',f,h1,h2,λq hq=>⟨true,by simp only[Y8];exact List.mem_map_of_mem (f:=λr=>(r,true)) (Yab ht q hq),λ_=>rfl⟩⟩
 | .nv e d,F,H,V,fp,a,x,u,cs,hR,hV,hc,hsh,ht=>by
  simp only[YO]at ht
  obtain⟨F',fp',f,h1,h2⟩:=YbU hR hV hc ht
  exact⟨F',fp',f,h1,h2,λq hq=>⟨true,by simp only[Y8];exact List.mem_map_of_mem (f:=λr=>(r,true)) (XY ht q hq),λ_=>rfl⟩⟩
 | .pr ad bd,F,H,V,fp,a,x,u,cs,hR,hV,hc,hsh,ht=>by
  simp only[YO]at ht
  split at ht
  rotate_left
  ·cases ht
  rename_i y z hy hz
  obtain⟨c1,c2,rfl,hc1,hc2⟩:=XD (b:=a) hc hy hz
  split at ht
  rotate_left
  ·cases ht
  rename_i x1 u1 h1
  split at ht
  rotate_left
  ·cases ht
  rename_i x2 u2 h2
  cases ht
  obtain⟨F1,fp1,f1,ht1,hr1,hu1⟩:=YcU ad hR hV hc1 (λe=>by have:=hsh e;simp only[AD.alone,Bool.and_eq_true]at this;exact this.1) h1
  obtain⟨F2,fp2,f2,ht2,hr2,hu2⟩:=YcU bd ht1.roots (hV.upd u1) (ht1.keep.c _ _ hc2) (λe=>by have:=hsh e;simp only[AD.alone,Bool.and_eq_true]at this;exact this.2) h2
  obtain⟨ht,hd⟩:=ht1.seq ht2
  refine⟨F2,fp2,_,ht,⟨c1,c2,f1,f2,rfl,λ_=>Iff.rfl,hd,DR.mono ht2.mono ad hr1,hr2⟩,λq hq=>?_⟩
  simp only[Y8,hy,hz]
  rcases List.mem_append.1 hq with hq|hq
  ·obtain⟨b,h,h'⟩:=hu1 q hq;exact⟨b,List.mem_append_left _ h,h'⟩
  ·obtain⟨b,h,h'⟩:=hu2 q hq;exact⟨b,List.mem_append_right _ h,h'⟩
 | .jk n,F,H,V,fp,a,x,u,cs,hR,hV,hc,hsh,ht=>by
  cases a with
  |jk m=>
   simp only[YO]at ht
   split at ht
   rotate_left
   ·cases ht
   rename_i hm
   cases ht
   subst hm
   exact⟨F,fp,Fp.none,Taken.nil hR,⟨hc,λ_ h=>h⟩,by simp⟩
  |_=>simp[YO]at ht
 | .io e d,F,H,V,fp,a,x,u,cs,hR,hV,hc,hsh,ht=>by simp[YO]at ht
 | .bx ad,F,H,V,fp,a,x,u,cs,hR,hV,hc,hsh,ht=>by simp[YO]at ht
 | .un,F,H,V,fp,a,x,u,cs,hR,hV,hc,hsh,ht=>by simp[YO]at ht
 | .gs _ _,F,H,V,fp,a,x,u,cs,hR,hV,hc,hsh,ht=>by simp[YO]at ht
 | .pz _,F,H,V,fp,a,x,u,cs,hR,hV,hc,hsh,ht=>by simp[YO]at ht
 | .bf _,F,H,V,fp,a,x,u,cs,hR,hV,hc,hsh,ht=>by simp[YO]at ht
structure ArgT (w:World) (F:Fp) (H:Store) (loc:Loc) (fp:Nat->Fp) (share:Bool) (l:List (Nat×Bool)) (u:Ups) (F':Fp) (fp':Nat->Fp) (f fi:Fp):Prop where
 t:Taken w F H loc fp u F' fp' f
 fi: ∀n,fi n-> ∃r,(r,true)∈l/\fp' r n
 ups: ∀q∈u,∃b,(q.1,b)∈l/\(share=false->b=true)
def YeS (F':Fp) (fp':Nat->Fp) (share:Bool) (l:List (Nat×Bool)):Fp:=λn=>F' n∨(share=false/\ ∃r,(r,false)∈l/\fp' r n)
def Yfv (l1 l2:List (Nat×Bool)):Prop:= ∀q1∈l1,∀q2∈l2,q1.1=q2.1->q1.2=false/\q2.2=false
theorem YA: ∀(l1 l2:List (Nat×Bool)),YE (l1++l2)=true->YE l1=true/\YE l2=true/\Yfv l1 l2
 | [],l2,h=>⟨rfl,h,λ_ h=>by simp at h⟩
 |(r,x)::l1,l2,h=>by
  simp only[List.cons_append,YE,Bool.and_eq_true,List.all_append]at h
  obtain⟨⟨h1,h2⟩,h3⟩:=h
  obtain⟨g1,g2,g3⟩:=YA l1 l2 h3
  refine⟨by simp only[YE,Bool.and_eq_true];exact⟨h1,g1⟩,g2,λq1 hq1 q2 hq2 e=>?_⟩
  rcases List.mem_cons.1 hq1 with rfl|hq1
  ·have:=List.all_eq_true.1 h2 q2 hq2
   simp only[Bool.or_eq_true,bne_iff_ne,ne_eq,Bool.and_eq_true,Bool.not_eq_true']at this
   rcases this with h|h
   ·exact absurd e.symm h
   ·exact h
  ·exact g3 q1 hq1 q2 hq2 e
theorem ArgT.seq {share:Bool} {l1 l2:List (Nat×Bool)} {u1 u2:Ups} {f1 f2 g1 g2:Fp} (ha:Yfv l1 l2) (h1:ArgT w F H loc fp share l1 u1 F1 fp1 f1 g1) (h2:ArgT w F1 (H.upd u1) loc fp1 share l2 u2 F2 fp2 f2 g2):
  ArgT w F H loc fp share (l1++l2) (u1++u2) F2 fp2 (λn=>f1 n∨f2 n) (λn=>g1 n∨g2 n)/\(∀n,(f1 n∨g1 n)->(f2 n∨g2 n)->False)/\
   (∀n,YeS F1 fp1 share l1 n->YeS F2 fp2 share (l1++l2) n)/\ ∀n,YeS F2 fp2 share l2 n->YeS F2 fp2 share (l1++l2) n:=by
 obtain⟨ht,hd⟩:=h1.t.seq h2.t
 have hk1: ∀r,(r,true)∈l1->fp2 r=fp1 r:=λr hr=>h2.t.kept r λq hq e=>by
  obtain⟨b,hb,_⟩:=h2.ups q hq
  have:=(ha (r,true) hr _ hb e.symm).1
  cases this
 have hk2:share=false-> ∀r,(r,false)∈l1->fp2 r=fp1 r:=λhs r hr=>h2.t.kept r λq hq e=>by
  obtain⟨b,hb,hb'⟩:=h2.ups q hq
  rw[hb' hs]at hb
  have:=(ha (r,false) hr _ hb e.symm).2
  cases this
 refine⟨⟨ht,?_,?_⟩,?_,?_,?_⟩
 ·rintro n (h|h)
  ·obtain⟨r,hr,h⟩:=h1.fi n h
   exact⟨r,List.mem_append_left _ hr,by rw[hk1 r hr];exact h⟩
  ·obtain⟨r,hr,h⟩:=h2.fi n h
   exact⟨r,List.mem_append_right _ hr,h⟩
 ·intro q hq
  rcases List.mem_append.1 hq with hq|hq
  ·obtain⟨b,hb,h⟩:=h1.ups q hq;exact⟨b,List.mem_append_left _ hb,h⟩
  ·obtain⟨b,hb,h⟩:=h2.ups q hq;exact⟨b,List.mem_append_right _ hb,h⟩
 ·rintro n (h|h) (h'|h')
  ·exact hd n h h'
  ·obtain⟨r,hr,h'⟩:=h2.fi n h'
   exact h1.t.offR n r h (h2.t.sub r n h')
  ·obtain⟨r,hr,h⟩:=h1.fi n h
   rw[←hk1 r hr]at h
   exact h2.t.offR n r h' h
  ·obtain⟨r,hr,h⟩:=h1.fi n h
   obtain⟨r',hr',h'⟩:=h2.fi n h'
   rw[←hk1 r hr]at h
   have e:=h2.t.roots.disj r r' n h h'
   have:=(ha _ hr _ hr' e).1
   cases this
 ·rintro n (h|⟨hs,r,hr,h⟩)
  ·exact .inl (h2.t.mono n h)
  ·exact .inr ⟨hs,r,List.mem_append_left _ hr,by rw[hk2 hs r hr];exact h⟩
 ·rintro n (h|⟨hs,r,hr,h⟩)
  ·exact .inl h
  ·exact .inr ⟨hs,r,List.mem_append_right _ hr,h⟩
theorem Xm: ∀(ad:AD) {V V':Store} {a:AV},(∀r,(r,true)∈Yc V ad a->V' r=V r)->Yc V' ad a=Yc V ad a
 | .v t,_,_,_,_=>rfl
 | .io _ _,_,_,_,_=>rfl
 | .mv _ _,_,_,_,_=>rfl
 | .mp _,_,_,_,_=>rfl
 | .nv _ _,_,_,_,_=>rfl
 | .jk _,_,_,_,_=>rfl
 | .un,_,_,_,_=>rfl
 | .gs _ _,_,_,_,_=>rfl
 | .pz _,_,_,_,_=>rfl
 | .bf _,_,_,_,_=>rfl
 | .bx ad,V,V',a,h=>by
  cases a with
  |bptr r o=>
   simp only[Yc]
   rw[h r (by simp[Yc])]
  |_=>rfl
 | .pr ad bd,V,V',a,h=>by
  simp only[Yc]at h⊢
  cases hy:Yd a [.fst]with
  |none=>simp
  |some y=>
   cases hz:Yd a [.snd]with
   |none=>simp
   |some z=>
    simp only[hy,hz]at h⊢
    rw[Xm ad λr hr=>h r (List.mem_append_left _ hr),Xm bd λr hr=>h r (List.mem_append_right _ hr)]
def X3 (l:List (Nat×Bool)) (lent:Nat->Fp):Fp:=λn=> ∃r,(r,true)∈l/\lent r n
def LentA (w:World) (F:Fp) (loc:Loc) (fp:Nat->Fp) (V:Store):(ad:AD)->AV->List Value->(Nat->Fp)->Prop
 | .io e d,a,cs,lent=> ∃r ver p v e' d' xs ver' pin,a= .ref r ver p/\cs= [v]/\V r= .arr e' d' xs ver' pin/\(∀n,lent r n->fp r n)/\Back w F (loc r) (fp r) e' d' xs p e d v (lent r)
 | .bx a,x,cs,lent=> ∃r b c,x= .bptr r 0/\V r= .box c/\loc r= .pointer (some ⟨b,0,none⟩)/\cs= [.pointer (some ⟨b,0,none⟩)]/\(∀n,fp r n↔n=b)/\(∀n,lent r n↔n=b)/\c.length=a.cells/\ ∀r',(r',true)∈Y8 a (YN a c)-> ∀n,¬lent r' n
 | .pr a b,x,cs,lent=> ∃y z c1 c2,Yd x [.fst]=some y/\Yd x [.snd]=some z/\cs=c1++c2/\c1.length=a.cells/\LentA w F loc fp V a y c1 lent/\LentA w F loc fp V b z c2 lent
 | .v _,_,_,_=>True
 | .mv _ _,a,_,lent=> ∀r,r∈Yj a-> ∀n,¬lent r n
 | .mp _,a,_,lent=> ∀r,r∈Yj a-> ∀n,¬lent r n
 | .nv _ _,a,_,lent=> ∀r,r∈Yj a-> ∀n,¬lent r n
 | .jk _,_,_,_=>True
 | .un,_,_,_=>True
 | .gs _ _,_,_,_=>True
 | .pz _,a,_,lent=> ∀r,r∈YdY a-> ∀n,¬lent r n
 | .bf e,a,cs,lent=> ∃r ver0 p v b xs n ver pin,a= .ref r ver0 p/\cs= [v]/\V r= .bf e xs n ver pin/\(∀m,lent r m↔fp r m)/\VwV (loc r) (List.length xs) n (loc r)/\VwV (loc r) (List.length xs) b v
theorem YC {l:List (Nat×Bool)} {n:Nat} (h:X3 l (λ_=>Fp.none) n):False:=by
 obtain⟨_,_,h⟩:=h;exact h
theorem Back.mono {l:Value} {fr:Fp} {e':Ty} {d':Nat} {xs:List e'.den} {p:List PE} {e:Ty} {d:Nat} {v:Value} {fa:Fp} (hF: ∀n,F n->F1 n) (h:Back w F l fr e' d' xs p e d v fa):Back w F1 l fr e' d' xs p e d v fa:=
 λw' F' y f' zs h1 h2 h3 h4 h5 h6=>h w' F' y f' zs (λm hm=>h1 m (hF m hm)) h2 (λm hm=>h3 m (hF m hm)) h4 h5 h6
theorem LentA.congr (hF: ∀n,F n->F1 n): ∀(ad:AD) {V V':Store} {fp fp':Nat->Fp} {a:AV} {cs:List Value} {lent lent':Nat->Fp},(∀r,(r,true)∈Yc V ad a->V' r=V r/\fp' r=fp r/\lent' r=lent r)->
  LentA w F loc fp V ad a cs lent->LentA w F1 loc fp' V' ad a cs lent'
 | .v _,_,_,_,_,_,_,_,_,_,_=>trivial
 | .mv _ _,V,V',fp,fp',a,cs,lent,lent',h,h1=>λr hr n hn=>by
  obtain⟨_,_,g3⟩:=h r (List.mem_map_of_mem (f:=λr=>(r,true)) hr)
  rw[g3]at hn;exact h1 r hr n hn
 | .mp _,V,V',fp,fp',a,cs,lent,lent',h,h1=>λr hr n hn=>by
  obtain⟨_,_,g3⟩:=h r (List.mem_map_of_mem (f:=λr=>(r,true)) hr)
  rw[g3]at hn;exact h1 r hr n hn
 | .nv _ _,V,V',fp,fp',a,cs,lent,lent',h,h1=>λr hr n hn=>by
  obtain⟨_,_,g3⟩:=h r (List.mem_map_of_mem (f:=λr=>(r,true)) hr)
  rw[g3]at hn;exact h1 r hr n hn
 | .jk _,_,_,_,_,_,_,_,_,_,_=>trivial
 | .un,_,_,_,_,_,_,_,_,_,_=>trivial
 | .gs _ _,_,_,_,_,_,_,_,_,_,_=>trivial
 | .pz _,V,V',fp,fp',a,cs,lent,lent',h,h1=>λr hr n hn=>by
  obtain⟨_,_,g3⟩:=h r (List.mem_map_of_mem (f:=λr=>(r,true)) hr)
  rw[g3]at hn;exact h1 r hr n hn
 | .bf e,V,V',fp,fp',a,cs,lent,lent',h,⟨r,ver0,p,v,b,xs,n,ver,pin,h1,h2,h3,h4,h5⟩=>by
  subst h1
  obtain⟨g1,g2,g3⟩:=h r (by simp[Yc,Yj])
  exact⟨r,ver0,p,v,b,xs,n,ver,pin,rfl,h2,by rw[g1];exact h3,by rw[g2,g3];exact h4,h5⟩
 | .io e d,V,V',fp,fp',a,cs,lent,lent',h,⟨r,ver,p,v,e',d',xs,ver',pin,h1,h2,h3,h4,h5⟩=>by
  subst h1
  obtain⟨g1,g2,g3⟩:=h r (by simp[Yc,Yj])
  exact⟨r,ver,p,v,e',d',xs,ver',pin,rfl,h2,by rw[g1];exact h3,by rw[g2,g3];exact h4,by rw[g2,g3];exact h5.mono hF⟩
 | .bx ad,V,V',fp,fp',a,cs,lent,lent',h,⟨r,b,c,h1,h2,h3,h4,h5,h6,hlen,h7⟩=>by
  subst h1
  obtain⟨g1,g2,g3⟩:=h r (by simp[Yc])
  exact⟨r,b,c,rfl,by rw[g1];exact h2,h3,h4,by rw[g2];exact h5,by rw[g3];exact h6,hlen,λr' hr n hn=>by
   obtain⟨_,_,g4⟩:=h r' (by simp only[Yc,h2];exact List.mem_cons_of_mem _ hr)
   rw[g4]at hn;exact h7 r' hr n hn⟩
 | .pr ad bd,V,V',fp,fp',a,cs,lent,lent',h,⟨y,z,c1,c2,h1,h2,h3,h4,h5,h6⟩=>by
  simp only[Yc,h1,h2]at h
  exact⟨y,z,c1,c2,h1,h2,h3,h4,LentA.congr hF ad (λr hr=>h r (List.mem_append_left _ hr)) h5,LentA.congr hF bd (λr hr=>h r (List.mem_append_right _ hr)) h6⟩
open Classical in
noncomputable def YcC (l1:List (Nat×Bool)) (n1 n2:Nat->Fp):Nat->Fp:=λr=>if(r,true)∈l1 then n1 r else n2 r
theorem Yar {l1:List (Nat×Bool)} {n1 n2:Nat->Fp} {r:Nat} (h:(r,true)∈l1):YcC l1 n1 n2 r=n1 r:=by unfold YcC;rw[if_pos h]
theorem X9 {l1 l2:List (Nat×Bool)} {n1 n2:Nat->Fp} (ha:Yfv l1 l2) {r:Nat} (h:(r,true)∈l2):YcC l1 n1 n2 r=n2 r:=by
 unfold YcC
 rw[if_neg]
 intro h1
 have:=(ha _ h1 _ h rfl).1
 cases this
theorem Ydk {l1 l2:List (Nat×Bool)} {n1 n2:Nat->Fp} (ha:Yfv l1 l2) (n:Nat):X3 (l1++l2) (YcC l1 n1 n2) n↔X3 l1 n1 n∨X3 l2 n2 n:=by
 constructor
 ·rintro ⟨r,hr,h⟩
  rcases List.mem_append.1 hr with hr|hr
  ·rw[Yar hr]at h;exact .inl ⟨r,hr,h⟩
  ·rw[X9 ha hr]at h;exact .inr ⟨r,hr,h⟩
 ·rintro (⟨r,hr,h⟩|⟨r,hr,h⟩)
  ·exact⟨r,List.mem_append_left _ hr,by rw[Yar hr];exact h⟩
  ·exact⟨r,List.mem_append_right _ hr,by rw[X9 ha hr];exact h⟩
theorem Yaw {share:Bool}: ∀(ad:AD) {F:Fp} {H V:Store} {fp:Nat->Fp} {a:AV} {x:ad.den} {u:Ups} {cs:List Value},Roots w F H loc fp->View V H->AVC w F H loc a cs->
  (share=false->ad.plain=true)->Yh V share ad a=some (x,u)->YE (Yc V ad a)=true->
  ∃F' fp' f lent,ArgT w F H loc fp share (Yc V ad a) u F' fp' f (X3 (Yc V ad a) lent)/\DR w (YeS F' fp' share (Yc V ad a)) ad cs x (λn=>f n∨X3 (Yc V ad a) lent n)/\LentA w F' loc fp' V ad a cs lent
 | .v t,F,H,V,fp,a,x,u,cs,hR,hV,hc,hsh,ht,hal=>by
  simp only[Yh]at ht
  by_cases hs:share=true
  ·have ht:Ya V a t 0=some (x,u):=Eq.trans (if_pos hs).symm ht
   obtain⟨F',fp',f,h1,h2⟩:=Yw (t:=t) (d:=0) (x:=x) (u:=u) a hR hV hc ht
   refine⟨F',fp',f,λ_=>Fp.none,⟨h1,λ_ h=>(YC h).elim,λq hq=>⟨false,List.mem_map_of_mem (f:=λr=>(r,false)) (YD (t:=t) (d:=0) (x:=x) (u:=u) a ht q hq),λe=>by rw[hs]at e;cases e⟩⟩,?_⟩
   exact⟨Rep.mono (λ_ h=> .inl h) t (Rep.fpEq h2 λn=>⟨.inl,λh=>h.elim id λh=>(YC h).elim⟩),trivial⟩
  ·have ht:(match asV V a t with|some y=>some (y,[])|none=>none)=some ((x:t.den),u):=Eq.trans (if_neg hs).symm ht
   have hs:share=false:=by simpa using hs
   split at ht
   rotate_left
   ·cases ht
   rename_i y hy
   cases ht
   have h2:=YeY hR hV a hc hy
   refine⟨F,fp,Fp.none,λ_=>Fp.none,⟨Taken.nil hR,λ_ h=>(YC h).elim,by simp⟩,?_,trivial⟩
   refine Rep.mono ?_ t (Rep.fpEq h2 λn=>⟨.inl,λh=>h.elim id λh=>(YC h).elim⟩)
   rintro n (h|⟨r,hr,h⟩)
   ·exact .inl h
   ·exact .inr ⟨hs,r,List.mem_map_of_mem (f:=λr=>(r,false)) hr,h⟩
 | .mv e d,F,H,V,fp,a,x,u,cs,hR,hV,hc,hsh,ht,hal=>by
  simp only[Yh]at ht
  obtain⟨F',fp',f,h1,h2⟩:=Yw (t:= .slice e) (d:=d+1) (x:=x) (u:=u) a hR hV hc ht
  refine⟨F',fp',f,λ_=>Fp.none,⟨h1,λ_ h=>(YC h).elim,λq hq=>⟨true,List.mem_map_of_mem (f:=λr=>(r,true)) (YD (t:= .slice e) (d:=d+1) (x:=x) (u:=u) a ht q hq),λ_=>rfl⟩⟩,?_⟩
  exact⟨Rep.mono (λ_ h=> .inl h) _ (Rep.fpEq h2 λn=>⟨.inl,λh=>h.elim id λh=>(YC h).elim⟩),λ_ _ _ h=>h⟩
 | .io e d,F,H,V,fp,a,x,u,cs,hR,hV,hc,hsh,ht,hal=>by
  cases a with
  |ref r ver p=>
   simp only[Yh]at ht
   split at ht
   rotate_left
   ·cases ht
   rename_i g hg
   split at ht
   rotate_left
   ·cases ht
   rename_i hgd
   split at ht
   rotate_left
   ·cases ht
   rename_i y hy
   cases ht
   have hgt:=YI hy
   obtain⟨v,rfl,hv⟩:=hc
   obtain⟨d0,hgd0,hal0⟩: ∃d0,g.d=d0+1/\ ∀(w':World) (F1 F2:Fp) (c:List Value) (z:List e.den) (fp':Fp),(Rep w' F1 (.slice e) (d0+1) c z fp'->Rep w' F1 (.slice e) (d+1) c z fp')/\(Rep w' F1 (.slice e) (d+1) c z fp'->Rep w' F1 (.slice e) (d0+1) c z fp'):=by
    rcases hgd with hgd|⟨h1,h2,h3⟩
    ·exact⟨d,hgd,λ_ _ _ _ _ _=>⟨id,id⟩⟩
    ·exact⟨g.d-1,by omega,λ_ _ _ _ _ _=>⟨Rep.alone (.slice e) (.inr (by simp only[Ty.dep];omega)) (.inr (by simp only[Ty.dep];omega)),Rep.alone (.slice e) (.inr (by simp only[Ty.dep];omega)) (.inr (by simp only[Ty.dep];omega))⟩⟩
   obtain⟨e',d',xs,ver',pin,fa,hVr,hr,hf,hback0⟩:=YhD hR hV (v:=v) ⟨v,rfl,hv⟩ hg hgd0 hgt
   have hback:Back w F (loc r) (fp r) e' d' xs p e d v fa:=λw' F' y f' zs a1 a2 a3 a4 a5 a6=>hback0 w' F' y f' zs a1 a2 a3 a4 ((hal0 w' F' F' _ _ _).2 a5) a6
   have hr:=Rep.cast hy hr
   rw[hgd0]at hr
   have hr:=(hal0 _ F F _ _ _).1 hr
   have hfi: ∀n,X3 (Yc V (.io e d) (.ref r ver p)) (λ_=>fa) n↔fa n:=λn=>⟨λ⟨_,_,h⟩=>h,λh=>⟨r,by simp[Yc,Yj],h⟩⟩
   refine⟨F,fp,Fp.none,λ_=>fa,⟨Taken.nil hR,λn h=>⟨r,by simp[Yc,Yj],hf n ((hfi n).1 h)⟩,by simp⟩,Rep.mono (λ_ h=> .inl h) _ (Rep.fpEq hr λn=>⟨λh=> .inr ((hfi n).2 h),λh=>h.elim (λh=>h.elim) (hfi n).1⟩),
    r,ver,p,v,e',d',xs,ver',pin,rfl,rfl,hVr,hf,hback⟩
  |_=>simp[Yh]at ht
 | .pr ad bd,F,H,V,fp,a,x,u,cs,hR,hV,hc,hsh,ht,hal=>by
  simp only[Yh]at ht
  split at ht
  rotate_left
  ·cases ht
  rename_i y z hy hz
  obtain⟨c1,c2,rfl,hc1,hc2⟩:=XD (b:=a) hc hy hz
  split at ht
  rotate_left
  ·cases ht
  rename_i x1 u1 h1
  split at ht
  rotate_left
  ·cases ht
  rename_i x2 u2 h2
  cases ht
  simp only[Yc,hy,hz]at hal⊢
  obtain⟨al1,al2,hap⟩:=YA _ _ hal
  have hp1:share=false->ad.plain=true/\bd.plain=true:=λe=>by
   have:=hsh e
   simp only[AD.plain,Bool.and_eq_true]at this
   exact this
  obtain⟨F1,fp1,f1,n1,ht1,hr1,hL1⟩:=Yaw ad hR hV hc1 (λe=>(hp1 e).1) h1 al1
  have hroots:Yc (V.upd u1) bd z=Yc V bd z:=Xm bd λr hr=>Yy u1 λq hq e=>by
   obtain⟨b,hb,_⟩:=ht1.ups q hq
   have:=(hap _ hb _ hr e).2
   cases this
  obtain⟨F2,fp2,f2,n2,ht2,hr2,hL2⟩:=Yaw bd ht1.t.roots (hV.upd u1) (ht1.t.keep.c _ _ hc2) (λe=>(hp1 e).2) h2 (by rw[hroots];exact al2)
  rw[hroots]at ht2 hr2
  obtain⟨ht,hd,hm1,hm2⟩:=ArgT.seq hap ht1 ht2
  have hfi:(λn=>X3 (Yc V ad y) n1 n∨X3 (Yc V bd z) n2 n)=X3 (Yc V ad y++Yc V bd z) (YcC (Yc V ad y) n1 n2):=Fp.eq λn=>(Ydk hap n).symm
  rw[hfi]at ht
  have hk1: ∀r,(r,true)∈Yc V ad y->fp2 r=fp1 r:=λr hr=>ht2.t.kept r λq hq e=>by
   obtain⟨b,hb,_⟩:=ht2.ups q hq
   have:=(hap (r,true) hr _ hb e.symm).1
   cases this
  have hV2: ∀r,(r,true)∈Yc V bd z->V r=(V.upd u1) r:=λr hr=>(Yy u1 λq hq e=>by
   obtain⟨b,hb,_⟩:=ht1.ups q hq
   have:=(hap _ hb _ hr e).2
   cases this).symm
  refine⟨F2,fp2,_,_,ht,⟨c1,c2,_,_,rfl,λn=>?_,hd,DR.mono hm1 ad hr1,DR.mono hm2 bd hr2⟩,y,z,c1,c2,hy,hz,rfl,DR.len ad hr1,LentA.congr ht2.t.mono ad (λr hr=>⟨rfl,hk1 r hr,Yar hr⟩) hL1,LentA.congr (λ_ h=>h) bd (λr hr=>by rw[hroots]at hr;exact⟨hV2 r hr,rfl,X9 hap hr⟩) hL2⟩
  rw[←hfi]
  constructor
  ·rintro ((h|h)|(h|h))
   ·exact .inl (.inl h)
   ·exact .inr (.inl h)
   ·exact .inl (.inr h)
   ·exact .inr (.inr h)
  ·rintro ((h|h)|(h|h))
   ·exact .inl (.inl h)
   ·exact .inr (.inl h)
   ·exact .inl (.inr h)
   ·exact .inr (.inr h)
 | .bx ad,F,H,V,fp,a,x,u,cs,hR,hV,hc,hsh,ht,hal=>by
  cases a with
  |bptr r o=>
   cases o with
   |zero=>
    simp only[Yh]at ht
    split at ht
    rotate_left
    ·cases ht
    rename_i c hVr
    by_cases hcl:c.length=ad.cells
    rotate_left
    ·have:=Eq.trans (if_neg hcl).symm ht;cases this
    have ht:YO V ad (YN ad c)=some (x,u):=Eq.trans (if_pos hcl).symm ht
    have hHr:=hV.arr hVr (by simp)
    have hok:=hR.ok r
    rw[hHr]at hok
    obtain⟨v,rfl,b,hvv,hl⟩:=hc
    rw[hHr]at hl
    subst hvv
    obtain⟨b',cs',hl',hb',hlen,hfp,hcw⟩:=hok
    rw[hl]at hl';injection hl' with hl';injection hl' with hl';injection hl' with hl' _ _;subst hl'
    have hcw':CW w F H loc c cs':=⟨hlen,hcw⟩
    obtain⟨F1,fp1,f1,t1,r1,hu1⟩:=YcU (share:=share) ad hR hV (Xl ad hcw' hcl) (λe=>by have:=hsh e;simpa[AD.plain,AD.alone]using this) ht
    simp only[Yc,hVr]at hal⊢
    simp only[YE,Bool.and_eq_true,List.all_eq_true]at hal
    have hkept:fp1 r=fp r:=t1.kept r λq hq e=>by
     obtain⟨b',hb',_⟩:=hu1 q hq
     have:=hal.1 _ hb'
     simp[e]at this
    have hbr:fp1 r b:=by rw[hkept];exact(hfp b).2 rfl
    have hfi: ∀n,X3 ((r,true)::Y8 ad (YN ad c)) (λr'=>if r'=r then(λn=>n=b)else Fp.none) n↔n=b:=λn=>⟨λ⟨r',_,h⟩=>by
     by_cases e:r'=r
     ·simp only[e,if_true]at h;exact h
     ·simp only[e,if_false]at h;exact h.elim,λh=>⟨r,List.mem_cons_self ..,by simp only[if_true];exact h⟩⟩
    refine⟨F1,fp1,f1,λr'=>if r'=r then(λn=>n=b)else Fp.none,⟨t1,λn h=>⟨r,List.mem_cons_self ..,(hfi n).1 h▸hbr⟩,λq hq=>?_⟩,⟨b,cs',f1,rfl,hb',λn=>(or_congr Iff.rfl (hfi n)).trans Or.comm,λh=>t1.offR b r h hbr,DR.mono (λ_ h=> .inl h) ad r1⟩,
     r,b,c,rfl,hVr,hl,rfl,by rw[hkept];exact hfp,λn=>by simp,hcl,λr' hr n hn=>by
      have:=hal.1 _ hr
      have hne:r'≠r:=by simpa using this
      simp only[hne,if_false]at hn
      exact hn⟩
    obtain⟨b',hb',h⟩:=hu1 q hq
    exact⟨b',List.mem_cons_of_mem _ hb',h⟩
   |succ=>simp[Yh]at ht
  |_=>simp[Yh]at ht
 | .jk n,F,H,V,fp,a,x,u,cs,hR,hV,hc,hsh,ht,hal=>by
  cases a with
  |jk m=>
   simp only[Yh]at ht
   split at ht
   rotate_left
   ·cases ht
   rename_i hm
   cases ht
   subst hm
   exact⟨F,fp,Fp.none,λ_=>Fp.none,⟨Taken.nil hR,λ_ h=>(YC h).elim,by simp⟩,⟨hc,λ_ h=>h.elim id YC⟩,trivial⟩
  |_=>simp[Yh]at ht
 | .mp kd,F,H,V,fp,a,x,u,cs,hR,hV,hc,hsh,ht,hal=>by
  simp only[Yh]at ht
  obtain⟨fp',f,h1,h2⟩:=YcY hR hV hc ht
  refine⟨F,fp',f,λ_=>Fp.none,⟨h1,λ_ h=>(YC h).elim,λq hq=>⟨true,List.mem_map_of_mem (f:=λr=>(r,true)) (Yab ht q hq),λ_=>rfl⟩⟩,?_⟩
  exact⟨DR.mono (λ_ h=> .inl h) (.mp kd) (by
   have:(λn=>f n∨X3 (Yc V (.mp kd) a) (λ_=>Fp.none) n)=f:=Fp.eq λn=>⟨λh=>h.elim id λh=>(YC h).elim,.inl⟩
   rw[this];exact h2),λ_ _ _ h=>h⟩
 | .nv e d,F,H,V,fp,a,x,u,cs,hR,hV,hc,hsh,ht,hal=>by
  simp only[Yh]at ht
  obtain⟨F',fp',f,h1,h2⟩:=YbU hR hV hc ht
  refine⟨F',fp',f,λ_=>Fp.none,⟨h1,λ_ h=>(YC h).elim,λq hq=>⟨true,List.mem_map_of_mem (f:=λr=>(r,true)) (XY ht q hq),λ_=>rfl⟩⟩,?_⟩
  exact⟨DR.mono (λ_ h=> .inl h) (.nv e d) (by
   have:(λn=>f n∨X3 (Yc V (.nv e d) a) (λ_=>Fp.none) n)=f:=Fp.eq λn=>⟨λh=>h.elim id λh=>(YC h).elim,.inl⟩
   rw[this];exact h2),λ_ _ _ h=>h⟩
 | .un,F,H,V,fp,a,x,u,cs,hR,hV,hc,hsh,ht,hal=>by simp[Yh]at ht
 | .gs _ _,F,H,V,fp,a,x,u,cs,hR,hV,hc,hsh,ht,hal=>by simp[Yh]at ht
 | .bf e,F,H,V,fp,a,x,u,cs,hR,hV,hc,hsh,ht,hal=>by
  simp only[Yh]at ht
  split at ht
  rotate_left
  ·cases ht
  rename_i r b hb
  cases a with
  |ref r0 ver0 p=>
   obtain⟨v,rfl,hv⟩:=hc
   obtain⟨e0,xs,n,ver,pin,hVr,hHr,hbf,hl,hvw⟩:=Ybo hR hV (v:=v) (λr ver p e=>by cases e;exact hv) hb
   rw[hVr]at ht
   dsimp only at ht
   split at ht
   rotate_left
   ·cases ht
   rename_i ys hys
   cases ht
   have hty:=YI hys
   injection hty with hty
   subst hty
   have hys:=YM hys
   subst hys
   have hr0:r0=r:=by
    have hb:YdJ V r0 ver0 p=some (r,b):=hb
    unfold YdJ at hb
    split at hb
    rotate_left
    ·cases hb
    split at hb
    ·cases hb;rfl
    ·split at hb
     ·cases hb;rfl
     ·cases hb
    ·cases hb
   subst hr0
   have hfi: ∀n,X3 (Yc V (.bf e0) (.ref r0 ver0 p)) (λ_=>fp r0) n↔fp r0 n:=λn=>⟨λ⟨_,_,h⟩=>h,λh=>⟨r0,by simp[Yc,Yj],h⟩⟩
   obtain⟨g1,g2⟩:=BfR.view hbf hvw
   refine⟨F,fp,Fp.none,λ_=>fp r0,⟨Taken.nil hR,λn h=>⟨r0,by simp[Yc,Yj],(hfi n).1 h⟩,by simp⟩,⟨v,rfl,?_,g2⟩,r0,ver0,p,v,b,ys,n,ver,pin,rfl,rfl,hVr,λ_=>Iff.rfl,hl,hvw⟩
   have hfe:(λn=>Fp.none n∨X3 (Yc V (.bf e0) (.ref r0 ver0 p)) (λ_=>fp r0) n)=fp r0:=Fp.eq λn=>⟨λh=>h.elim (λh=>h.elim) (hfi n).1,λh=> .inr ((hfi n).2 h)⟩
   rw[hfe]
   exact g1.mono λ_ h=> .inl h
  |_=>simp[Ycq]at hb
 | .pz t,F,H,V,fp,a,x,u,cs,hR,hV,hc,hsh,ht,hal=>by
  simp only[Yh]at ht
  obtain⟨F',fp',f,h1,h2,h3⟩:=YbD hR hV hc ht
  refine⟨F',fp',f,λ_=>Fp.none,⟨h1,λ_ h=>(YC h).elim,λq hq=>⟨true,List.mem_map_of_mem (f:=λr=>(r,true)) (Yb6 ht q hq),λ_=>rfl⟩⟩,?_⟩
  exact⟨DR.mono (λ_ h=> .inl h) (.pz t) (by
   have:(λn=>f n∨X3 (Yc V (.pz t) a) (λ_=>Fp.none) n)=f:=Fp.eq λn=>⟨λh=>h.elim id λh=>(YC h).elim,.inl⟩
   rw[this];exact h2),λ_ _ _ h=>h⟩
end
end Go.Va
namespace Go.Va
def YaD:List Value->Value
 | [v]=>v
 |l=> .agg l.toArray
def CodR (w:World) (F:Fp) (T T':Nat->Value) (n:Nat):Cod->Prop
 | .cl f=> ∃caps:List Value,T n= .func (.func f) #[] caps.toArray/\T' n=YaD caps/\ ∀v∈caps,Xu v
 | .kb f=> ∃(b:Nat) (caps:List Value),T n= .pointer (some ⟨b,0,none⟩)/\F b/\w.cell? ⟨b,0,none⟩=some (.func (.func f) #[] caps.toArray)/\T' n=YaD caps/\ ∀v∈caps,Xu v
 | .kn f p c=> ∃b:Nat,T n= .pointer (some ⟨b,0,none⟩)/\F b/\w.cell? ⟨b,0,none⟩=some (.func (.func f) #[] ((List.range c).map λi=>T (p+i)).toArray)
def DressR (w:World) (F:Fp) (cod:List (Nat×Cod)) (T T':Nat->Value):Prop:=
 (∀q∈cod,CodR w F T T' q.1 q.2)/\ ∀n,(∀q∈cod,q.1≠n)->T' n=T n
def DressA (w:World) (F:Fp) (cod:List (Nat×Cod)) (args vs:List Value):Prop:=
 vs.length=args.length/\DressR w F cod (λi=>args.getD i undef) (λi=>vs.getD i undef)
section
variable {w w':World} {F F':Fp} {H H' V:Store} {loc loc':Loc} {fp fp':Nat->Fp}
theorem CodR.keep {T T':Nat->Value} {n:Nat} {c:Cod} (h:CodR w F T T' n c) (hF: ∀n,F n->F' n) (hk: ∀n,F n->w'.heap[n]? =w.heap[n]?):CodR w' F' T T' n c:=by
 cases c with
 |cl f=>exact h
 |kb f=>obtain⟨b,caps,h1,h2,h3,h4⟩:=h;exact⟨b,caps,h1,hF b h2,by rw[←h3];simp[World.cell?,hk b h2],h4⟩
 |kn f p c=>obtain⟨b,h1,h2,h3⟩:=h;exact⟨b,h1,hF b h2,by rw[←h3];simp[World.cell?,hk b h2]⟩
theorem DressR.keep {cod:List (Nat×Cod)} {T T':Nat->Value} (h:DressR w F cod T T') (hF: ∀n,F n->F' n) (hk: ∀n,F n->w'.heap[n]? =w.heap[n]?):DressR w' F' cod T T':=
 ⟨λq hq=>(h.1 q hq).keep hF hk,h.2⟩
theorem DressA.mono {cod:List (Nat×Cod)} {args vs:List Value} (h:DressA w F cod args vs) (hF: ∀n,F n->F' n):DressA w F' cod args vs:=⟨h.1,h.2.keep hF λ_ _=>rfl⟩
theorem DressR.nil {T:Nat->Value}:DressR w F [] T T:=⟨λq h=>(by cases h),λ_ _=>rfl⟩
theorem DressR.same {T T':Nat->Value} (h:DressR w F [] T T'):T'=T:=funext λn=>h.2 n λq hq=>by cases hq
theorem YgB {l l':List Value} (h:l'.length=l.length) (e:(λi=>l'.getD i undef)=λi=>l.getD i undef):l'=l:=by
 apply List.ext_getElem h
 intro i h1 h2
 have:=congrFun e i
 simp only[List.getD_eq_getElem?_getD,List.getElem?_eq_getElem h1,List.getElem?_eq_getElem h2,Option.getD_some]at this
 exact this
theorem DressA.same {args vs:List Value} (h:DressA w F [] args vs):vs=args:=YgB h.1 h.2.same
theorem DressA.nil {args:List Value}:DressA w F [] args args:=⟨rfl,DressR.nil⟩
theorem CapsR.one {l:List Nat} {caps:List Value} (h:CapsR H loc l caps): ∀v∈caps,Xu v:=by
 intro v hv
 obtain⟨i,hi,rfl⟩:=List.mem_iff_getElem.1 hv
 have hl:i<l.length:=by rw[←h.1];exact hi
 obtain⟨b,e,_⟩:=h.2 i _ _ (List.getElem?_eq_getElem hl) (List.getElem?_eq_getElem hi)
 rw[e];trivial
theorem CapsR.tail {r:Nat} {l:List Nat} {v:Value} {caps:List Value} (h:CapsR H loc (r::l) (v::caps)):BptrR H loc r 0 v/\CapsR H loc l caps:=
 ⟨h.2 0 r v rfl rfl,by simpa using h.1,λi s x hs hx=>h.2 (i+1) s x (by simpa using hs) (by simpa using hx)⟩
theorem CapsR.cons {r:Nat} {l:List Nat} {v:Value} {caps:List Value} (h1:BptrR H loc r 0 v) (h:CapsR H loc l caps):CapsR H loc (r::l) (v::caps):=
 ⟨by simp[h.1],λi s x hs hx=>by
  cases i with
  |zero=>simp at hs hx;subst hs;subst hx;exact h1
  |succ i=>exact h.2 i s x (by simpa using hs) (by simpa using hx)⟩
theorem CapsR.keep {l:List Nat} {caps:List Value} (h:CapsR H loc l caps) (k:Keep w F H loc w' F' H' loc'):CapsR H' loc' l caps:=
 ⟨h.1,λi s x hs hx=>by
  obtain⟨y,e,hy⟩:=k.c (.bptr s 0) [x] ⟨x,rfl,h.2 i s x hs hx⟩
  rw[(List.cons.inj e).1];exact hy⟩
theorem YeP: ∀(l:List Nat) (caps:List Value),l≠ []->CapsR H loc l caps->AVC w F H loc (Ybk l) caps
 | [],_,h,_=>absurd rfl h
 | [r],caps,_,h=>by
  obtain⟨v,rfl⟩: ∃v,caps= [v]:=by
   match caps,h.1 with
   | [v],_=>exact⟨v,rfl⟩
  exact⟨v,rfl,(h.tail).1⟩
 |r::r'::l,caps,_,h=>by
  obtain⟨v,cs,rfl⟩: ∃v cs,caps=v::cs:=by
   match caps,h.1 with
   |v::cs,_=>exact⟨v,cs,rfl⟩
  exact⟨[v],cs,rfl,⟨v,rfl,h.tail.1⟩,YeP (r'::l) cs (by simp) h.tail.2⟩
theorem YdA {l:List Nat} {caps:List Value} (hl:l≠ []) (h:CapsR H loc l caps):AVV w F H loc (Ybk l) (YaD caps):=by
 have hc:=YeP (w:=w) (F:=F) l caps hl h
 match l,hl with
 | [r],_=>
  obtain⟨v,rfl⟩: ∃v,caps= [v]:=by
   match caps,h.1 with
   | [v],_=>exact⟨v,rfl⟩
  exact⟨[v],hc,by simp[Shp,Ybk,YF,YaD]⟩
 |r::r'::l,_=>
  obtain⟨v,v',cs,rfl⟩: ∃v v' cs,caps=v::v'::cs:=by
   match caps,h.1 with
   |v::v'::cs,_=>exact⟨v,v',cs,rfl⟩
  exact⟨_,hc,by simp[Shp,Ybk,YF,YaD]⟩
theorem Yeo: ∀(a:AV) {l:List Nat} {cs:List Value},YT a=some l->AVC w F H loc a cs->CapsR H loc l cs
 | .bptr r 0,l,cs,h,hc=>by
  simp only[YT,Option.some.injEq]at h;subst h
  obtain⟨v,rfl,hv⟩:=hc
  exact CapsR.cons hv ⟨rfl,λi s x hs=>by simp at hs⟩
 | .bptr r (o+1),l,cs,h,hc=>by simp[YT]at h
 | .pr a b,l,cs,h,hc=>by
  cases a with
  |bptr r o=>
   cases o with
   |zero=>
    simp only[YT]at h
    split at h
    rotate_left
    ·cases h
    rename_i l' hl'
    cases h
    obtain⟨c1,c2,rfl,h1,h2⟩:=hc
    obtain⟨v,rfl,hv⟩:=h1
    exact CapsR.cons hv (Yeo b hl' h2)
   |succ o=>simp[YT]at h
  |_=>simp[YT]at h
 | .un,_,_,h,_=>by simp[YT]at h
 | .val _ _,_,_,h,_=>by simp[YT]at h
 | .nils,_,_,h,_=>by simp[YT]at h
 | .ref _ _ _,_,_,h,_=>by simp[YT]at h
 | .ptr _ _ _ _,_,_,h,_=>by simp[YT]at h
 | .vptr _ _,_,_,h,_=>by simp[YT]at h
 | .tup _,_,_,h,_=>by simp[YT]at h
 | .jk _,_,_,h,_=>by simp[YT]at h
 | .clo _ _,_,_,h,_=>by simp[YT]at h
theorem Ydq {a:AV} {l:List Nat} {caps:List Value} (h:YT a=some l) (hv:AVV w F H loc a (YaD caps)) (h1: ∀v∈caps,Xu v):CapsR H loc l caps:=by
 have key: ∀cs,AVC w F H loc a cs->Shp a (YaD caps) cs->CapsR H loc l caps:=by
  intro cs hc hs
  have hcs:=Yeo a h hc
  suffices e:cs=caps by rw[←e];exact hcs
  unfold Shp at hs
  split at hs
  ·rename_i hp
   match caps,h1 with
   | [v],h1=>
    have:=h1 v (by simp)
    have hs:v= .agg cs.toArray:=hs
    rw[hs]at this;exact this.elim
   | [],_=>
    have hs:Value.agg _= .agg cs.toArray:=hs
    injection hs with hs;exact(congrArg Array.toList hs).symm
   |v::v'::r,_=>
    have hs:Value.agg _= .agg cs.toArray:=hs
    injection hs with hs;exact(congrArg Array.toList hs).symm
  ·rename_i hp
   have hlen:cs.length=1:=by rw[hs];rfl
   have hone:=hcs.one
   match caps,h1 with
   | [v],h1=>exact hs
   | [],_=>
    have:=hone (YaD []) (by rw[hs];simp)
    exact this.elim
   |v::v'::r,_=>
    have:=hone (YaD (v::v'::r)) (by rw[hs];simp)
    exact this.elim
 cases a with
 |bptr r o=>obtain⟨cs,hc,hs⟩:=hv;exact key cs hc hs
 |nv b r=>obtain⟨cs,hc,hs⟩:=hv;exact key cs hc hs
 |pr x y=>obtain⟨cs,hc,hs⟩:=hv;exact key cs hc hs
 |_=>simp[YT]at h
theorem Yek {α:Type} {l:List α} (h:(!Ydo l)=true):l≠ []:=by
 rintro rfl;simp[Ydo]at h
theorem YcQ {G:Nat->AV} {T:Nat->Value} (hR:Roots w F H loc fp) (hV:View V H) (hs: ∀i,AVV w F H loc (G i) (T i)): ∀(l:List Nat) (p:Nat) (caps:List Value),Ycj G V p l=true->CapsR H loc l caps->caps=(List.range l.length).map λi=>T (p+i)
 | [],p,caps,_,h=>by
  match caps,h.1 with
  | [],_=>rfl
 |r::l,p,caps,h,hc=>by
  obtain⟨v,cs,rfl⟩: ∃v cs,caps=v::cs:=by
   match caps,hc.1 with
   |v::cs,_=>exact⟨v,cs,rfl⟩
  simp only[Ycj,Bool.and_eq_true]at h
  obtain⟨h1,h2⟩:=h
  have ih:=YcQ hR hV hs l (p+1) cs h2 hc.tail.2
  split at h1
  rotate_left
  ·cases h1
  rename_i r' hG
  rw[Bool.and_eq_true,beq_iff_eq]at h1
  obtain⟨rfl,hbk⟩:=h1
  have hT:=hs p
  rw[hG]at hT
  obtain⟨b1,e1,k1⟩:=YB.1 hT
  obtain⟨b2,e2,k2⟩:=hc.tail.1
  have hH:H r'=V r':=by
   refine(hV r' ?_).symm
   intro e;rw[e]at hbk;cases hbk
  have e3:v=T p:=by
   rw[e1,e2]
   cases hr:V r' with
   |box c=>rw[hH,hr]at k1 k2;rw[k1]at k2;injection k2 with k2;injection k2 with k2;injection k2 with k2;rw[k2]
   |kz f q=>rw[hH,hr]at k1 k2;rw[k1]at k2;injection k2 with k2;injection k2 with k2;injection k2 with k2;rw[k2]
   |pz t x=>rw[hH,hr]at k1 k2;rw[k1]at k2;injection k2 with k2;injection k2 with k2;injection k2 with k2;rw[k2]
   |_=>rw[hr]at hbk;cases hbk
  rw[ih,e3,List.length_cons,List.range_succ_eq_map,List.map_cons,List.map_map]
  congr 1
  apply List.map_congr_left
  intro i _
  show T (p+1+i)=T (p+(i+1))
  rw[show p+1+i=p+(i+1) by omega]
theorem YeZ: ∀ {cod:List (Nat×Cod)} {n:Nat},X8 cod n=none-> ∀q∈cod,q.1≠n
 | [],_,_,q,hq=>by cases hq
 |p::l,n,h,q,hq=>by
  simp only[X8]at h
  split at h
  ·cases h
  ·rename_i hne
   rcases List.mem_cons.1 hq with rfl|hq
   ·intro e;exact hne (by simp[e])
   ·exact YeZ h q hq
theorem Yeb: ∀ {cod:List (Nat×Cod)},Y5 (cod.map (·.1))=true-> ∀q∈cod,X8 cod q.1=some q.2
 | [],_,q,hq=>by cases hq
 |p::l,h,q,hq=>by
  simp only[List.map_cons,Y5,Bool.and_eq_true]at h
  simp only[X8]
  rcases List.mem_cons.1 hq with rfl|hq
  ·simp
  ·have hne: ¬p.1=q.1:=by
    intro e
    have:=List.all_eq_true.1 h.1 q.1 (List.mem_map_of_mem hq)
    simp[e]at this
   have:(p.1==q.1)=false:=by simpa using hne
   rw[this]
   exact Yeb h.2 q hq
theorem Yc2 {cod:List (Nat×Cod)} {G G':Nat->AV} {T:Nat->Value} (hR:Roots w F H loc fp) (hV:View V H) (hs: ∀i,AVV w F H loc (G i) (T i)) (h:Yck cod V G=some G'):
  ∃T',DressR w F cod T T'/\ ∀i,AVV w F H loc (G' i) (T' i):=by
 unfold Yck at h
 split at h
 ·cases h;exact⟨T,DressR.nil,hs⟩
 split at h
 rotate_left
 ·cases h
 rename_i hok
 cases h
 rw[Bool.and_eq_true]at hok
 obtain⟨hdis,hall⟩:=hok
 have key: ∀n,∃v',(match X8 cod n with|some c=>(∀T',T' n=v'->CodR w F T T' n c)/\AVV w F H loc (YiH V c (G n)) v'|none=>v'=T n):=by
  intro n
  cases hc:X8 cod n with
  |none=>exact⟨_,rfl⟩
  |some c=>
   have hmem:(n,c)∈cod:=by
    have: ∀(l:List (Nat×Cod)),X8 l n=some c->(n,c)∈l:=by
     intro l
     induction l with
     |nil=>intro h;cases h
     |cons p l ih=>
      intro h
      simp only[X8]at h
      split at h
      ·rename_i e
       cases h
       have:p.1=n:=by simpa using e
       rw[←this];exact List.mem_cons_self ..
      ·exact List.mem_cons_of_mem _ (ih h)
    exact this _ hc
   have hu:=List.all_eq_true.1 hall _ hmem
   have hT:=hs n
   cases c with
   |cl f=>
    simp only[Yh1]at hu
    split at hu
    rotate_left
    ·cases hu
    rename_i f' l hG
    rw[Bool.and_eq_true,beq_iff_eq]at hu
    obtain⟨rfl,hl⟩:=hu
    rw[hG]at hT
    obtain⟨caps,h1,h2⟩:=hT
    exact⟨YaD caps,λT' e=>⟨caps,h1,e,h2.one⟩,by rw[hG];exact YdA (Yek hl) h2⟩
   |kb f=>
    simp only[Yh1]at hu
    split at hu
    rotate_left
    ·cases hu
    rename_i r hG
    split at hu
    rotate_left
    ·cases hu
    rename_i f' l hVr
    rw[Bool.and_eq_true,beq_iff_eq]at hu
    obtain⟨rfl,hl⟩:=hu
    rw[hG]at hT
    obtain⟨b,e1,k1⟩:=YB.1 hT
    have hHr:=hV.arr hVr (by simp)
    have hok:=hR.ok r
    rw[hHr]at hok k1
    obtain⟨_,b2,caps,g1,g2,g3,g4⟩:=hok
    have k1:loc r=_:=k1
    rw[k1]at g1
    simp only[Value.pointer.injEq,Option.some.injEq,Addr.mk.injEq,and_true]at g1
    subst g1
    refine⟨YaD caps,λT' e=>⟨b,caps,e1,g2,g3,e,g4.one⟩,?_⟩
    simp only[YiH,hG,hVr]
    exact YdA (Yek hl) g4
   |kn f p c=>
    simp only[Yh1]at hu
    split at hu
    rotate_left
    ·cases hu
    rename_i r hG
    split at hu
    rotate_left
    ·cases hu
    rename_i f' l hVr
    simp only[Bool.and_eq_true,beq_iff_eq]at hu
    obtain⟨⟨rfl,rfl⟩,hsc⟩:=hu
    rw[hG]at hT
    obtain⟨b,e1,k1⟩:=YB.1 hT
    have hHr:=hV.arr hVr (by simp)
    have hok:=hR.ok r
    rw[hHr]at hok k1
    obtain⟨_,b2,caps,g1,g2,g3,g4⟩:=hok
    have k1:loc r=_:=k1
    rw[k1]at g1
    simp only[Value.pointer.injEq,Option.some.injEq,Addr.mk.injEq,and_true]at g1
    subst g1
    have hcaps:=YcQ hR hV hs l p caps hsc g4
    refine⟨T n,λT' _=>⟨b,e1,g2,by rw[g3,hcaps]⟩,trivial⟩
 obtain⟨T',hT'⟩:=Classical.axiomOfChoice key
 refine⟨T',⟨λq hq=>?_,λn hn=>?_⟩,λi=>?_⟩
 ·have:=hT' q.1
  rw[Yeb hdis q hq]at this
  exact this.1 T' rfl
 ·have:=hT' n
  cases hc:X8 cod n with
  |none=>rw[hc]at this;exact this
  |some c=>
   exfalso
   have hmem: ∀(l:List (Nat×Cod)),X8 l n=some c-> ∃q∈l,q.1=n:=by
    intro l
    induction l with
    |nil=>intro h;cases h
    |cons p l ih=>
     intro h
     simp only[X8]at h
     split at h
     ·rename_i e;exact⟨p,List.mem_cons_self ..,by simpa using e⟩
     ·obtain⟨q,h1,h2⟩:=ih h;exact⟨q,List.mem_cons_of_mem _ h1,h2⟩
   obtain⟨q,h1,h2⟩:=hmem _ hc
   exact hn q h1 h2
 ·have:=hT' i
  dsimp only
  cases hc:X8 cod i with
  |none=>rw[hc]at this;rw[this];exact hs i
  |some c=>rw[hc]at this;exact this.2
theorem YeR {cod:List (Nat×Cod)} {avs avs':List AV} {args:List Value} (hR:Roots w F H loc fp) (hV:View V H) (hl:avs.length=args.length) (hs: ∀(i:Nat) (x:AV) (v:Value),avs[i]? =some x->args[i]? =some v->AVV w F H loc x v) (h:Yc1 cod V avs=some avs'):
  ∃vs,DressA w F cod args vs/\avs'.length=vs.length/\ ∀(i:Nat) (x:AV) (v:Value),avs'[i]? =some x->vs[i]? =some v->AVV w F H loc x v:=by
 unfold Yc1 at h
 split at h
 ·cases h;exact⟨args,DressA.nil,hl,hs⟩
 split at h
 rotate_left
 ·cases h
 rename_i G hG
 cases h
 have hs': ∀i,AVV w F H loc (Yin avs i) (args.getD i undef):=λi=>by
  unfold Yin
  rw[List.getD_eq_getElem?_getD,List.getD_eq_getElem?_getD]
  rcases Nat.lt_or_ge i avs.length with hlt|hge
  ·rw[List.getElem?_eq_getElem hlt,List.getElem?_eq_getElem (by omega)]
   exact hs i _ _ (List.getElem?_eq_getElem hlt) (List.getElem?_eq_getElem (by omega))
  ·rw[List.getElem?_eq_none hge];trivial
 obtain⟨T',hd,hT'⟩:=Yc2 (T:=λi=>args.getD i undef) hR hV hs' hG
 refine⟨(List.range args.length).map T',⟨by simp,?_⟩,by simp[hl],λi x v hx hv=>?_⟩
 ·have e:(λi=>((List.range args.length).map T').getD i undef)=λi=>if i<args.length then T' i else undef:=by
   funext i
   rw[List.getD_eq_getElem?_getD,List.getElem?_map]
   by_cases h:i<args.length
   ·rw[List.getElem?_range h,if_pos h];rfl
   ·rw[List.getElem?_eq_none (by simp;omega),if_neg h];rfl
  have hund: ∀i,¬i<args.length->args.getD i undef=undef:=λi h=>by rw[List.getD_eq_getElem?_getD,List.getElem?_eq_none (by omega)];rfl
  have hlt: ∀q∈cod,q.1<args.length:=λq hq=>by
   refine Classical.byContradiction λhn=>?_
   have h1:=hd.1 q hq
   have h2:=hund q.1 hn
   cases hq2:q.2 with
   |cl f=>rw[hq2]at h1;obtain⟨caps,h1,_⟩:=h1;dsimp only at h1;rw[h2]at h1;cases h1
   |kb f=>rw[hq2]at h1;obtain⟨b,caps,h1,_⟩:=h1;dsimp only at h1;rw[h2]at h1;cases h1
   |kn f p c=>rw[hq2]at h1;obtain⟨b,h1,_⟩:=h1;dsimp only at h1;rw[h2]at h1;cases h1
  rw[e]
  refine⟨λq hq=>?_,λn hn=>?_⟩
  ·have h1:=hd.1 q hq
   have h2:=hlt q hq
   cases hq2:q.2 with
   |cl f=>rw[hq2]at h1;obtain⟨caps,g1,g2,g3⟩:=h1;exact⟨caps,g1,by dsimp only;rw[if_pos h2];exact g2,g3⟩
   |kb f=>rw[hq2]at h1;obtain⟨b,caps,g1,g2,g3,g4,g5⟩:=h1;exact⟨b,caps,g1,g2,g3,by dsimp only;rw[if_pos h2];exact g4,g5⟩
   |kn f p c=>rw[hq2]at h1;exact h1
  ·dsimp only
   split
   ·exact hd.2 n hn
   ·rename_i h;exact(hund n h).symm
 ·rw[List.getElem?_map]at hx hv
  rcases Nat.lt_or_ge i args.length with hlt|hge
  ·rw[List.getElem?_range (by omega)]at hx
   rw[List.getElem?_range hlt]at hv
   simp only[Option.map_some,Option.some.injEq]at hx hv
   subst hx;subst hv
   exact hT' i
  ·rw[List.getElem?_eq_none (by simp;omega)]at hv;cases hv
theorem YbZ {G:Nat->AV} {T:Nat->Value} {n:Nat} (hs: ∀i,i≠n->AVV w F H loc (G i) (T i)) (hn:BptrR H loc (n*16+15) 0 (T n)): ∀(c p:Nat) (l:List Nat),YaC G n c p=some l->CapsR H loc l ((List.range c).map λi=>T (p+i))
 |0,p,l,h=>by
  simp only[YaC,Option.some.injEq]at h;subst h
  exact⟨rfl,λi s x hs=>by simp at hs⟩
 |c+1,p,l,h=>by
  simp only[YaC]at h
  split at h
  rotate_left
  ·cases h
  rename_i r l' h1 h2
  cases h
  have ih:=YbZ hs hn c (p+1) l' h2
  rw[List.range_succ_eq_map,List.map_cons,List.map_map]
  have e:(List.map ((λi=>T (p+i)) ∘ Nat.succ) (List.range c))=(List.range c).map λi=>T (p+1+i):=by
   apply List.map_congr_left
   intro i _
   show T (p+(i+1))=T (p+1+i)
   rw[show p+1+i=p+(i+1) by omega]
  rw[e]
  refine CapsR.cons ?_ ih
  split at h1
  ·rename_i hpn
   have hpn:p=n:=by simpa using hpn
   cases h1
   subst hpn;exact hn
  ·rename_i hpn
   have hpn:p≠n:=by simpa using hpn
   split at h1
   rotate_left
   ·cases h1
   rename_i r' hG
   cases h1
   have:=hs p hpn
   rw[hG]at this
   exact YB.1 this
theorem Yf4 {s s':St} {q:Nat×Cod} {T Tc:Nat->Value} (hR:Roots w F s.H loc fp) (hs: ∀i,AVV w F s.H loc (s.G i) (Tc i)) (hc:CodR w F T Tc q.1 q.2) (hT:YiU q.2=true-> ∀i,i≠q.1->Tc i=T i) (h:Ycv s q=some s'):
  ∃loc' fp',Roots w F s'.H loc' fp'/\Keep w F s.H loc w F s'.H loc'/\(∀i,AVV w F s'.H loc' (s'.G i) (if i=q.1 then T i else Tc i))/\(∀r n,fp' r n->fp r n)/\ ∀r,Yn (s'.H r)=true∨Ym (s'.H r)=true->s'.H r=s.H r/\loc' r=loc r:=by
 obtain⟨n,c⟩:=q
 have put: ∀ {s2:St} {loc':Loc} {y:AV},Keep w F s.H loc w F s2.H loc'->s2.G=s.G->AVV w F s2.H loc' y (T n)-> ∀i,AVV w F (s2.put n y).H loc' ((s2.put n y).G i) (if i=n then T i else Tc i):=by
  intro s2 loc' y hk hG hy i
  by_cases e:i=n
  ·subst e
   simp only[St.put,beq_self_eq_true,if_true];exact hy
  ·simp only[St.put,beq_iff_eq,e,if_false,hG];exact hk.v _ _ (hs i)
 have fsub: ∀ {r0:Nat} (r m:Nat),Yq fp r0 Fp.none r m->fp r m:=fun {r0} r m h=>by
  by_cases e:r=r0
  ·simp[Yq,e,Fp.none]at h
  ·simpa[Yq,e]using h
 have pins: ∀ {f:Nat} {l:List Nat} {v:Value} (r:Nat),Yn ((s.H.set (n*16+15) (.kz f l)) r)=true∨Ym ((s.H.set (n*16+15) (.kz f l)) r)=true->(s.H.set (n*16+15) (.kz f l)) r=s.H r/\(loc.set (n*16+15) v) r=loc r:=by
  intro f l v r h
  by_cases e:r=n*16+15
  ·subst e;rw[Store.set_same]at h;simp[Yn,Ym]at h
  ·rw[Store.set_other _ _ e];simp[Loc.set,e]
 cases c with
 |cl f=>
  simp only[Ycv]at h
  split at h
  rotate_left
  ·cases h
  rename_i l hl
  cases h
  obtain⟨caps,h1,h2,h3⟩:=hc
  have hv:=hs n
  dsimp only at h2
  rw[h2]at hv
  have hcap:=Ydq hl hv h3
  exact⟨loc,fp,hR,Keep.refl ..,put (s2:=s) (Keep.refl ..) rfl ⟨caps,h1,hcap⟩,λ_ _ h=>h,λr _=>⟨rfl,rfl⟩⟩
 |kb f=>
  simp only[Ycv]at h
  split at h
  rotate_left
  ·cases h
  rename_i l hl hfr
  cases h
  obtain⟨b,caps,h1,h2,h3,h4,h5⟩:=hc
  have hv:=hs n
  dsimp only at h4
  rw[h4]at hv
  have hcap:=Ydq hl hv h5
  obtain⟨g1,g2⟩:=Xp hR hfr (R:= .kz f l) (l:= .pointer (some ⟨b,0,none⟩)) (f:=Fp.none) (λH' loc' k=>⟨λ_ h=>h,b,caps,rfl,h2,h3,hcap.keep k⟩) (λ_ _ h=>h.elim) (λ_ h=>h.elim)
  refine⟨_,_,g1,g2,put (s2:=⟨s.G,s.H.set (n*16+15) (.kz f l)⟩) g2 rfl ?_,fsub,pins⟩
  rw[h1]
  refine YB.2 ⟨b,rfl,?_⟩
  simp[Store.set_same,Loc.set]
 |kn f p c=>
  simp only[Ycv]at h
  split at h
  rotate_left
  ·cases h
  rename_i l hl hfr
  cases h
  obtain⟨b,h1,h2,h3⟩:=hc
  have hTc:=hT rfl
  have hcr: ∀ {H':Store} {loc':Loc},Keep w F s.H loc w F H' loc'->BptrR H' loc' (n*16+15) 0 (T n)->CapsR H' loc' l ((List.range c).map λi=>T (p+i)):=λk hb=>
   YbZ (λi hi=>by have:=k.v _ _ (hs i);rw[hTc i hi]at this;exact this) hb c p l hl
  obtain⟨g1,g2⟩:=Ydf hR hfr (R:= .kz f l) (l:= .pointer (some ⟨b,0,none⟩)) (f:=Fp.none) (λk=>⟨λ_ h=>h,b,_,rfl,h2,h3,hcr k ⟨b,h1,by simp[Store.set_same,Loc.set]⟩⟩) (λ_ _ h=>h.elim) (λ_ h=>h.elim)
  refine⟨_,_,g1,g2,put (s2:=⟨s.G,s.H.set (n*16+15) (.kz f l)⟩) g2 rfl ?_,fsub,pins⟩
  rw[h1]
  refine YB.2 ⟨b,rfl,?_⟩
  simp[Store.set_same,Loc.set]
theorem Ydj {T:Nat->Value}: ∀(cod:List (Nat×Cod)) {s s':St} {loc:Loc} {fp:Nat->Fp} {Tc:Nat->Value},Y5 (cod.map (·.1))=true->Roots w F s.H loc fp->(∀i,AVV w F s.H loc (s.G i) (Tc i))->DressR w F cod T Tc->Ycw cod s=some s'->
  ∃loc' fp',Roots w F s'.H loc' fp'/\Keep w F s.H loc w F s'.H loc'/\(∀i,AVV w F s'.H loc' (s'.G i) (T i))/\(∀r n,fp' r n->fp r n)/\ ∀r,Yn (s'.H r)=true∨Ym (s'.H r)=true->s'.H r=s.H r/\loc' r=loc r
 | [],s,s',loc,fp,Tc,_,hR,hs,hd,h=>by
  simp only[Ycw,Option.some.injEq]at h;subst h
  have:=hd.same;subst this
  exact⟨loc,fp,hR,Keep.refl ..,hs,λ_ _ h=>h,λ_ _=>⟨rfl,rfl⟩⟩
 |q::l,s,s',loc,fp,Tc,hdis,hR,hs,hd,h=>by
  simp only[Ycw]at h
  split at h
  ·cases h
  rename_i hkn
  split at h
  rotate_left
  ·cases h
  rename_i s1 h1
  simp only[List.map_cons,Y5,Bool.and_eq_true]at hdis
  have hne: ∀p∈l,p.1≠q.1:=λp hp=>by
   have:=List.all_eq_true.1 hdis.1 p.1 (List.mem_map_of_mem hp)
   simpa using this
  obtain⟨loc1,fp1,g1,g2,g3,g4,g5⟩:=Yf4 hR hs (hd.1 q (List.mem_cons_self ..)) (λhk i hi=>hd.2 i λp hp=>by
   rcases List.mem_cons.1 hp with rfl|hp
   ·exact hi.symm
   ·exfalso
    rw[hk]at hkn
    cases l with
    |nil=>cases hp
    |cons=>simp[Ydo]at hkn) h1
  have hd1:DressR w F l T (λi=>if i=q.1 then T i else Tc i):=by
   refine⟨λp hp=>?_,λn hn=>?_⟩
   ·have h2:=hd.1 p (List.mem_cons_of_mem _ hp)
    have h3:=hne p hp
    cases hq2:p.2 with
    |cl f=>rw[hq2]at h2;obtain⟨caps,k1,k2,k3⟩:=h2;exact⟨caps,k1,by dsimp only;rw[if_neg h3];exact k2,k3⟩
    |kb f=>rw[hq2]at h2;obtain⟨b,caps,k1,k2,k3,k4,k5⟩:=h2;exact⟨b,caps,k1,k2,k3,by dsimp only;rw[if_neg h3];exact k4,k5⟩
    |kn f p c=>rw[hq2]at h2;exact h2
   ·dsimp only
    split
    ·rfl
    ·rename_i e
     exact hd.2 n λp hp=>by
      rcases List.mem_cons.1 hp with rfl|hp
      ·exact λe'=>e e'.symm
      ·exact hn p hp
  obtain⟨loc2,fp2,k1,k2,k3,k4,k5⟩:=Ydj l hdis.2 g1 g3 hd1 h
  refine⟨loc2,fp2,k1,g2.trans k2,k3,λr n h=>g4 r n (k4 r n h),λr hr=>?_⟩
  obtain⟨e1,e2⟩:=k5 r hr
  rw[e1]at hr
  obtain⟨e3,e4⟩:=g5 r hr
  exact⟨e1.trans e3,e2.trans e4⟩
theorem Yec {T Tc:Nat->Value} {cod:List (Nat×Cod)} {s s':St} (hR:Roots w F s.H loc fp) (hs: ∀i,AVV w F s.H loc (s.G i) (Tc i)) (hd:DressR w F cod T Tc) (h:YfB cod s=some s'):
  ∃loc' fp',Roots w F s'.H loc' fp'/\Keep w F s.H loc w F s'.H loc'/\(∀i,AVV w F s'.H loc' (s'.G i) (T i))/\(∀r n,fp' r n->fp r n)/\ ∀r,Yn (s'.H r)=true∨Ym (s'.H r)=true->s'.H r=s.H r/\loc' r=loc r:=by
 unfold YfB at h
 split at h
 ·cases h
  have:=hd.same;subst this
  exact⟨loc,fp,hR,Keep.refl ..,hs,λ_ _ h=>h,λ_ _=>⟨rfl,rfl⟩⟩
 split at h
 rotate_left
 ·cases h
 rename_i hdis
 exact Ydj cod hdis hR hs hd h
end
end Go.Va
namespace Go.Va
def X7 (a:AD) (v:Value) (cs:List Value):Prop:=match a with
 | .jk _=>True
 |_=>if Ybv a then v= .agg cs.toArray else cs= [v]
def DV (w:World) (F:Fp) (a:AD) (v:Value) (x:a.den) (f:Fp):Prop:= ∃cs,DR w F a cs x f/\X7 a v cs
def ArgsR (w:World) (F:Fp):(l:List AD)->List Value->YH l->Fp->Prop
 | [],vs,_,f=>vs= []/\ ∀n,¬f n
 | [a],vs,x,f=> ∃v,vs= [v]/\DV w F a v x f
 |a::b::l,vs,x,f=> ∃(v:Value) (r:List Value) (f1 f2:Fp),vs=v::r/\(∀n,f n↔f1 n∨f2 n)/\(∀n,f1 n->f2 n->False)/\DV w F a v x.1 f1/\ArgsR w F (b::l) r x.2 f2
def OutR (w:World) (F:Fp):(a:AD)->List Value->a.out->Fp->Prop
 | .v _,_,_,f=> ∀n,¬f n
 | .mv _ _,_,_,f=> ∀n,¬f n
 | .mp _,_,_,f=> ∀n,¬f n
 | .nv _ _,_,_,f=> ∀n,¬f n
 | .jk _,_,_,f=> ∀n,¬f n
 | .un,_,_,f=> ∀n,¬f n
 | .gs _ _,_,_,f=> ∀n,¬f n
 | .pz _,_,_,f=> ∀n,¬f n
 | .bf e,cs,y,f=> ∃l,cs= [l]/\BfR w F e l y f
 | .io e d,cs,y,f=>Rep w F (.slice e) (d+1) cs y f
 | .pr a b,cs,y,f=> ∃(c1 c2:List Value) (f1 f2:Fp),cs=c1++c2/\c1.length=a.cells/\(∀n,f n↔f1 n∨f2 n)/\(∀n,f1 n->f2 n->False)/\OutR w F a c1 y.1 f1/\OutR w F b c2 y.2 f2
 | .bx a,cs,y,f=>DR w F (.bx a) cs y f
def OutV (w:World) (F:Fp) (a:AD) (v:Value) (y:a.out) (f:Fp):Prop:= ∀cs,X7 a v cs->cs.length=a.cells->OutR w F a cs y f
def OutsR (w:World) (F:Fp):(l:List AD)->List Value->XK l->Fp->Prop
 | [],_,_,f=> ∀n,¬f n
 | [a],vs,y,f=> ∃v,vs= [v]/\OutV w F a v y f
 |a::b::l,vs,y,f=> ∃(v:Value) (r:List Value) (f1 f2:Fp),vs=v::r/\(∀n,f n↔f1 n∨f2 n)/\(∀n,f1 n->f2 n->False)/\OutV w F a v y.1 f1/\OutsR w F (b::l) r y.2 f2
def Yfr:List Value->Value
 | [v]=>v
 |l=> .tuple l.toArray
structure Ret (w:World) (F:Fp) (en:Entry) (b:en.B) (args:List Value) (fA:Fp) (vs:List Value) (w':World) (F' fR fO:Fp):Prop where
 res:ArgsR w' F' en.results vs (en.res b) fR
 out:OutsR w' F' en.params args (en.out b) fO
 disj: ∀n,fR n->fO n->False
 own: ∀n,fR n∨fO n->fA n∨w.heap.size<=n
 off: ∀n,fR n∨fO n-> ¬F' n
 mono: ∀n,F n->F' n
 frz: ∀n,F' n->F n∨fA n∨w.heap.size<=n
 dom: ∀n,F' n->n<w'.heap.size
 big:w.heap.size<=w'.heap.size
 same: ∀n,n<w.heap.size-> ¬fA n->w'.heap[n]? =w.heap[n]?
 rest:w'.os=w.os/\(w'.tape,w'.output)=(w.tape,w.output)
def Holds (P:Program) (f:FuncId) (en:Entry):Prop:=
 ∀(a:YH en.params) (b:en.B),en.run a=some b-> ∀(w:World) (F:Fp) (args:Array Value) (vs:List Value) (fA:Fp),DressA w F en.cod args.toList vs->ArgsR w F en.params vs a fA->(∀n,fA n-> ¬F n)->(∀n,F n->n<w.heap.size)->
  Calls P f args w λe w'=> ∃rs F' fR fO,e= .returned (Yfr rs)/\Ret w F en b vs fA rs w' F' fR fO
section
variable {P:Program} {w w':World} {F F1 F2:Fp} {H V:Store} {loc:Loc} {fp fp1 fp2:Nat->Fp}
theorem DV.mono {F':Fp} (hF: ∀n,F n->F' n) {a:AD} {v:Value} {x:a.den} {f:Fp} (h:DV w F a v x f):DV w F' a v x f:=by
 obtain⟨cs,h1,h2⟩:=h;exact⟨cs,DR.mono hF a h1,h2⟩
theorem Yf6 {a:AV} {v:Value} (h:AVV w F H loc a v) (hc:Yaf a=true): ∃cs,AVC w F H loc a cs/\Shp a v cs:=by
 cases a with
 |val t y=>obtain⟨cs,h1,h2⟩:=h;exact⟨cs,h1,h2⟩
 |nils=>obtain⟨cs,h1,h2⟩:=h;exact⟨cs,h1,h2⟩
 |ref r ver p=>obtain⟨cs,h1,h2⟩:=h;exact⟨cs,h1,h2⟩
 |bptr r o=>obtain⟨cs,h1,h2⟩:=h;exact⟨cs,h1,h2⟩
 |nv b r=>obtain⟨cs,h1,h2⟩:=h;exact⟨cs,h1,h2⟩
 |pr x y=>obtain⟨cs,h1,h2⟩:=h;exact⟨cs,h1,h2⟩
 |_=>simp[Yaf]at hc
theorem ArgsR.mono {F':Fp} (hF: ∀n,F n->F' n): ∀ {l:List AD} {vs:List Value} {x:YH l} {f:Fp},ArgsR w F l vs x f->ArgsR w F' l vs x f
 | [],_,_,_,h=>h
 | [_],_,_,_,⟨v,h1,h2⟩=>⟨v,h1,h2.mono hF⟩
 |_::_::_,_,_,_,⟨v,r,f1,f2,h1,h2,h3,h4,h5⟩=>⟨v,r,f1,f2,h1,h2,h3,h4.mono hF,ArgsR.mono hF h5⟩
theorem YaO {ad:AD} {a:AV} {v:Value} (h:AVV w F H loc a v) (hs:Yav ad a=true) (hj: ∀n,ad= .jk n->a= .jk n): ∃cs,AVC w F H loc a cs/\X7 ad v cs:=by
 by_cases hjk: ∃n,ad= .jk n
 ·obtain⟨n,rfl⟩:=hjk
  rw[hj n rfl]
  exact⟨List.replicate n undef,by simp[AVC],trivial⟩
 ·unfold Yav at hs
  split at hs
  ·rename_i n;exact absurd ⟨n,rfl⟩ hjk
  ·simp only[Bool.and_eq_true,beq_iff_eq]at hs
   obtain⟨cs,h1,h2⟩:=Yf6 h hs.1
   refine⟨cs,h1,?_⟩
   unfold X7
   split
   ·exact absurd ⟨_,rfl⟩ hjk
   ·rw[←hs.2];exact h2
theorem Ydg {share:Bool} {ad:AD} {a:AV} {v:Value} {x:ad.den} {u:Ups} (h:AVV w F H loc a v) (ht:Yh V share ad a=some (x,u)) (hs:Yav ad a=true): ∃cs,AVC w F H loc a cs/\X7 ad v cs:=
 YaO h hs λn e=>by
  subst e
  cases a with
  |jk m=>
   simp only[Yh]at ht
   split at ht
   ·rename_i e;rw[e]
   ·cases ht
  |_=>simp[Yh]at ht
theorem XV: ∀(l:List AD) (as:List AV) {V V':Store},(∀r,(r,true)∈Yf V l as->V' r=V r)->Yf V' l as=Yf V l as
 | [],_,_,_,_=>by simp[Yf]
 |a::l,[],_,_,_=>by simp[Yf]
 |a::l,x::as,V,V',h=>by
  simp only[Yf]at h⊢
  rw[Xm a λr hr=>h r (List.mem_append_left _ hr),XV l as λr hr=>h r (List.mem_append_right _ hr)]
def LentAs (w:World) (F:Fp) (loc:Loc) (fp:Nat->Fp) (V:Store):List AD->List AV->List Value->(Nat->Fp)->Prop
 | [],_,_,_=>True
 |a::l,as,vs,lent=> ∃x r v q,as=x::r/\vs=v::q/\(∃cs,X7 a v cs/\cs.length=a.cells/\LentA w F loc fp V a x cs lent)/\LentAs w F loc fp V l r q lent
theorem LentAs.congr (hF: ∀n,F n->F1 n): ∀(l:List AD) {V V':Store} {fp fp':Nat->Fp} {as:List AV} {vs:List Value} {lent lent':Nat->Fp},(∀r,(r,true)∈Yf V l as->V' r=V r/\fp' r=fp r/\lent' r=lent r)->
  LentAs w F loc fp V l as vs lent->LentAs w F1 loc fp' V' l as vs lent'
 | [],_,_,_,_,_,_,_,_,_,_=>trivial
 |a::l,V,V',fp,fp',as,vs,lent,lent',h,⟨x,r,v,q,h1,h2,⟨cs,h3,h4,h5⟩,h6⟩=>by
  subst h1
  simp only[Yf]at h
  exact⟨x,r,v,q,rfl,h2,⟨cs,h3,h4,LentA.congr hF a (λr hr=>h r (List.mem_append_left _ hr)) h5⟩,LentAs.congr hF l (λr hr=>h r (List.mem_append_right _ hr)) h6⟩
theorem Yax (H:Store) (share:Bool) (as:List AV):Xx H share [] as=(match as with| []=>some ((),[])|_=>none):=rfl
theorem Xy (H:Store) (share:Bool) (a:AD) (as:List AV):Xx H share [a] as=(match as with| [x]=>Yh H share a x|_=>none):=rfl
theorem Xe (H:Store) (share:Bool) (a b:AD) (l:List AD) (as:List AV):Xx H share (a::b::l) as=(match as with
  |x::r=>
   (match Yh H share a x with
   |some (u,u1)=>(match Xx (H.upd u1) share (b::l) r with|some (v,u2)=>some ((u,v),u1++u2)|none=>none)
   |none=>none)
  | []=>none):=rfl
theorem Yb4 {share:Bool}: ∀(l:List AD) (as:List AV) {F:Fp} {H V:Store} {fp:Nat->Fp} {x:YH l} {u:Ups} {vs:List Value},Roots w F H loc fp->View V H->
  as.length=vs.length->(∀(i:Nat) (a:AV) (v:Value),as[i]? =some a->vs[i]? =some v->AVV w F H loc a v)->YaP l as=true->
  (share=false->l.all AD.plain=true)->Xx V share l as=some (x,u)->YE (Yf V l as)=true->
  ∃F' fp' f lent,ArgT w F H loc fp share (Yf V l as) u F' fp' f (X3 (Yf V l as) lent)/\ArgsR w (YeS F' fp' share (Yf V l as)) l vs x (λn=>f n∨X3 (Yf V l as) lent n)/\LentAs w F' loc fp' V l as vs lent
 | [],as,F,H,V,fp,x,u,vs,hR,hV,hlen,hv,hsp,hsh,ht,hal=>by
  cases as with
  |nil=>
   have:vs= []:=List.length_eq_zero_iff.1 hlen.symm
   subst this
   rw[Yax]at ht
   cases ht
   exact⟨F,fp,Fp.none,λ_=>Fp.none,⟨Taken.nil hR,λ_ h=>(YC h).elim,by simp⟩,⟨rfl,λ_ h=>h.elim id YC⟩,trivial⟩
  |cons=>rw[Yax]at ht;cases ht
 | [ad],as,F,H,V,fp,x,u,vs,hR,hV,hlen,hv,hsp,hsh,ht,hal=>by
  match as,vs,hlen with
  | [],_,_=>rw[Xy]at ht;cases ht
  |_::_::_,_,_=>rw[Xy]at ht;cases ht
  | [a],[v],_=>
   rw[Xy]at ht
   have ht:Yh V share ad a=some (x,u):=ht
   simp only[YaP,Bool.and_eq_true]at hsp
   simp only[Yf,List.append_nil]at hal⊢
   obtain⟨cs,hc,hs⟩:=Ydg (x:=x) (hv 0 a v rfl rfl) ht hsp.1
   obtain⟨F',fp',f,lent,h1,h2,h3⟩:=Yaw (x:=x) ad hR hV hc (λe=>by have:=hsh e;simpa using this) ht hal
   exact⟨F',fp',f,lent,h1,⟨v,rfl,cs,h2,hs⟩,a,[],v,[],rfl,rfl,⟨cs,hs,DR.len ad h2,h3⟩,trivial⟩
 |ad::bd::l,as,F,H,V,fp,x,u,vs,hR,hV,hlen,hv,hsp,hsh,ht,hal=>by
  match as,vs,hlen with
  | [],_,_=>rw[Xe]at ht;cases ht
  |a::r,v::vs,hlen=>
   rw[Xe]at ht
   dsimp only at ht
   split at ht
   rotate_left
   ·cases ht
   rename_i x1 u1 h1
   split at ht
   rotate_left
   ·cases ht
   rename_i x2 u2 h2
   cases ht
   rw[YaP,Bool.and_eq_true]at hsp
   rw[Yf]at hal⊢
   obtain⟨al1,al2,hap⟩:=YA _ _ hal
   have hp:share=false->ad.plain=true/\(bd::l).all AD.plain=true:=λe=>by have:=hsh e;simpa using this
   obtain⟨cs,hc,hs⟩:=Ydg (x:=x1) (hv 0 a v rfl rfl) h1 hsp.1
   obtain⟨F1,fp1,f1,n1,ht1,hr1,hL1⟩:=Yaw (x:=x1) ad hR hV hc (λe=>(hp e).1) h1 al1
   have hroots:Yf (V.upd u1) (bd::l) r=Yf V (bd::l) r:=XV _ _ λr hr=>Yy u1 λq hq e=>by
    obtain⟨b,hb,_⟩:=ht1.ups q hq
    have:=(hap _ hb _ hr e).2
    cases this
   obtain⟨F2,fp2,f2,n2,ht2,hr2,hL2⟩:=Yb4 (bd::l) r (x:=x2) (vs:=vs) ht1.t.roots (hV.upd u1) (by simpa using hlen) (λi a v ha hvv=>ht1.t.keep.v _ _ (hv (i+1) a v ha hvv)) hsp.2 (λe=>(hp e).2) h2 (by rw[hroots];exact al2)
   rw[hroots]at ht2 hr2
   obtain⟨ht,hd,hm1,hm2⟩:=ArgT.seq hap ht1 ht2
   have hfi:(λn=>X3 (Yc V ad a) n1 n∨X3 (Yf V (bd::l) r) n2 n)=X3 (Yc V ad a++Yf V (bd::l) r) (YcC (Yc V ad a) n1 n2):=Fp.eq λn=>(Ydk hap n).symm
   rw[hfi]at ht
   have hk1: ∀q,(q,true)∈Yc V ad a->fp2 q=fp1 q:=λr hr=>ht2.t.kept r λq hq e=>by
    obtain⟨b,hb,_⟩:=ht2.ups q hq
    have:=(hap (r,true) hr _ hb e.symm).1
    cases this
   have hV2: ∀q,(q,true)∈Yf V (bd::l) r->V q=(V.upd u1) q:=λr hr=>(Yy u1 λq hq e=>by
    obtain⟨b,hb,_⟩:=ht1.ups q hq
    have:=(hap _ hb _ hr e).2
    cases this).symm
   refine⟨F2,fp2,_,_,ht,⟨v,vs,_,_,rfl,λn=>?_,hd,⟨cs,DR.mono hm1 ad hr1,hs⟩,?_⟩,a,r,v,vs,rfl,rfl,⟨cs,hs,DR.len ad hr1,LentA.congr ht2.t.mono ad (λq hq=>⟨rfl,hk1 q hq,Yar hq⟩) hL1⟩,LentAs.congr (λ_ h=>h) (bd::l) (λq hq=>by rw[hroots]at hq;exact⟨hV2 q hq,rfl,X9 hap hq⟩) hL2⟩
   ·rw[←hfi]
    constructor
    ·rintro ((h|h)|(h|h))
     ·exact .inl (.inl h)
     ·exact .inr (.inl h)
     ·exact .inl (.inr h)
     ·exact .inr (.inr h)
    ·rintro ((h|h)|(h|h))
     ·exact .inl (.inl h)
     ·exact .inr (.inl h)
     ·exact .inl (.inr h)
     ·exact .inr (.inr h)
   ·exact ArgsR.mono hm2 hr2
end
end Go.Va
namespace Go.Va
def Yb (V:Store):AD->AV->List Nat
 | .io _ _,x=>Yj x
 | .bf _,x=>Yj x
 | .bx _,.bptr r _=> [r]
 | .pr a b,x=>
  match Yd x [.fst],Yd x [.snd]with
  |some y,some z=>Yb V a y++Yb V b z
  |_,_=> []
 |_,_=> []
def Yg (V:Store):List AD->List AV->List Nat
 |a::l,x::r=>Yb V a x++Yg V l r
 |_,_=> []
section
variable {P:Program} {w w':World} {F F1 Fx:Fp} {H H1 V:Store} {loc:Loc} {fp fp1:Nat->Fp}
theorem YG: ∀(ad:AD) {V:Store} {a:AV} {r:Nat},r∈Yb V ad a->(r,true)∈Yc V ad a
 | .v _,_,_,_,h=>by simp[Yb]at h
 | .mv _ _,_,_,_,h=>by simp[Yb]at h
 | .mp _,_,_,_,h=>by simp[Yb]at h
 | .nv _ _,_,_,_,h=>by simp[Yb]at h
 | .jk _,_,_,_,h=>by simp[Yb]at h
 | .un,_,_,_,h=>by simp[Yb]at h
 | .gs _ _,_,_,_,h=>by simp[Yb]at h
 | .pz _,_,_,_,h=>by simp[Yb]at h
 | .io _ _,_,_,_,h=>List.mem_map_of_mem (f:=λr=>(r,true)) h
 | .bf _,_,_,_,h=>List.mem_map_of_mem (f:=λr=>(r,true)) h
 | .bx ad,V,a,r,h=>by
  cases a with
  |bptr r' o=>simp only[Yb,List.mem_singleton]at h;subst h;simp[Yc]
  |_=>simp[Yb]at h
 | .pr a b,V,x,r,h=>by
  simp only[Yb]at h
  simp only[Yc]
  cases hy:Yd x [.fst]with
  |none=>simp[hy]at h
  |some y=>
   cases hz:Yd x [.snd]with
   |none=>simp[hy,hz]at h
   |some z=>
    simp only[hy,hz]at h⊢
    rcases List.mem_append.1 h with h|h
    ·exact List.mem_append_left _ (YG a h)
    ·exact List.mem_append_right _ (YG b h)
def Yh3 (w:World) (F1:Fp) (H1:Store) (loc:Loc) (w':World) (Fx:Fp) (R:Root) (l:Value) (f:Fp):Prop:=match R with
 | .free=> ∀n,¬f n
 | .gone=> ∀n,¬f n
 | .box c=> ∃b cs,l= .pointer (some ⟨b,0,none⟩)/\Blk w' b cs/\cs.length=c.length/\(∀n,f n↔n=b)/\ ∀(j:Nat) a v,c[j]? =some a->cs[j]? =some v->YF a=false/\(a= .un∨AVC w F1 H1 loc a [v])
 | .arr e d xs _ _=>Rep w' Fx (.slice e) (d+1) [l] xs f
 | .fz e xs=>Rep w' Fx (.slice e) 0 [l] xs f
 | .pz t x=>Rep w' Fx (.ptr t) 0 [l] (true,x) f
 | .mp k ks=> ∃b,l= .map (some b)/\(∀n,f n↔n=b)/\Yde w' b k ks
 | .kz g q=>(∀n,¬f n)/\ ∃(b:Nat) (caps:List Value),l= .pointer (some ⟨b,0,none⟩)/\Fx b/\w'.cell? ⟨b,0,none⟩=some (.func (.func g) #[] caps.toArray)/\CapsR H1 loc q caps
 | .ho e d xs _ _ i=>HoR w' Fx e d i l xs f
 | .bf e xs n _ _=>BfR w' Fx e l xs f/\VwV l (List.length xs) n l
 | .lnk r ver j=>(∀n,¬f n)/\AVC w F1 H1 loc (.ref r ver [.idx j]) [l]
structure Jump (w:World) (F1:Fp) (H1:Store) (loc:Loc) (fp1:Nat->Fp) (lent:Nat->Fp) (w':World) (Fx:Fp) (rem:Nat->Prop) (H':Store) (fp':Nat->Fp) (hand:Fp):Prop where
 rs: ∀r,¬rem r->RS w w' (H1 r) (H' r) (loc r) (loc r) (fp1 r)
 keepr: ∀r,rem r->H' r=H1 r/\fp' r=fp1 r
 ok: ∀r,¬rem r->Yh3 w F1 H1 loc w' Fx (H' r) (loc r) (fp' r)
 disj: ∀r r' n,¬rem r-> ¬rem r'->fp' r n->fp' r' n->r=r'
 off: ∀r n,¬rem r->fp' r n-> ¬Fx n
 apart: ∀r n,¬rem r->fp' r n-> ¬hand n
 rest: ∀r r' n,¬rem r->rem r'->fp' r n->fp1 r' n->lent r' n
theorem Jump.done {lent:Nat->Fp} {H':Store} {fp':Nat->Fp} {hand:Fp} (hR:Roots w F1 H1 loc fp1) (j:Jump w F1 H1 loc fp1 lent w' Fx (λ_=>False) H' fp' hand) (hF: ∀n,F1 n->Fx n)
  (hkF: ∀n,F1 n->w'.heap[n]? =w.heap[n]?) (hdom: ∀n,Fx n->n<w'.heap.size):Roots w' Fx H' loc fp'/\Keep w F1 H1 loc w' Fx H' loc:=by
 have hk:Keep w F1 H1 loc w' Fx H' loc:=Yas hR hF hkF λr=>j.rs r id
 refine⟨⟨λr=>?_,λr r' n=>j.disj r r' n id id,λr n=>j.off r n id,hdom⟩,hk⟩
 have h:=j.ok r id
 cases hr:H' r with
 |free=>rw[hr]at h;exact h
 |gone=>rw[hr]at h;exact h
 |box c=>
  rw[hr]at h
  obtain⟨b,cs,h1,h2,h3,h4,h5⟩:=h
  refine⟨b,cs,h1,h2,h3,h4,λi a v ha hv=>?_⟩
  obtain⟨g1,g2⟩:=h5 i a v ha hv
  refine⟨?_,g1⟩
  rcases g2 with rfl|g2
  ·rfl
  ·exact hk.c _ _ g2
 |arr e d xs ver pin=>rw[hr]at h;exact h
 |fz e xs=>rw[hr]at h;exact h
 |pz t x=>rw[hr]at h;exact h
 |mp ks=>rw[hr]at h;exact h
 |kz g q=>
  rw[hr]at h
  obtain⟨h0,b,caps,h1,h2,h3,h4,h5⟩:=h
  exact⟨h0,b,caps,h1,h2,h3,h4,λi s x hs hx=>by
   obtain⟨y,e,hy⟩:=hk.c (.bptr s 0) [x] ⟨x,rfl,h5 i s x hs hx⟩
   rw[(List.cons.inj e).1];exact hy⟩
 |ho e d xs ver pin i=>rw[hr]at h;exact h
 |bf e xs n ver pin=>rw[hr]at h;exact h
 |lnk r ver j=>rw[hr]at h;exact⟨h.1,hk.c _ _ h.2⟩
theorem Jump.start {lent:Nat->Fp} {rem:Nat->Prop} {hand:Fp} (hR:Roots w F1 H1 loc fp1) (hF: ∀n,F1 n->Fx n) (hkF: ∀n,F1 n->w'.heap[n]? =w.heap[n]?)
  (hk: ∀r n,¬rem r->fp1 r n->w'.heap[n]? =w.heap[n]?) (hoff: ∀r n,¬rem r->fp1 r n-> ¬Fx n) (hap: ∀r n,¬rem r->fp1 r n-> ¬hand n):
  Jump w F1 H1 loc fp1 lent w' Fx rem H1 fp1 hand:=by
 refine⟨λr hr=> .same _ _ _ λn hn=>hk r n hr hn,λ_ _=>⟨rfl,rfl⟩,λr hr=>?_,λr r' n _ _=>hR.disj r r' n,hoff,hap,λr r' n hr hr' h h'=>?_⟩
 ·have h:=hR.ok r
  cases e:H1 r with
  |free=>rw[e]at h;exact h
  |gone=>rw[e]at h;exact h
  |box c=>
   rw[e]at h
   obtain⟨b,cs,h1,h2,h3,h4,h5⟩:=h
   exact⟨b,cs,h1,h2.keep (hk r b hr ((h4 b).2 rfl)),h3,h4,λi a v ha hv=>⟨(h5 i a v ha hv).2,.inr (h5 i a v ha hv).1⟩⟩
  |arr e d xs ver pin=>rw[e]at h;exact Rep.mono hF _ (Rep.keep _ h hkF λn hn=>hk r n hr hn)
  |fz e xs=>rw[e]at h;exact Rep.mono hF _ (Rep.keep _ h hkF λn hn=>hk r n hr hn)
  |pz t x=>rw[e]at h;exact Rep.mono hF _ (Rep.keep _ h hkF λn hn=>hk r n hr hn)
  |mp ks=>rw[e]at h;obtain⟨b,h1,h2,es,cl,h3,h4⟩:=h;exact⟨b,h1,h2,es,cl,(hk r b hr ((h2 b).2 rfl)).trans h3,h4⟩
  |kz g q=>rw[e]at h;obtain⟨h0,b,caps,h1,h2,h3,h4⟩:=h;exact⟨h0,b,caps,h1,hF b h2,by rw[←h3];simp[World.cell?,hkF b h2],h4⟩
  |ho e d xs ver pin i=>rw[e]at h;exact HoR.mono (HoR.keep h hkF λn hn=>hk r n hr hn) hF
  |bf e xs n ver pin=>rw[e]at h;exact⟨BfR.mono (BfR.keep h.1 hkF λn hn=>hk r n hr hn) hF,h.2⟩
  |lnk r2 ver j=>rw[e]at h;exact h
 ·have:=hR.disj r r' n h h'
  subst this;exact(hr hr').elim
theorem Jump.back {lent:Nat->Fp} {H':Store} {fp':Nat->Fp} {hand:Fp} {rem:Nat->Prop} (hR:Roots w F1 H1 loc fp1) (j:Jump w F1 H1 loc fp1 lent w' Fx rem H' fp' hand) {r:Nat} (hr:rem r) {R:Root} {fo:Fp}
  (hrs:RS w w' (H1 r) R (loc r) (loc r) (fp1 r)) (hok:Yh3 w F1 H1 loc w' Fx R (loc r) (λn=>(fp1 r n/\ ¬lent r n)∨fo n)) (hfo: ∀n,fo n->hand n) (hoff: ∀n,(fp1 r n/\ ¬lent r n)∨fo n-> ¬Fx n)
  (hap: ∀n,fp1 r n-> ¬lent r n-> ¬hand n) (hfo': ∀n r',rem r'->fo n->fp1 r' n->lent r' n):
  Jump w F1 H1 loc fp1 lent w' Fx (λr'=>rem r'/\r'≠r) (H'.set r R) (Yq fp' r (λn=>(fp1 r n/\ ¬lent r n)∨fo n)) (λn=>hand n/\ ¬fo n):=by
 have hnr: ∀r',¬(rem r'/\r'≠r)->r'=r∨ ¬rem r':=λr' h=>by
  by_cases e:r'=r
  ·exact .inl e
  ·exact .inr λh'=>h ⟨h',e⟩
 have hne: ∀r',¬rem r'->r'≠r:=λr' h e=>h (e▸hr)
 have hother: ∀r' n,¬rem r'->fp' r' n-> ¬((fp1 r n/\ ¬lent r n)∨fo n):=λr' n h h1 h2=>by
  rcases h2 with ⟨h2,h3⟩|h2
  ·exact h3 (j.rest r' r n h hr h1 h2)
  ·exact j.apart r' n h h1 (hfo n h2)
 refine⟨λr' h=>?_,λr' h=>?_,λr' h=>?_,λr1 r2 n h1 h2 g1 g2=>?_,λr' n h g=>?_,λr' n h g=>?_,λr1 r2 n h1 h2 g1 g2=>?_⟩
 ·rcases hnr r' h with rfl|h
  ·rw[Store.set_same];exact hrs
  ·rw[Store.set_other _ _ (hne r' h)];exact j.rs r' h
 ·rw[Store.set_other _ _ h.2];simp only[Yq,h.2,if_false];exact j.keepr r' h.1
 ·rcases hnr r' h with rfl|h
  ·rw[Store.set_same];simp only[Yq,if_true];exact hok
  ·rw[Store.set_other _ _ (hne r' h)];simp only[Yq,hne r' h,if_false];exact j.ok r' h
 ·rcases hnr r1 h1 with e1|k1<;>rcases hnr r2 h2 with e2|k2
  ·rw[e1,e2]
  ·simp only[Yq,e1,if_true]at g1;simp only[Yq,hne r2 k2,if_false]at g2;exact(hother r2 n k2 g2 g1).elim
  ·simp only[Yq,e2,if_true]at g2;simp only[Yq,hne r1 k1,if_false]at g1;exact(hother r1 n k1 g1 g2).elim
  ·simp only[Yq,hne r1 k1,if_false]at g1;simp only[Yq,hne r2 k2,if_false]at g2;exact j.disj r1 r2 n k1 k2 g1 g2
 ·rcases hnr r' h with rfl|h
  ·simp only[Yq,if_true]at g;exact hoff n g
  ·simp only[Yq,hne r' h,if_false]at g;exact j.off r' n h g
 ·rintro ⟨g1,g2⟩
  rcases hnr r' h with rfl|h
  ·simp only[Yq,if_true]at g
   rcases g with ⟨g,g'⟩|g
   ·exact hap n g g' g1
   ·exact g2 g
  ·simp only[Yq,hne r' h,if_false]at g;exact j.apart r' n h g g1
 ·rcases hnr r1 h1 with rfl|h1
  ·simp only[Yq,if_true]at g1
   rcases g1 with ⟨g1,_⟩|g1
   ·exact(h2.2 (hR.disj r2 r1 n g2 g1)).elim
   ·exact hfo' n r2 h2.1 g1 g2
  ·simp only[Yq,hne r1 h1,if_false]at g1;exact j.rest r1 r2 n h1 h2.1 g1 g2
end
end Go.Va
namespace Go.Va
section
variable {P:Program} {w w':World} {F F' F1 Fx:Fp} {H H1 V:Store} {loc:Loc} {fp fp1:Nat->Fp}
theorem OutR.mono (hF: ∀n,F n->F' n): ∀(a:AD) {cs:List Value} {y:a.out} {f:Fp},OutR w F a cs y f->OutR w F' a cs y f
 | .v _,_,_,_,h=>h
 | .mv _ _,_,_,_,h=>h
 | .mp _,_,_,_,h=>h
 | .nv _ _,_,_,_,h=>h
 | .jk _,_,_,_,h=>h
 | .un,_,_,_,h=>h
 | .gs _ _,_,_,_,h=>h
 | .pz _,_,_,_,h=>h
 | .bf _,_,_,_,⟨l,h1,h2⟩=>⟨l,h1,h2.mono hF⟩
 | .io e d,_,_,_,h=>Rep.mono hF _ h
 | .bx a,_,_,_,h=>DR.mono hF (.bx a) h
 | .pr a b,_,_,_,⟨c1,c2,f1,f2,h1,h2,h3,h4,h5,h6⟩=>⟨c1,c2,f1,f2,h1,h2,h3,h4,OutR.mono hF a h5,OutR.mono hF b h6⟩
theorem OutR.alone: ∀(a:AD) {cs:List Value} {y:a.out} {f:Fp},a.plain=true->OutR w F a cs y f->OutR w F' a cs y f
 | .v _,_,_,_,_,h=>h
 | .mv _ _,_,_,_,_,h=>h
 | .mp _,_,_,_,_,h=>h
 | .nv _ _,_,_,_,_,h=>h
 | .jk _,_,_,_,_,h=>h
 | .un,_,_,_,_,h=>h
 | .gs _ _,_,_,_,_,h=>h
 | .pz _,_,_,_,_,h=>h
 | .bf _,_,_,_,ha,_=>by simp[AD.plain,AD.alone]at ha
 | .io e d,_,_,_,ha,h=>Rep.alone (.slice e) (by simp[AD.plain,AD.alone]at ha;exact .inr (by simp only[Ty.dep];omega)) (by simp[AD.plain,AD.alone]at ha;exact .inr (by simp only[Ty.dep];omega)) h
 | .bx a,_,_,_,ha,h=>DR.alone (.bx a) ha h
 | .pr a b,_,_,_,ha,⟨c1,c2,f1,f2,h1,h2,h3,h4,h5,h6⟩=>by
  simp only[AD.plain,Bool.and_eq_true]at ha
  exact⟨c1,c2,f1,f2,h1,h2,h3,h4,OutR.alone a ha.1 h5,OutR.alone b ha.2 h6⟩
theorem OutsR.mono (hF: ∀n,F n->F' n): ∀(l:List AD) {vs:List Value} {y:XK l} {f:Fp},OutsR w F l vs y f->OutsR w F' l vs y f
 | [],_,_,_,h=>h
 | [a],_,_,_,⟨v,h1,h2⟩=>⟨v,h1,λcs g1 g2=>OutR.mono hF a (h2 cs g1 g2)⟩
 |a::b::l,_,_,_,⟨v,r,f1,f2,h1,h2,h3,h4,h5⟩=>⟨v,r,f1,f2,h1,h2,h3,λcs g1 g2=>OutR.mono hF a (h4 cs g1 g2),OutsR.mono hF (b::l) h5⟩
theorem OutsR.alone: ∀(l:List AD) {vs:List Value} {y:XK l} {f:Fp},l.all AD.plain=true->OutsR w F l vs y f->OutsR w F' l vs y f
 | [],_,_,_,_,h=>h
 | [a],_,_,_,ha,⟨v,h1,h2⟩=>⟨v,h1,λcs g1 g2=>OutR.alone a (by simpa using ha) (h2 cs g1 g2)⟩
 |a::b::l,_,_,_,ha,⟨v,r,f1,f2,h1,h2,h3,h4,h5⟩=>by
  rw[List.all_cons,Bool.and_eq_true]at ha
  exact⟨v,r,f1,f2,h1,h2,h3,λcs g1 g2=>OutR.alone a ha.1 (h4 cs g1 g2),OutsR.alone (b::l) ha.2 h5⟩
theorem ArgsR.alone: ∀(l:List AD) {vs:List Value} {x:YH l} {f:Fp},l.all AD.alone=true->ArgsR w F l vs x f->ArgsR w F' l vs x f
 | [],_,_,_,_,h=>h
 | [a],_,_,_,ha,⟨v,h1,cs,h2,h3⟩=>⟨v,h1,cs,DR.alone a (by simpa using ha) h2,h3⟩
 |a::b::l,_,_,_,ha,⟨v,r,f1,f2,h1,h2,h3,⟨cs,h4,h5⟩,h6⟩=>by
  rw[List.all_cons,Bool.and_eq_true]at ha
  exact⟨v,r,f1,f2,h1,h2,h3,⟨cs,DR.alone a ha.1 h4,h5⟩,ArgsR.alone (b::l) ha.2 h6⟩
end
end Go.Va
namespace Go.Va
def InnerR (w':World) (Fx:Fp) (H:Store) (loc:Loc):(a:AD)->AV->a.out->Fp->Prop
 | .v _,_,_,f=> ∀n,¬f n
 | .mv _ _,_,_,f=> ∀n,¬f n
 | .mp _,_,_,f=> ∀n,¬f n
 | .nv _ _,_,_,f=> ∀n,¬f n
 | .jk _,_,_,f=> ∀n,¬f n
 | .un,_,_,f=> ∀n,¬f n
 | .gs _ _,_,_,f=> ∀n,¬f n
 | .pz _,_,_,f=> ∀n,¬f n
 | .io _ _,_,_,f=> ∀n,¬f n
 | .bf _,_,_,f=> ∀n,¬f n
 | .bx a,x,y,f=> ∃r b c,x= .bptr r 0/\BptrR H loc r 0 (.pointer (some ⟨b,0,none⟩))/\Blk w' b c/\DR w' Fx a c y f
 | .pr a b,x,y,f=> ∃u v f1 f2,Yd x [.fst]=some u/\Yd x [.snd]=some v/\(∀n,f n↔f1 n∨f2 n)/\(∀n,f1 n->f2 n->False)/\InnerR w' Fx H loc a u y.1 f1/\InnerR w' Fx H loc b v y.2 f2
def LenO (V:Store):(a:AD)->AV->a.out->Prop
 | .bf e,x,y=> ∀(r ver:Nat) (p:List PE) (xs:List e.den) (n:Int) (v:Nat) (pin:Bool),x= .ref r ver p->V r= .bf e xs n v pin->List.length (α:=e.den) y=List.length xs
 | .pr a b,x,y=> ∀u v,Yd x [.fst]=some u->Yd x [.snd]=some v->LenO V a u y.1/\LenO V b v y.2
 | .v _,_,_=>True
 | .io _ _,_,_=>True
 | .mv _ _,_,_=>True
 | .bx _,_,_=>True
 | .jk _,_,_=>True
 | .un,_,_=>True
 | .mp _,_,_=>True
 | .gs _ _,_,_=>True
 | .nv _ _,_,_=>True
 | .pz _,_,_=>True
def LenOs (V:Store):(l:List AD)->List AV->XK l->Prop
 | [],_,_=>True
 | [a],as,y=> ∀x r,as=x::r->LenO V a x y
 |a::b::l,as,y=> ∀x r,as=x::r->LenO V a x y.1/\LenOs V (b::l) r y.2
section
variable {P:Program} {w w':World} {F F' F1 Fx:Fp} {H H1 V:Store} {loc:Loc} {fp fp1:Nat->Fp} {lent:Nat->Fp}
theorem Jump.none {H':Store} {fp':Nat->Fp} {hand:Fp} {rem rem':Nat->Prop} (j:Jump w F1 H1 loc fp1 lent w' Fx rem H' fp' hand) (h: ∀r,rem' r↔rem r):Jump w F1 H1 loc fp1 lent w' Fx rem' H' fp' hand:=by
 have:rem'=rem:=Fp.eq h
 rw[this];exact j
theorem Ybu (hR:Roots w F1 H1 loc fp1) (hF: ∀n,F1 n->Fx n) (hkF: ∀n,F1 n->w'.heap[n]? =w.heap[n]?) (hsame: ∀r n,fp1 r n-> ¬lent r n->w'.heap[n]? =w.heap[n]?) (hFx: ∀r n,fp1 r n-> ¬lent r n-> ¬Fx n):
  ∀(ad:AD) {V0 V' H':Store} {fp':Nat->Fp} {hand:Fp} {rem:Nat->Prop} {a:AV} {y:ad.out} {u:Ups} {cs:List Value} {fo:Fp},(∀r,r∈Yb V0 ad a->rem r/\V' r=V0 r/\V0 r=H1 r)->(Yb V0 ad a).Nodup->LentA w F1 loc fp1 V0 ad a cs lent->
   Jump w F1 H1 loc fp1 lent w' Fx rem H' fp' hand->(∀r n,fp1 r n->hand n->lent r n)->Xk V' ad a y=some u->OutR w' Fx ad cs y fo->(∀n,fo n->hand n)->(∀n,fo n-> ¬Fx n)->LenO V0 ad a y->
   ∃fp'' hand' fin,Jump w F1 H1 loc fp1 lent w' Fx (λr=>rem r/\r∉Yb V0 ad a) (H'.upd u) fp'' hand'/\(∀n,hand' n->hand n)/\(∀n,hand n-> ¬fo n->hand' n)/\InnerR w' Fx H1 loc ad a y fin/\(∀n,fin n->fo n/\hand' n)/\(∀q∈u,q.1∈Yb V0 ad a)/\(∀r n,fp'' r n->fp' r n∨fo n)
 | .v t,V0,V',H',fp',hand,rem,a,y,u,cs,fo,hrem,hnd,hL,j,hG,hg,ho,hfo,hoff,hlo=>by
  simp only[Xk]at hg;cases hg
  exact⟨fp',hand,Fp.none,j.none λr=>by simp[Yb],λ_ h=>h,λ_ h _=>h,λ_ h=>h,λ_ h=>h.elim,by simp,λ_ _ h=> .inl h⟩
 | .mv e d,V0,V',H',fp',hand,rem,a,y,u,cs,fo,hrem,hnd,hL,j,hG,hg,ho,hfo,hoff,hlo=>by
  simp only[Xk]at hg;cases hg
  exact⟨fp',hand,Fp.none,j.none λr=>by simp[Yb],λ_ h=>h,λ_ h _=>h,λ_ h=>h,λ_ h=>h.elim,by simp,λ_ _ h=> .inl h⟩
 | .mp _,V0,V',H',fp',hand,rem,a,y,u,cs,fo,hrem,hnd,hL,j,hG,hg,ho,hfo,hoff,hlo=>by
  simp only[Xk]at hg;cases hg
  exact⟨fp',hand,Fp.none,j.none λr=>by simp[Yb],λ_ h=>h,λ_ h _=>h,λ_ h=>h,λ_ h=>h.elim,by simp,λ_ _ h=> .inl h⟩
 | .nv _ _,V0,V',H',fp',hand,rem,a,y,u,cs,fo,hrem,hnd,hL,j,hG,hg,ho,hfo,hoff,hlo=>by
  simp only[Xk]at hg;cases hg
  exact⟨fp',hand,Fp.none,j.none λr=>by simp[Yb],λ_ h=>h,λ_ h _=>h,λ_ h=>h,λ_ h=>h.elim,by simp,λ_ _ h=> .inl h⟩
 | .jk n,V0,V',H',fp',hand,rem,a,y,u,cs,fo,hrem,hnd,hL,j,hG,hg,ho,hfo,hoff,hlo=>by
  simp only[Xk]at hg;cases hg
  exact⟨fp',hand,Fp.none,j.none λr=>by simp[Yb],λ_ h=>h,λ_ h _=>h,λ_ h=>h,λ_ h=>h.elim,by simp,λ_ _ h=> .inl h⟩
 | .un,V0,V',H',fp',hand,rem,a,y,u,cs,fo,hrem,hnd,hL,j,hG,hg,ho,hfo,hoff,hlo=>by
  simp only[Xk]at hg;cases hg
  exact⟨fp',hand,Fp.none,j.none λr=>by simp[Yb],λ_ h=>h,λ_ h _=>h,λ_ h=>h,λ_ h=>h.elim,by simp,λ_ _ h=> .inl h⟩
 | .gs _ _,V0,V',H',fp',hand,rem,a,y,u,cs,fo,hrem,hnd,hL,j,hG,hg,ho,hfo,hoff,hlo=>by
  simp only[Xk]at hg;cases hg
  exact⟨fp',hand,Fp.none,j.none λr=>by simp[Yb],λ_ h=>h,λ_ h _=>h,λ_ h=>h,λ_ h=>h.elim,by simp,λ_ _ h=> .inl h⟩
 | .pz _,V0,V',H',fp',hand,rem,a,y,u,cs,fo,hrem,hnd,hL,j,hG,hg,ho,hfo,hoff,hlo=>by
  simp only[Xk]at hg;cases hg
  exact⟨fp',hand,Fp.none,j.none λr=>by simp[Yb],λ_ h=>h,λ_ h _=>h,λ_ h=>h,λ_ h=>h.elim,by simp,λ_ _ h=> .inl h⟩
 | .bf e,V0,V',H',fp',hand,rem,a,y,u,cs,fo,hrem,hnd,⟨r,ver0,p,v,b,xs,n,ver,pin,h1,h2,h3,h4,h5,h6⟩,j,hG,hg,ho,hfo,hoff,hlo=>by
  subst h1;subst h2
  obtain⟨hr,hV',hH1⟩:=hrem r (by simp[Yb,Yj])
  have hlen:=hlo r ver0 p xs n ver pin rfl h3
  simp only[Xk]at hg
  rw[hV',h3]at hg
  dsimp only at hg
  split at hg
  rotate_left
  ·cases hg
  rename_i zs hzs
  cases hg
  have hzs:=(YM hzs).symm
  subst hzs
  have hH1r:H1 r= .bf e xs n ver pin:=by rw[←hH1];exact h3
  obtain⟨l,hl,hbf⟩:=ho
  have hl:=(List.cons.inj hl).1
  subst hl
  have hbf1:BfR w' Fx e (loc r) y fo:=by
   obtain⟨bk,len,cap,hl1,hb0,hb1,hv1⟩:=h6
   obtain⟨bk2,len2,cap2,c,k1,k2,k3,k4,k5,k6⟩:=hbf
   rw[hv1]at k1
   injection k1 with k1 _ k1'
   injection k1 with k1
   injection k1 with k1
   subst k1;subst k1'
   exact⟨bk,len,cap,c,hl1,k2,k3,k4,k5,k6⟩
  have hfn:(λm=>(fp1 r m/\ ¬lent r m)∨fo m)=fo:=Fp.eq λm=>⟨λh=>h.elim (λh=>absurd ((h4 m).2 h.1) h.2) id,.inr⟩
  have jb:=Jump.back hR j hr (R:= .bf e y n ver pin) (fo:=fo) (by rw[hH1r];exact .bturn _ _ _ _ _ _ _ _ hlen) (by rw[hfn];exact⟨hbf1,by rw[hlen];exact h5⟩) hfo (λn hn=>hn.elim (λhn=>hFx r n hn.1 hn.2) (hoff n)) (λn h h' h''=>h' (hG r n h h'')) (λn r' _ hn h=>hG r' n h (hfo n hn))
  have hsrc: ∀r' n,Yq fp' r (λn=>(fp1 r n/\ ¬lent r n)∨fo n) r' n->fp' r' n∨fo n:=λr' n h=>by
   by_cases e:r'=r
   ·subst e;simp only[Yq,if_true]at h;exact h.elim (λh=> .inl (by rw[(j.keepr r' hr).2];exact h.1)) .inr
   ·simp only[Yq,e,if_false]at h;exact .inl h
  exact⟨_,_,Fp.none,jb.none λr'=>by simp[Yb,Yj],λn h=>h.1,λn h h'=>⟨h,h'⟩,λ_ h=>h,λ_ h=>h.elim,by simp[Yb,Yj],hsrc⟩
 | .io e d,V0,V',H',fp',hand,rem,a,y,u,cs,fo,hrem,hnd,⟨r,ver,p,v,e',d',xs,ver',pin,h1,h2,h3,h4,h5⟩,j,hG,hg,ho,hfo,hoff,hlo=>by
  subst h1;subst h2
  obtain⟨hr,hV',hH1⟩:=hrem r (by simp[Yb,Yj])
  simp only[Xk]at hg
  rw[hV',h3]at hg
  dsimp only at hg
  split at hg
  rotate_left
  ·cases hg
  rename_i zs hzs
  cases hg
  have hH1r:H1 r= .arr e' d' xs ver' pin:=by rw[←hH1];exact h3
  obtain⟨hrep,hlen⟩:=h5 w' Fx y fo zs hkF (hsame r) hF (λm hm hf=>hG r m hf (hfo m hm)) ho hzs
  have jb:=Jump.back hR j hr (R:= .arr e' d' zs (ver'+1) pin) (fo:=fo) (by rw[hH1r];exact .turn _ _ _ _ _ _ _ _ _ _ (Nat.lt_succ_self _) hlen) hrep hfo (λn hn=>hn.elim (λhn=>hFx r n hn.1 hn.2) (hoff n)) (λn h h' h''=>h' (hG r n h h'')) (λn r' _ hn h=>hG r' n h (hfo n hn))
  have hsrc: ∀r' n,Yq fp' r (λn=>(fp1 r n/\ ¬lent r n)∨fo n) r' n->fp' r' n∨fo n:=λr' n h=>by
   by_cases e:r'=r
   ·subst e;simp only[Yq,if_true]at h;exact h.elim (λh=> .inl (by rw[(j.keepr r' hr).2];exact h.1)) .inr
   ·simp only[Yq,e,if_false]at h;exact .inl h
  refine⟨_,_,Fp.none,jb.none λr'=>by simp[Yb,Yj],λn h=>h.1,λn h h'=>⟨h,h'⟩,λ_ h=>h,λ_ h=>h.elim,by simp[Yb,Yj],hsrc⟩
 | .bx ad,V0,V',H',fp',hand,rem,a,y,u,cs,fo,hrem,hnd,⟨r,b,c,h1,h2,h3,h4,h5,h6,hcl,_⟩,j,hG,hg,ho,hfo,hoff,hlo=>by
  subst h1;subst h4
  obtain⟨hr,hV',hH1⟩:=hrem r (by simp[Yb])
  simp only[Xk]at hg
  rw[hV',h2]at hg
  dsimp only at hg
  cases hg
  have hH1r:H1 r= .box c:=by rw[←hH1];exact h2
  obtain⟨b',c',f,hb1,hb2,hfp,hnf,hdr⟩:=ho
  simp only[List.cons.injEq,Value.pointer.injEq,Option.some.injEq,Addr.mk.injEq,and_true]at hb1
  subst hb1
  have hok:=hR.ok r
  rw[hH1r]at hok
  obtain⟨b2,cs2,g1,g2,g3,g4,g5⟩:=hok
  have hlen:=DR.len ad hdr
  have hbo:fo b:=(hfp b).2 (.inl rfl)
  have jb:=Jump.back hR j hr (R:= .box (List.replicate c.length .un)) (fo:=λn=>n=b) (by rw[hH1r];exact .box ..) ⟨b,c',h3,hb2,by rw[hlen,List.length_replicate,hcl],λn=>⟨λh=>h.elim (λh=>(h5 n).1 h.1) id,.inr⟩,λi x v hx _=>by
    have:=List.eq_of_mem_replicate (List.mem_of_getElem? hx)
    subst this;exact⟨rfl,.inl rfl⟩⟩
   (λn h=>h▸hfo b hbo) (λn hn=>hn.elim (λhn=>hFx r n hn.1 hn.2) λh=>h▸hoff b hbo) (λn h h' h''=>h' (hG r n h h'')) (λn r' _ hn h=>hG r' n h (hn▸hfo b hbo))
  refine⟨_,_,f,jb.none λr'=>by simp[Yb],λn h=>h.1,λn h h'=>⟨h,λe=>h' (e▸hbo)⟩,⟨r,b,c',rfl,⟨b,rfl,by rw[hH1r];exact h3⟩,hb2,hdr⟩,λn h=>⟨(hfp n).2 (.inr h),hfo n ((hfp n).2 (.inr h)),λe=>hnf (e▸h)⟩,by simp[Yb],λr' n h=>?_⟩
  by_cases e:r'=r
  ·subst e;simp only[Yq,if_true]at h;exact h.elim (λh=> .inl (by rw[(j.keepr r' hr).2];exact h.1)) λh=> .inr (h▸hbo)
  ·simp only[Yq,e,if_false]at h;exact .inl h
 | .pr ad bd,V0,V',H',fp',hand,rem,a,y,u,cs,fo,hrem,hnd,⟨x1,x2,c1,c2,h1,h2,h3,h4,h5,h6⟩,j,hG,hg,ho,hfo,hoff,hlo=>by
  obtain⟨d1,d2,f1,f2,g1,g2,g3,g4,g5,g6⟩:=ho
  have hL:Yb V0 (.pr ad bd) a=Yb V0 ad x1++Yb V0 bd x2:=by simp only[Yb,h1,h2]
  rw[hL]at hrem hnd
  obtain⟨e1,e2⟩:=List.append_inj (h3.symm.trans g1) (h4.trans g2.symm)
  subst e1;subst e2
  simp only[Xk,h1,h2]at hg
  split at hg
  rotate_left
  ·cases hg
  rename_i u1 hu1
  split at hg
  rotate_left
  ·cases hg
  rename_i u2 hu2
  cases hg
  have hnd':=List.nodup_append.1 hnd
  obtain⟨fp1',hand1,fin1,j1,k1,k2,k3,k4,k5,k6⟩:=Ybu hR hF hkF hsame hFx ad (λr hr=>hrem r (List.mem_append_left _ hr)) hnd'.1 h5 j hG hu1 g5 (λn h=>hfo n ((g3 n).2 (.inl h))) (λn h=>hoff n ((g3 n).2 (.inl h))) (hlo x1 x2 h1 h2).1
  obtain⟨fp2',hand2,fin2,j2,m1,m2,m3,m4,m5,m6⟩:=Ybu hR hF hkF hsame hFx bd (V':=V'.upd u1) (λr hr=>by
    obtain⟨q1,q2,q3⟩:=hrem r (List.mem_append_right _ hr)
    have hne:r∉Yb V0 ad x1:=λh=>hnd'.2.2 r h r hr rfl
    have hk:(V'.upd u1) r=V' r:=Yy u1 λq hq e=>hne (e▸k5 q hq)
    exact⟨⟨q1,hne⟩,hk.trans q2,q3⟩) hnd'.2.1 h6 j1 (λr n h h'=>hG r n h (k1 n h')) hu2 g6 (λn h=>k2 n (hfo n ((g3 n).2 (.inr h))) λh'=>g4 n h' h) (λn h=>hoff n ((g3 n).2 (.inr h))) (hlo x1 x2 h1 h2).2
  refine⟨fp2',hand2,λn=>fin1 n∨fin2 n,?_,λn h=>k1 n (m1 n h),λn h h'=>m2 n (k2 n h λh''=>h' ((g3 n).2 (.inl h''))) λh''=>h' ((g3 n).2 (.inr h'')),⟨x1,x2,fin1,fin2,h1,h2,λn=>Iff.rfl,λn h h'=>g4 n (k4 n h).1 (m4 n h').1,k3,m3⟩,?_,?_,λr n h=>?_⟩
  ·rw[Store.upd_append,hL]
   exact j2.none λr=>by simp[and_assoc]
  ·rintro n (h|h)
   ·exact⟨(g3 n).2 (.inl (k4 n h).1),m2 n (k4 n h).2 λh'=>g4 n (k4 n h).1 h'⟩
   ·exact⟨(g3 n).2 (.inr (m4 n h).1),(m4 n h).2⟩
  ·intro q hq
   rw[hL]
   rcases List.mem_append.1 hq with hq|hq
   ·exact List.mem_append_left _ (k5 q hq)
   ·exact List.mem_append_right _ (m5 q hq)
  ·rcases m6 r n h with h|h
   ·rcases k6 r n h with h|h
    ·exact .inl h
    ·exact .inr ((g3 n).2 (.inl h))
   ·exact .inr ((g3 n).2 (.inr h))
theorem InnerR.keep {H':Store} {loc':Loc} {u u':World} {G G':Fp} (k:Keep u G H loc u' G' H' loc'): ∀(ad:AD) {a:AV} {y:ad.out} {f:Fp},InnerR w' Fx H loc ad a y f->InnerR w' Fx H' loc' ad a y f
 | .v _,_,_,_,h=>h
 | .mv _ _,_,_,_,h=>h
 | .mp _,_,_,_,h=>h
 | .nv _ _,_,_,_,h=>h
 | .jk _,_,_,_,h=>h
 | .un,_,_,_,h=>h
 | .gs _ _,_,_,_,h=>h
 | .pz _,_,_,_,h=>h
 | .io _ _,_,_,_,h=>h
 | .bf _,_,_,_,h=>h
 | .bx a,_,_,_,⟨r,b,c,h1,h2,h3,h4⟩=>by
  obtain⟨v,e,h⟩:=k.c (.bptr r 0) [.pointer (some ⟨b,0,none⟩)] ⟨_,rfl,h2⟩
  have e:=(List.cons.inj e).1
  subst e
  exact⟨r,b,c,h1,h,h3,h4⟩
 | .pr a b,_,_,_,⟨u,v,f1,f2,h1,h2,h3,h4,h5,h6⟩=>⟨u,v,f1,f2,h1,h2,h3,h4,InnerR.keep k a h5,InnerR.keep k b h6⟩
def InnerRs (w':World) (Fx:Fp) (H:Store) (loc:Loc):(l:List AD)->List AV->XK l->Fp->Prop
 | [],_,_,f=> ∀n,¬f n
 | [a],as,y,f=> ∃x,as= [x]/\InnerR w' Fx H loc a x y f
 |a::b::l,as,y,f=> ∃x r f1 f2,as=x::r/\(∀n,f n↔f1 n∨f2 n)/\(∀n,f1 n->f2 n->False)/\InnerR w' Fx H loc a x y.1 f1/\InnerRs w' Fx H loc (b::l) r y.2 f2
theorem InnerRs.keep {H':Store} {loc':Loc} {u u':World} {G G':Fp} (k:Keep u G H loc u' G' H' loc'): ∀(l:List AD) {as:List AV} {y:XK l} {f:Fp},InnerRs w' Fx H loc l as y f->InnerRs w' Fx H' loc' l as y f
 | [],_,_,_,h=>h
 | [a],_,_,_,⟨x,h1,h2⟩=>⟨x,h1,h2.keep k⟩
 |a::b::l,_,_,_,⟨x,r,f1,f2,h1,h2,h3,h4,h5⟩=>⟨x,r,f1,f2,h1,h2,h3,h4.keep k,InnerRs.keep k (b::l) h5⟩
theorem Ye6 (H:Store) (as:List AV) (y:XK []):YaJ H [] as y=some []:=rfl
theorem Ye7 (H:Store) (a:AD) (as:List AV) (y:XK [a]):YaJ H [a] as y=(match as with| [x]=>Xk H a x y|_=>none):=rfl
theorem Yeg (H:Store) (a b:AD) (l:List AD) (as:List AV) (y:XK (a::b::l)):YaJ H (a::b::l) as y=(match as with
  |x::r=>
   (match Xk H a x y.1 with
   |some u1=>(match YaJ (H.upd u1) (b::l) r y.2 with|some u2=>some (u1++u2)|none=>none)
   |none=>none)
  | []=>none):=by cases as<;>rfl
theorem Ydn (hR:Roots w F1 H1 loc fp1) (hF: ∀n,F1 n->Fx n) (hkF: ∀n,F1 n->w'.heap[n]? =w.heap[n]?) (hsame: ∀r n,fp1 r n-> ¬lent r n->w'.heap[n]? =w.heap[n]?) (hFx: ∀r n,fp1 r n-> ¬lent r n-> ¬Fx n):
  ∀(l:List AD) {V0 V' H':Store} {fp':Nat->Fp} {hand:Fp} {rem:Nat->Prop} {as:List AV} {y:XK l} {u:Ups} {vs:List Value} {fo:Fp},(∀r,r∈Yg V0 l as->rem r/\V' r=V0 r/\V0 r=H1 r)->(Yg V0 l as).Nodup->LentAs w F1 loc fp1 V0 l as vs lent->
   Jump w F1 H1 loc fp1 lent w' Fx rem H' fp' hand->(∀r n,fp1 r n->hand n->lent r n)->YaJ V' l as y=some u->OutsR w' Fx l vs y fo->(∀n,fo n->hand n)->(∀n,fo n-> ¬Fx n)->LenOs V0 l as y->
   ∃fp'' hand' fin,Jump w F1 H1 loc fp1 lent w' Fx (λr=>rem r/\r∉Yg V0 l as) (H'.upd u) fp'' hand'/\(∀n,hand' n->hand n)/\(∀n,hand n-> ¬fo n->hand' n)/\InnerRs w' Fx H1 loc l as y fin/\(∀n,fin n->fo n/\hand' n)/\(∀q∈u,q.1∈Yg V0 l as)/\(∀r n,fp'' r n->fp' r n∨fo n)
 | [],V0,V',H',fp',hand,rem,as,y,u,vs,fo,hrem,hnd,hL,j,hG,hg,ho,hfo,hoff,hlo=>by
  rw[Ye6]at hg;cases hg
  exact⟨fp',hand,Fp.none,j.none λr=>by simp[Yg],λ_ h=>h,λ_ h _=>h,λ_ h=>h,λ_ h=>h.elim,by simp,λ_ _ h=> .inl h⟩
 | [ad],V0,V',H',fp',hand,rem,as,y,u,vs,fo,hrem,hnd,hL,j,hG,hg,ho,hfo,hoff,hlo=>by
  obtain⟨x,r,v,q,rfl,rfl,⟨cs,h1,h2,h3⟩,-⟩:=hL
  rw[Ye7]at hg
  obtain⟨v',e,ho⟩:=ho
  obtain⟨rfl,rfl⟩:=List.cons.inj e
  cases r with
  |cons=>cases hg
  |nil=>
   have hg:Xk V' ad x y=some u:=hg
   simp only[Yg,List.append_nil]at hrem hnd⊢
   obtain⟨fp2,hand2,fin2,j2,m1,m2,m3,m4,m5,m6⟩:=Ybu hR hF hkF hsame hFx ad hrem hnd h3 j hG hg (ho cs h1 h2) hfo hoff (hlo _ _ rfl)
   exact⟨fp2,hand2,fin2,j2,m1,m2,⟨x,rfl,m3⟩,m4,m5,m6⟩
 |ad::bd::l,V0,V',H',fp',hand,rem,as,y,u,vs,fo,hrem,hnd,hL,j,hG,hg,ho,hfo,hoff,hlo=>by
  obtain⟨x,r,v,q,rfl,rfl,⟨cs,h1,h2,h3⟩,hL2⟩:=hL
  rw[Yeg]at hg
  obtain⟨v',q',f1,f2,e,g3,g4,g5,g6⟩:=ho
  obtain⟨rfl,rfl⟩:=List.cons.inj e
  rw[Yg]at hrem hnd
  dsimp only at hg
  split at hg
  rotate_left
  ·cases hg
  rename_i u1 hu1
  split at hg
  rotate_left
  ·cases hg
  rename_i u2 hu2
  cases hg
  have hnd':=List.nodup_append.1 hnd
  obtain⟨fp1',hand1,fin1,j1,k1,k2,k3,k4,k5,k6⟩:=Ybu hR hF hkF hsame hFx ad (λr hr=>hrem r (List.mem_append_left _ hr)) hnd'.1 h3 j hG hu1 (g5 cs h1 h2) (λn h=>hfo n ((g3 n).2 (.inl h))) (λn h=>hoff n ((g3 n).2 (.inl h))) (hlo _ _ rfl).1
  obtain⟨fp2',hand2,fin2,j2,m1,m2,m3,m4,m5,m6⟩:=Ydn hR hF hkF hsame hFx (bd::l) (V':=V'.upd u1) (λr' hr=>by
    obtain⟨q1,q2,q3⟩:=hrem r' (List.mem_append_right _ hr)
    have hne:r'∉Yb V0 ad x:=λh=>hnd'.2.2 r' h r' hr rfl
    have hk:(V'.upd u1) r'=V' r':=Yy u1 λq hq e=>hne (e▸k5 q hq)
    exact⟨⟨q1,hne⟩,hk.trans q2,q3⟩) hnd'.2.1 hL2 j1 (λr n h h'=>hG r n h (k1 n h')) hu2 g6 (λn h=>k2 n (hfo n ((g3 n).2 (.inr h))) λh'=>g4 n h' h) (λn h=>hoff n ((g3 n).2 (.inr h))) (hlo _ _ rfl).2
  refine⟨fp2',hand2,λn=>fin1 n∨fin2 n,?_,λn h=>k1 n (m1 n h),λn h h'=>m2 n (k2 n h λh''=>h' ((g3 n).2 (.inl h''))) λh''=>h' ((g3 n).2 (.inr h'')),⟨x,r,fin1,fin2,rfl,λn=>Iff.rfl,λn h h'=>g4 n (k4 n h).1 (m4 n h').1,k3,m3⟩,?_,?_,λr n h=>?_⟩
  ·rw[Store.upd_append,Yg]
   exact j2.none λr=>by simp[and_assoc]
  ·rintro n (h|h)
   ·exact⟨(g3 n).2 (.inl (k4 n h).1),m2 n (k4 n h).2 λh'=>g4 n (k4 n h).1 h'⟩
   ·exact⟨(g3 n).2 (.inr (m4 n h).1),(m4 n h).2⟩
  ·intro q hq
   rw[Yg]
   rcases List.mem_append.1 hq with hq|hq
   ·exact List.mem_append_left _ (k5 q hq)
   ·exact List.mem_append_right _ (m5 q hq)
  ·rcases m6 r n h with h|h
   ·rcases k6 r n h with h|h
    ·exact .inl h
    ·exact .inr ((g3 n).2 (.inl h))
   ·exact .inr ((g3 n).2 (.inr h))
end
end Go.Va
namespace Go.Va
section
variable {P:Program} {w w':World} {F F' F1 Fx:Fp} {H H1 V:Store} {loc:Loc} {fp fp1:Nat->Fp} {lent:Nat->Fp}
theorem Ygb {H:Store} {slot k k':Nat} {a:AV} {u:Ups}: ∀ {ad:AD} {x:ad.den},mkD H slot k ad x=some (a,u,k')->(∃n,ad= .jk n/\a= .jk n)∨(Yaf a=true/\YF a=Ybv ad)
 | .v t,x,h=>by
  simp only[mkD]at h;cases h
  refine .inr ⟨rfl,?_⟩
  cases t<;>rfl
 | .mv e d,x,h=>by
  simp only[mkD]at h
  split at h<;>cases h
  exact .inr ⟨rfl,rfl⟩
 | .mp _,x,h=>by
  simp only[mkD]at h
  split at h<;>cases h
  exact .inr ⟨rfl,rfl⟩
 | .nv _ _,x,h=>by
  simp only[mkD]at h
  split at h<;>cases h
  exact .inr ⟨rfl,rfl⟩
 | .io e d,x,h=>by
  simp only[mkD]at h
  split at h<;>cases h
  exact .inr ⟨rfl,rfl⟩
 | .pr a b,x,h=>by
  simp only[mkD]at h
  split at h
  ·split at h<;>cases h
   exact .inr ⟨rfl,rfl⟩
  ·cases h
 | .bx a,x,h=>by
  simp only[mkD]at h
  split at h
  ·split at h
   ·split at h
    ·split at h<;>cases h
     exact .inr ⟨rfl,rfl⟩
    ·cases h
   ·cases h
  ·cases h
 | .jk n,x,h=>by
  simp only[mkD]at h;cases h
  exact .inl ⟨n,rfl,rfl⟩
 | .un,x,h=>by simp[mkD]at h
 | .gs _ _,x,h=>by
  simp only[mkD]at h
  split at h<;>cases h
  exact .inr ⟨rfl,rfl⟩
 | .pz _,x,h=>by
  simp only[mkD]at h
  split at h<;>cases h
  exact .inr ⟨rfl,rfl⟩
 | .bf _,x,h=>by
  simp only[mkD]at h
  split at h<;>cases h
  exact .inr ⟨rfl,rfl⟩
theorem Yce {w:World} {F:Fp} {H0:Store} {slot k k':Nat} {a:AV} {u:Ups} {ad:AD} {x:ad.den} {v:Value} {cs:List Value} (hm:mkD H0 slot k ad x=some (a,u,k')) (hc:AVC w F H loc a cs) (hs:X7 ad v cs):AVS w F H loc a v/\AVV w F H loc a v:=by
 rcases Ygb hm with ⟨n,rfl,rfl⟩|⟨h1,h2⟩
 ·exact⟨trivial,trivial⟩
 ·have hs':Shp a v cs:=by
   unfold Shp
   rw[h2]
   cases ad with
   |jk n=>simp only[mkD]at hm;cases hm;simp[Yaf]at h1
   |_=>exact hs
  cases a with
  |val t y=>exact⟨⟨cs,hc,hs'⟩,⟨cs,hc,hs'⟩⟩
  |nils=>exact⟨⟨cs,hc,hs'⟩,⟨cs,hc,hs'⟩⟩
  |ref r ver p=>exact⟨⟨cs,hc,hs'⟩,⟨cs,hc,hs'⟩⟩
  |bptr r o=>exact⟨⟨cs,hc,hs'⟩,⟨cs,hc,hs'⟩⟩
  |nv b r=>exact⟨⟨cs,hc,hs'⟩,⟨cs,hc,hs'⟩⟩
  |pr x y=>exact⟨⟨cs,hc,hs'⟩,⟨cs,hc,hs'⟩⟩
  |_=>simp[Yaf]at h1
theorem YgS (H:Store) (dst k:Nat) (x:YH []):Yeu H dst k [] x=some ([],[],k):=rfl
theorem YgT (H:Store) (dst k:Nat) (a:AD) (x:YH [a]):Yeu H dst k [a] x=(match mkD H dst k a x with|some (y,u,k1)=>some ([y],u,k1)|none=>none):=rfl
theorem Yge (H:Store) (dst k:Nat) (a b:AD) (l:List AD) (x:YH (a::b::l)):Yeu H dst k (a::b::l) x=(match mkD H dst k a x.1 with
  |some (y,u1,k1)=>(match Yeu (H.upd u1) dst k1 (b::l) x.2 with|some (ys,u2,k2)=>some (y::ys,u1++u2,k2)|none=>none)
  |none=>none):=rfl
def Vals (w:World) (F:Fp) (H:Store) (loc:Loc) (as:List AV) (vs:List Value):Prop:=as.length=vs.length/\ ∀(i:Nat) (a:AV) (v:Value),as[i]? =some a->vs[i]? =some v->AVS w F H loc a v/\AVV w F H loc a v
theorem Vals.keep {w':World} {F':Fp} {H':Store} {loc':Loc} {as:List AV} {vs:List Value} (k:Keep w F H loc w' F' H' loc') (h:Vals w F H loc as vs):Vals w' F' H' loc' as vs:=
 ⟨h.1,λi a v h1 h2=>⟨k.s a v (h.2 i a v h1 h2).1,k.v a v (h.2 i a v h1 h2).2⟩⟩
theorem Vals.cons {a:AV} {v:Value} {as:List AV} {vs:List Value} (h1:AVS w F H loc a v/\AVV w F H loc a v) (h:Vals w F H loc as vs):Vals w F H loc (a::as) (v::vs):=by
 refine⟨by simp[h.1],λi a' v' ha hv=>?_⟩
 cases i with
 |zero=>simp at ha hv;subst ha;subst hv;exact h1
 |succ i=>exact h.2 i a' v' (by simpa using ha) (by simpa using hv)
theorem Vals.nil:Vals w F H loc [] []:=⟨rfl,λi a v h=>by simp at h⟩
theorem Given.seq {F:Fp} {H:Store} {loc loc1 loc2:Loc} {fp fp1 fp2:Nat->Fp} {u1 u2:Ups} {f1 f2 f:Fp} (hf: ∀n,f1 n∨f2 n->f n) (h1:Given w F H loc fp u1 loc1 fp1 f1) (h2:Given w F (H.upd u1) loc1 fp1 u2 loc2 fp2 f2):Given w F H loc fp (u1++u2) loc2 fp2 f:=
 ⟨by rw[Store.upd_append];exact h2.roots,by rw[Store.upd_append];exact h1.keep.trans h2.keep,λr n h=>(h2.from_ r n h).elim (λh=>(h1.from_ r n h).imp id λh=>hf n (.inl h)) λh=> .inr (hf n (.inr h))⟩
theorem Given.nil (hR:Roots w F H loc fp) (f:Fp):Given w F H loc fp [] loc fp f:=⟨hR,Keep.refl ..,λ_ _ h=> .inl h⟩
theorem YfL: ∀(l:List AD) {H V:Store} {loc:Loc} {fp:Nat->Fp} {slot k k':Nat} {as:List AV} {x:YH l} {u:Ups} {vs:List Value} {f:Fp},Roots w F H loc fp->
  Own V H slot->ArgsR w F l vs x f->(∀n r,f n-> ¬fp r n)->(∀n,f n-> ¬F n)->Yeu V slot k l x=some (as,u,k')-> ∃loc' fp',Given w F H loc fp u loc' fp' f/\Vals w F (H.upd u) loc' as vs
 | [],H,V,loc,fp,slot,k,k',as,x,u,vs,f,hR,hO,hr,hd,hF,hm=>by
  rw[YgS]at hm;cases hm
  obtain⟨rfl,_⟩:=hr
  exact⟨loc,fp,Given.nil hR f,Vals.nil⟩
 | [ad],H,V,loc,fp,slot,k,k',as,x,u,vs,f,hR,hO,hr,hd,hF,hm=>by
  rw[YgT]at hm
  split at hm
  ·rename_i y u1 k1 h1
   cases hm
   obtain⟨v,rfl,cs,hr,hs⟩:=hr
   obtain⟨loc',fp',hg,hc⟩:=YaL ad hR hO hr hd hF h1
   exact⟨loc',fp',hg,Vals.cons (Yce h1 hc hs) Vals.nil⟩
  ·cases hm
 |ad::bd::l,H,V,loc,fp,slot,k,k',as,x,u,vs,f,hR,hO,hr,hd,hF,hm=>by
  rw[Yge]at hm
  split at hm
  rotate_left
  ·cases hm
  rename_i y u1 k1 h1
  split at hm
  rotate_left
  ·cases hm
  rename_i ys u2 k2 h2
  cases hm
  obtain⟨v,r,f1,f2,rfl,g1,g2,⟨cs,hr1,hs⟩,hr2⟩:=hr
  obtain⟨loc1,fp1,hg1,hc⟩:=YaL ad hR hO hr1 (λn r h=>hd n r ((g1 n).2 (.inl h))) (λn h=>hF n ((g1 n).2 (.inl h))) h1
  obtain⟨loc2,fp2,hg2,hv⟩:=YfL (bd::l) hg1.roots (hO.upd u1) hr2 (λn r h h'=>(hg1.from_ r n h').elim (hd n r ((g1 n).2 (.inr h))) λh'=>g2 n h' h) (λn h=>hF n ((g1 n).2 (.inr h))) h2
  refine⟨loc2,fp2,Given.seq (λn=>(g1 n).2) hg1 hg2,?_⟩
  rw[Store.upd_append]
  obtain⟨a1,a2⟩:=Yce h1 hc hs
  exact Vals.cons ⟨hg2.keep.s _ _ a1,hg2.keep.v _ _ a2⟩ hv
theorem YfU (H:Store) (r:Nat) (R:Root):H.upd [(r,R)]=H.set r R:=rfl
theorem Ybt: ∀(ad:AD) {H V:Store} {loc:Loc} {fp:Nat->Fp} {slot k k':Nat} {x:AV} {y:ad.out} {u:Ups} {f:Fp},Roots w F H loc fp->View V H->
  Own V H slot->InnerR w F H loc ad x y f->(∀n r,f n-> ¬fp r n)->(∀n,f n-> ¬F n)->Xr V slot k ad x y=some (u,k')-> ∃loc' fp',Given w F H loc fp u loc' fp' f
 | .v t,H,V,loc,fp,slot,k,k',x,y,u,f,hR,hV,hO,hi,hd,hF,hg=>by
  simp only[Xr]at hg;cases hg;exact⟨loc,fp,Given.nil hR f⟩
 | .mv e d,H,V,loc,fp,slot,k,k',x,y,u,f,hR,hV,hO,hi,hd,hF,hg=>by
  simp only[Xr]at hg;cases hg;exact⟨loc,fp,Given.nil hR f⟩
 | .mp _,H,V,loc,fp,slot,k,k',x,y,u,f,hR,hV,hO,hi,hd,hF,hg=>by
  simp only[Xr]at hg;cases hg;exact⟨loc,fp,Given.nil hR f⟩
 | .nv _ _,H,V,loc,fp,slot,k,k',x,y,u,f,hR,hV,hO,hi,hd,hF,hg=>by
  simp only[Xr]at hg;cases hg;exact⟨loc,fp,Given.nil hR f⟩
 | .jk n,H,V,loc,fp,slot,k,k',x,y,u,f,hR,hV,hO,hi,hd,hF,hg=>by
  simp only[Xr]at hg;cases hg;exact⟨loc,fp,Given.nil hR f⟩
 | .un,H,V,loc,fp,slot,k,k',x,y,u,f,hR,hV,hO,hi,hd,hF,hg=>by
  simp only[Xr]at hg;cases hg;exact⟨loc,fp,Given.nil hR f⟩
 | .gs _ _,H,V,loc,fp,slot,k,k',x,y,u,f,hR,hV,hO,hi,hd,hF,hg=>by
  simp only[Xr]at hg;cases hg;exact⟨loc,fp,Given.nil hR f⟩
 | .pz _,H,V,loc,fp,slot,k,k',x,y,u,f,hR,hV,hO,hi,hd,hF,hg=>by
  simp only[Xr]at hg;cases hg;exact⟨loc,fp,Given.nil hR f⟩
 | .bf _,H,V,loc,fp,slot,k,k',x,y,u,f,hR,hV,hO,hi,hd,hF,hg=>by
  simp only[Xr]at hg;cases hg;exact⟨loc,fp,Given.nil hR f⟩
 | .io e d,H,V,loc,fp,slot,k,k',x,y,u,f,hR,hV,hO,hi,hd,hF,hg=>by
  simp only[Xr]at hg;cases hg;exact⟨loc,fp,Given.nil hR f⟩
 | .pr a b,H,V,loc,fp,slot,k,k',x,y,u,f,hR,hV,hO,⟨x1,x2,f1,f2,h1,h2,h3,h4,h5,h6⟩,hd,hF,hg=>by
  simp only[Xr,h1,h2]at hg
  split at hg
  rotate_left
  ·cases hg
  rename_i u1 k1 hu1
  split at hg
  rotate_left
  ·cases hg
  rename_i u2 k2 hu2
  cases hg
  obtain⟨loc1,fp1,hg1⟩:=Ybt a hR hV hO h5 (λn r h=>hd n r ((h3 n).2 (.inl h))) (λn h=>hF n ((h3 n).2 (.inl h))) hu1
  obtain⟨loc2,fp2,hg2⟩:=Ybt b hg1.roots (hV.upd u1) (hO.upd u1) (h6.keep hg1.keep) (λn r h h'=>(hg1.from_ r n h').elim (hd n r ((h3 n).2 (.inr h))) λh'=>h4 n h' h) (λn h=>hF n ((h3 n).2 (.inr h))) hu2
  exact⟨loc2,fp2,Given.seq (λn=>(h3 n).2) hg1 hg2⟩
 | .bx a,H,V,loc,fp,slot,k,k',x,y,u,f,hR,hV,hO,⟨r,b,c,h1,h2,h3,h4⟩,hd,hF,hg=>by
  subst h1
  simp only[Xr]at hg
  split at hg
  rotate_left
  ·cases hg
  rename_i z u1 k1 hz
  split at hg
  rotate_left
  ·cases hg
  rename_i cl c0 hcl hbox
  cases hg
  obtain⟨loc1,fp1,hg1,hc⟩:=YaL a hR hO h4 hd hF hz
  have hbox':(H.upd u1) r= .box c0:=(hV.upd u1).arr hbox (by simp)
  obtain⟨v,e,h2'⟩:=hg1.keep.c (.bptr r 0) [.pointer (some ⟨b,0,none⟩)] ⟨_,rfl,h2⟩
  have e:=(List.cons.inj e).1
  subst e
  obtain⟨b',e',h2'⟩:=h2'
  simp only[Value.pointer.injEq,Option.some.injEq,Addr.mk.injEq,and_true]at e'
  subst e'
  rw[hbox']at h2'
  have hok:=hg1.roots.ok r
  rw[hbox']at hok
  obtain⟨b2,cs2,q1,q2,q3,q4,q5⟩:=hok
  rw[h2']at q1
  simp only[Value.pointer.injEq,Option.some.injEq,Addr.mk.injEq,and_true]at q1
  subst q1
  have e2:=Blk.inj q2 h3
  subst e2
  have hK:Keep w F (H.upd u1) loc1 w F ((H.upd u1).set r (.box cl)) loc1:=Yas hg1.roots (λ_ h=>h) (λ_ _=>rfl) λr'=>by
   by_cases er:r'=r
   ·subst er;rw[Store.set_same,hbox'];exact .box ..
   ·rw[Store.set_other _ _ er];exact .same _ _ _ λ_ _=>rfl
  have hcw:=(Ybr z hc hcl).keep hK
  have hR2:Roots w F ((H.upd u1).set r (.box cl)) loc1 fp1:=⟨λr'=>by
   by_cases er:r'=r
   ·subst er;rw[Store.set_same]
    exact⟨b,cs2,h2',q2,hcw.1,q4,λi a v ha hv=>hcw.2 i a v ha hv⟩
   ·rw[Store.set_other _ _ er];exact(hg1.roots.ok r').keep hK (λ_ h=>h) (λ_ _=>rfl) (λ_ _=>rfl),hg1.roots.disj,hg1.roots.frz,hg1.roots.dom⟩
  refine⟨loc1,fp1,⟨by rw[Store.upd_append,YfU];exact hR2,by rw[Store.upd_append,YfU];exact hg1.keep.trans hK,hg1.from_⟩⟩
end
end Go.Va
namespace Go.Va
section
variable {P:Program} {w w':World} {F F' F1 Fx:Fp} {H H1 V:Store} {loc:Loc} {fp fp1:Nat->Fp} {lent:Nat->Fp}
theorem Y2: ∀(l:List AD) (as:List AV) {V:Store} {r:Nat},r∈Yg V l as->(r,true)∈Yf V l as
 | [],_,_,_,h=>by simp[Yg]at h
 |a::l,[],_,_,h=>by simp[Yg]at h
 |a::l,x::as,V,r,h=>by
  rw[Yg]at h;rw[Yf]
  rcases List.mem_append.1 h with h|h
  ·exact List.mem_append_left _ (YG a h)
  ·exact List.mem_append_right _ (Y2 l as h)
theorem Yac: ∀(l:List Nat),YE (l.map λr=>(r,true))=true->l.Nodup
 | [],_=>List.nodup_nil
 |r::l,h=>by
  simp only[List.map_cons,YE,Bool.and_eq_true,List.all_eq_true]at h
  refine List.nodup_cons.2 ⟨λhr=>?_,Yac l h.2⟩
  have:=h.1 (r,true) (List.mem_map_of_mem hr)
  simp at this
theorem Yat: ∀(ad:AD) {V:Store} {a:AV},YE (Yc V ad a)=true->(Yb V ad a).Nodup
 | .v _,_,_,_=>by simp[Yb]
 | .mv _ _,_,_,_=>by simp[Yb]
 | .mp _,_,_,_=>by simp[Yb]
 | .nv _ _,_,_,_=>by simp[Yb]
 | .jk _,_,_,_=>by simp[Yb]
 | .un,_,_,_=>by simp[Yb]
 | .gs _ _,_,_,_=>by simp[Yb]
 | .pz _,_,_,_=>by simp[Yb]
 | .io _ _,_,_,h=>Yac _ h
 | .bf _,_,_,h=>Yac _ h
 | .bx _,_,a,_=>by cases a<;>simp[Yb]
 | .pr a b,V,x,h=>by
  simp only[Yc]at h
  simp only[Yb]
  cases hy:Yd x [.fst]with
  |none=>simp
  |some y=>
   cases hz:Yd x [.snd]with
   |none=>simp
   |some z=>
    simp only[hy,hz]at h⊢
    obtain⟨h1,h2,h3⟩:=YA _ _ h
    refine List.nodup_append.2 ⟨Yat a h1,Yat b h2,λr hr r' hr' e=>?_⟩
    have:=(h3 _ (YG a hr) _ (YG b hr') e).1
    cases this
theorem YaK: ∀(l:List AD) (as:List AV) {V:Store},YE (Yf V l as)=true->(Yg V l as).Nodup
 | [],_,_,_=>by simp[Yg]
 |a::l,[],_,_=>by simp[Yg]
 |a::l,x::as,V,h=>by
  rw[Yf]at h;rw[Yg]
  obtain⟨h1,h2,h3⟩:=YA _ _ h
  refine List.nodup_append.2 ⟨Yat a h1,YaK l as h2,λr hr r' hr' e=>?_⟩
  have:=(h3 _ (YG a hr) _ (Y2 l as hr') e).1
  cases this
theorem YaQ: ∀(ad:AD) {V:Store} {a:AV} {x:ad.den} {u:Ups},YO V ad a=some (x,u)-> ∀q∈u,∃b,(q.1,b)∈Y8 ad a
 | .v t,V,a,x,u,h=>λq hq=>by
  simp only[YO]at h
  exact⟨false,List.mem_map_of_mem (f:=λr=>(r,false)) (YD a h q hq)⟩
 | .mv e d,V,a,x,u,h=>λq hq=>by
  simp only[YO]at h
  exact⟨true,List.mem_map_of_mem (f:=λr=>(r,true)) (YD a h q hq)⟩
 | .mp _,V,a,x,u,h=>λq hq=>by
  simp only[YO]at h
  exact⟨true,List.mem_map_of_mem (f:=λr=>(r,true)) (Yab h q hq)⟩
 | .nv e d,V,a,x,u,h=>λq hq=>by
  simp only[YO]at h
  exact⟨true,List.mem_map_of_mem (f:=λr=>(r,true)) (XY h q hq)⟩
 | .pr ad bd,V,a,x,u,h=>λq hq=>by
  simp only[YO]at h
  split at h
  ·rename_i y z hy hz
   have e:Y8 (.pr ad bd) a=Y8 ad y++Y8 bd z:=by simp only[Y8,hy,hz]
   rw[e]
   split at h
   ·rename_i u1 v1 h1
    split at h
    ·rename_i u2 v2 h2
     cases h
     rcases List.mem_append.1 hq with hq|hq
     ·obtain⟨b,hb⟩:=YaQ ad h1 q hq;exact⟨b,List.mem_append_left _ hb⟩
     ·obtain⟨b,hb⟩:=YaQ bd h2 q hq;exact⟨b,List.mem_append_right _ hb⟩
    ·cases h
   ·cases h
  ·cases h
 | .jk n,V,a,x,u,h=>by
  simp only[YO]at h
  split at h
  ·split at h<;>cases h;simp
  ·cases h
 | .io e d,V,a,x,u,h=>by simp[YO]at h
 | .bx ad,V,a,x,u,h=>by simp[YO]at h
 | .un,V,a,x,u,h=>by simp[YO]at h
 | .gs _ _,V,a,x,u,h=>by simp[YO]at h
 | .pz _,V,a,x,u,h=>by simp[YO]at h
 | .bf _,V,a,x,u,h=>by simp[YO]at h
theorem Xn {share:Bool}: ∀(ad:AD) {V:Store} {a:AV} {x:ad.den} {u:Ups},Yh V share ad a=some (x,u)->YE (Yc V ad a)=true->
  (∀q∈u,∃b,(q.1,b)∈Yc V ad a)/\(∀q∈u,q.1∉Yb V ad a)
 | .v t,V,a,x,u,h,hal=>by
  refine⟨λq hq=>?_,λq hq=>by simp[Yb]⟩
  simp only[Yh]at h
  by_cases hs:share=true
  ·have h:=(if_pos hs).symm.trans h
   exact⟨false,List.mem_map_of_mem (f:=λr=>(r,false)) (YD a h q hq)⟩
  ·have h:=(if_neg hs).symm.trans h
   split at h<;>cases h;simp at hq
 | .mv e d,V,a,x,u,h,hal=>by
  simp only[Yh]at h
  exact⟨λq hq=>⟨true,List.mem_map_of_mem (f:=λr=>(r,true)) (YD a h q hq)⟩,λq hq=>by simp[Yb]⟩
 | .mp _,V,a,x,u,h,hal=>by
  simp only[Yh]at h
  exact⟨λq hq=>⟨true,List.mem_map_of_mem (f:=λr=>(r,true)) (Yab h q hq)⟩,λq hq=>by simp[Yb]⟩
 | .nv e d,V,a,x,u,h,hal=>by
  simp only[Yh]at h
  exact⟨λq hq=>⟨true,List.mem_map_of_mem (f:=λr=>(r,true)) (XY h q hq)⟩,λq hq=>by simp[Yb]⟩
 | .io e d,V,a,x,u,h,hal=>by
  simp only[Yh]at h
  split at h
  ·split at h
   ·split at h
    ·split at h<;>cases h;simp
    ·cases h
   ·cases h
  ·cases h
 | .bx ad,V,a,x,u,h,hal=>by
  simp only[Yh]at h
  split at h
  rotate_left
  ·cases h
  rename_i r
  split at h
  rotate_left
  ·cases h
  rename_i c hc
  by_cases hlen:c.length=ad.cells
  rotate_left
  ·have h:=(if_neg hlen).symm.trans h
   cases h
  have h:=(if_pos hlen).symm.trans h
  have hr:=YaQ ad h
  have e:Yc V (.bx ad) (.bptr r 0)=(r,true)::Y8 ad (YN ad c):=by simp only[Yc,hc]
  rw[e]at hal⊢
  simp only[YE,Bool.and_eq_true,List.all_eq_true]at hal
  refine⟨λq hq=>(hr q hq).imp λb hb=>List.mem_cons_of_mem _ hb,λq hq=>?_⟩
  simp only[Yb,List.mem_singleton]
  intro e
  obtain⟨b,hb⟩:=hr q hq
  have:=hal.1 _ hb
  simp[e]at this
 | .pr ad bd,V,a,x,u,h,hal=>by
  simp only[Yh]at h
  split at h
  rotate_left
  ·cases h
  rename_i y z hy hz
  split at h
  rotate_left
  ·cases h
  rename_i x1 u1 h1
  split at h
  rotate_left
  ·cases h
  rename_i x2 u2 h2
  cases h
  simp only[Yc,hy,hz]at hal⊢
  simp only[Yb,hy,hz]
  obtain⟨a1,a2,a3⟩:=YA _ _ hal
  obtain⟨g1,g2⟩:=Xn ad h1 a1
  have hk: ∀r,(r,true)∈Yc V bd z->(V.upd u1) r=V r:=λr hr=>Yy u1 λq hq e=>by
   obtain⟨b,hb⟩:=g1 q hq
   have:=(a3 _ hb _ hr e).2
   cases this
  have hroots:Yc (V.upd u1) bd z=Yc V bd z:=Xm bd hk
  obtain⟨k1,k2⟩:=Xn bd h2 (by rw[hroots];exact a2)
  rw[hroots]at k1
  have hl:Yb (V.upd u1) bd z=Yb V bd z:=by
   have key: ∀(ad:AD) (V V':Store) (a:AV),Yb V' ad a=Yb V ad a:=by
    intro ad V V'
    induction ad with
    |pr p q ihp ihq=>intro a;simp only[Yb];cases Yd a [.fst]<;>cases Yd a [.snd]<;>simp[ihp,ihq]
    |bx p _=>intro a;cases a<;>rfl
    |_=>intro a;rfl
   exact key ..
  rw[hl]at k2
  refine⟨λq hq=>?_,λq hq=>?_⟩
  ·rcases List.mem_append.1 hq with hq|hq
   ·exact(g1 q hq).imp λb hb=>List.mem_append_left _ hb
   ·exact(k1 q hq).imp λb hb=>List.mem_append_right _ hb
  ·rcases List.mem_append.1 hq with hq|hq
   ·refine λh=>(List.mem_append.1 h).elim (g2 q hq) λh=>?_
    obtain⟨b,hb⟩:=g1 q hq
    have:=(a3 _ hb _ (YG bd h) rfl).2
    cases this
   ·refine λh=>(List.mem_append.1 h).elim (λh=>?_) (k2 q hq)
    obtain⟨b,hb⟩:=k1 q hq
    have:=(a3 _ (YG ad h) _ hb rfl).1
    cases this
 | .jk n,V,a,x,u,h,hal=>by
  simp only[Yh]at h
  split at h
  ·split at h<;>cases h;simp
  ·cases h
 | .un,V,a,x,u,h,hal=>by simp[Yh]at h
 | .gs _ _,V,a,x,u,h,hal=>by simp[Yh]at h
 | .bf e,V,a,x,u,h,hal=>by
  simp only[Yh]at h
  split at h
  rotate_left
  ·cases h
  split at h
  rotate_left
  ·cases h
  split at h
  rotate_left
  ·cases h
  cases h;simp
 | .pz t,V,a,x,u,h,hal=>by
  simp only[Yh]at h
  exact⟨λq hq=>⟨true,List.mem_map_of_mem (f:=λr=>(r,true)) (Yb6 h q hq)⟩,λq hq=>by simp[Yb]⟩
theorem Ye9: ∀(ad:AD) (V V':Store) (a:AV),Yb V' ad a=Yb V ad a:=by
 intro ad V V'
 induction ad with
 |pr p q ihp ihq=>intro a;simp only[Yb];cases Yd a [.fst]<;>cases Yd a [.snd]<;>simp[ihp,ihq]
 |bx p _=>intro a;cases a<;>rfl
 |_=>intro a;rfl
theorem Ybw: ∀(l:List AD) (as:List AV) (V V':Store),Yg V' l as=Yg V l as
 | [],_,_,_=>by simp[Yg]
 |a::l,[],_,_=>by simp[Yg]
 |a::l,x::as,V,V'=>by simp only[Yg];rw[Ye9 a V V',Ybw l as V V']
theorem YbA {share:Bool}: ∀(l:List AD) (as:List AV) {V:Store} {x:YH l} {u:Ups},Xx V share l as=some (x,u)->YE (Yf V l as)=true->
  (∀q∈u,∃b,(q.1,b)∈Yf V l as)/\(∀q∈u,q.1∉Yg V l as)
 | [],as,V,x,u,h,hal=>by
  rw[Yax]at h
  cases as<;>cases h
  simp
 | [ad],as,V,x,u,h,hal=>by
  rw[Xy]at h
  match as with
  | []=>cases h
  |_::_::_=>cases h
  | [a]=>
   have h:Yh V share ad a=some (x,u):=h
   simp only[Yf,Yg,List.append_nil]at hal⊢
   exact Xn ad h hal
 |ad::bd::l,as,V,x,u,h,hal=>by
  match as with
  | []=>rw[Xe]at h;cases h
  |a::r=>
   rw[Xe]at h
   dsimp only at h
   split at h
   rotate_left
   ·cases h
   rename_i x1 u1 h1
   split at h
   rotate_left
   ·cases h
   rename_i x2 u2 h2
   cases h
   rw[Yf]at hal⊢
   rw[Yg]
   obtain⟨a1,a2,a3⟩:=YA _ _ hal
   obtain⟨g1,g2⟩:=Xn ad h1 a1
   have hroots:Yf (V.upd u1) (bd::l) r=Yf V (bd::l) r:=XV _ _ λr hr=>Yy u1 λq hq e=>by
    obtain⟨b,hb⟩:=g1 q hq
    have:=(a3 _ hb _ hr e).2
    cases this
   obtain⟨k1,k2⟩:=YbA (bd::l) r h2 (by rw[hroots];exact a2)
   rw[hroots]at k1
   rw[Ybw _ _ V]at k2
   refine⟨λq hq=>?_,λq hq=>?_⟩
   ·rcases List.mem_append.1 hq with hq|hq
    ·exact(g1 q hq).imp λb hb=>List.mem_append_left _ hb
    ·exact(k1 q hq).imp λb hb=>List.mem_append_right _ hb
   ·rcases List.mem_append.1 hq with hq|hq
    ·refine λh=>(List.mem_append.1 h).elim (g2 q hq) λh=>?_
     obtain⟨b,hb⟩:=g1 q hq
     have:=(a3 _ hb _ (Y2 _ _ h) rfl).2
     cases this
    ·refine λh=>(List.mem_append.1 h).elim (λh=>?_) (k2 q hq)
     obtain⟨b,hb⟩:=k1 q hq
     have:=(a3 _ (YG ad h) _ hb rfl).1
     cases this
theorem LenO.keep: ∀(ad:AD) {V V':Store} {a:AV} {y:ad.out},(∀r,r∈Yb V ad a->V' r=V r)->LenO V' ad a y->LenO V ad a y
 | .bf e,V,V',a,y,h,h1=>λr ver p xs n v pin e1 e2=>h1 r ver p xs n v pin e1 (by rw[h r (by subst e1;simp[Yb,Yj])];exact e2)
 | .pr p q,V,V',a,y,h,h1=>λu v e1 e2=>by
  simp only[Yb,e1,e2]at h
  exact⟨LenO.keep p (λr hr=>h r (List.mem_append_left _ hr)) (h1 u v e1 e2).1,LenO.keep q (λr hr=>h r (List.mem_append_right _ hr)) (h1 u v e1 e2).2⟩
 | .v _,_,_,_,_,_,_=>trivial
 | .io _ _,_,_,_,_,_,_=>trivial
 | .mv _ _,_,_,_,_,_,_=>trivial
 | .bx _,_,_,_,_,_,_=>trivial
 | .jk _,_,_,_,_,_,_=>trivial
 | .un,_,_,_,_,_,_=>trivial
 | .mp _,_,_,_,_,_,_=>trivial
 | .gs _ _,_,_,_,_,_,_=>trivial
 | .nv _ _,_,_,_,_,_,_=>trivial
 | .pz _,_,_,_,_,_,_=>trivial
theorem LenOs.keep: ∀(l:List AD) (as:List AV) {V V':Store} {y:XK l},(∀r,r∈Yg V l as->V' r=V r)->LenOs V' l as y->LenOs V l as y
 | [],_,_,_,_,_,_=>trivial
 | [a],as,V,V',y,h,h1=>λx r e=>by
  subst e
  exact LenO.keep a (λs hs=>h s (by simp only[Yg,List.mem_append];exact .inl hs)) (h1 x r rfl)
 |a::b::l,as,V,V',y,h,h1=>λx r e=>by
  subst e
  rw[Yg]at h
  exact⟨LenO.keep a (λs hs=>h s (List.mem_append_left _ hs)) (h1 x r rfl).1,LenOs.keep (b::l) r (λs hs=>h s (List.mem_append_right _ hs)) (h1 x r rfl).2⟩
theorem Ycd {share:Bool}: ∀(ad:AD) {V:Store} {a:AV} {x:ad.den} {u:Ups} {y:ad.out},Yh V share ad a=some (x,u)->YE (Yc V ad a)=true->Yep ad x y=true->LenO V ad a y
 | .bf e,V,a,x,u,y,h,hal,hl=>λr ver p xs n v pin e1 e2=>by
  subst e1
  simp only[Yh]at h
  split at h
  rotate_left
  ·cases h
  rename_i r' b hb
  have hr:r'=r:=by
   have hb:YdJ V r ver p=some (r',b):=hb
   unfold YdJ at hb
   split at hb
   rotate_left
   ·cases hb
   split at hb
   ·cases hb;rfl
   ·split at hb
    ·cases hb;rfl
    ·cases hb
   ·cases hb
  subst hr
  rw[e2]at h
  dsimp only at h
  split at h
  rotate_left
  ·cases h
  rename_i ys hys
  cases h
  have hys:=YM hys
  subst hys
  exact of_decide_eq_true hl
 | .pr p q,V,a,x,u,y,h,hal,hl=>λs t e1 e2=>by
  simp only[Yh,e1,e2]at h
  simp only[Yc,e1,e2]at hal
  split at h
  rotate_left
  ·cases h
  rename_i x1 u1 h1
  split at h
  rotate_left
  ·cases h
  rename_i x2 u2 h2
  cases h
  obtain⟨a1,a2,a3⟩:=YA _ _ hal
  obtain⟨g1,g2⟩:=Xn p h1 a1
  have hk: ∀r,(r,true)∈Yc V q t->(V.upd u1) r=V r:=λr hr=>Yy u1 λz hz e=>by
   obtain⟨b,hb⟩:=g1 z hz
   have:=(a3 _ hb _ hr e).2
   cases this
  have hroots:Yc (V.upd u1) q t=Yc V q t:=Xm _ hk
  have hl:(Yep p x1 y.1&&Yep q x2 y.2)=true:=hl
  rw[Bool.and_eq_true]at hl
  refine⟨Ycd p h1 a1 hl.1,LenO.keep q (V':=V.upd u1) (λr hr=>hk r (YG q hr)) (Ycd q h2 (by rw[hroots];exact a2) hl.2)⟩
 | .v _,_,_,_,_,_,_,_,_=>trivial
 | .io _ _,_,_,_,_,_,_,_,_=>trivial
 | .mv _ _,_,_,_,_,_,_,_,_=>trivial
 | .bx _,_,_,_,_,_,_,_,_=>trivial
 | .jk _,_,_,_,_,_,_,_,_=>trivial
 | .un,_,_,_,_,_,_,_,_=>trivial
 | .mp _,_,_,_,_,_,_,_,_=>trivial
 | .gs _ _,_,_,_,_,_,_,_,_=>trivial
 | .nv _ _,_,_,_,_,_,_,_,_=>trivial
 | .pz _,_,_,_,_,_,_,_,_=>trivial
theorem Yeq {share:Bool}: ∀(l:List AD) (as:List AV) {V:Store} {x:YH l} {u:Ups} {y:XK l},Xx V share l as=some (x,u)->YE (Yf V l as)=true->YfG l x y=true->LenOs V l as y
 | [],_,_,_,_,_,_,_,_=>trivial
 | [ad],as,V,x,u,y,h,hal,hl=>λa r e=>by
  subst e
  rw[Xy]at h
  cases r with
  |cons=>cases h
  |nil=>
   have h:Yh V share ad a=some (x,u):=h
   simp only[Yf,List.append_nil]at hal
   exact Ycd ad h hal hl
 |ad::bd::l,as,V,x,u,y,h,hal,hl=>λa r e=>by
  subst e
  rw[Xe]at h
  dsimp only at h
  split at h
  rotate_left
  ·cases h
  rename_i x1 u1 h1
  split at h
  rotate_left
  ·cases h
  rename_i x2 u2 h2
  cases h
  rw[Yf]at hal
  obtain⟨a1,a2,a3⟩:=YA _ _ hal
  obtain⟨g1,g2⟩:=Xn ad h1 a1
  have hk: ∀s,(s,true)∈Yf V (bd::l) r->(V.upd u1) s=V s:=λs hs=>Yy u1 λz hz e=>by
   obtain⟨b,hb⟩:=g1 z hz
   have:=(a3 _ hb _ hs e).2
   cases this
  have hroots:Yf (V.upd u1) (bd::l) r=Yf V (bd::l) r:=XV _ _ hk
  have hl:(Yep ad x1 y.1&&YfG (bd::l) x2 y.2)=true:=hl
  rw[Bool.and_eq_true]at hl
  exact⟨Ycd ad h1 a1 hl.1,LenOs.keep (bd::l) r (V':=V.upd u1) (λs hs=>hk s (Y2 _ _ hs)) (Yeq (bd::l) r h2 (by rw[hroots];exact a2) hl.2)⟩
theorem LentA.spec: ∀(ad:AD) {V:Store} {a:AV} {cs:List Value},LentA w F1 loc fp1 V ad a cs lent-> ∀r,(r,true)∈Yc V ad a->(∀n,lent r n->r∈Yb V ad a/\fp1 r n)/\(r∈Yb V ad a->V r≠ .free)
 | .v t,V,a,cs,h=>λr hr=>by simp[Yc]at hr
 | .jk n,V,a,cs,h=>λr hr=>by simp[Yc]at hr
 | .un,V,a,cs,h=>λr hr=>by simp[Yc]at hr
 | .gs _ _,V,a,cs,h=>λr hr=>by simp[Yc]at hr
 | .bf e,V,a,cs,⟨r',ver0,p,v,b,xs,n,ver,pin,h1,h2,h3,h4,_⟩=>λr hr=>by
  subst h1
  simp only[Yc,Yj,List.map_cons,List.map_nil,List.mem_singleton,Prod.mk.injEq,and_true]at hr
  subst hr
  exact⟨λn hn=>⟨by simp[Yb,Yj],(h4 n).1 hn⟩,λ_=>by rw[h3];simp⟩
 | .pz _,V,a,cs,h=>λr hr=>by
  simp only[Yc,List.mem_map,Prod.mk.injEq,and_true,exists_eq_right]at hr
  exact⟨λn hn=>(h r hr n hn).elim,by simp[Yb]⟩
 | .mv e d,V,a,cs,h=>λr hr=>by
  simp only[Yc,List.mem_map,Prod.mk.injEq,and_true,exists_eq_right]at hr
  exact⟨λn hn=>(h r hr n hn).elim,by simp[Yb]⟩
 | .mp _,V,a,cs,h=>λr hr=>by
  simp only[Yc,List.mem_map,Prod.mk.injEq,and_true,exists_eq_right]at hr
  exact⟨λn hn=>(h r hr n hn).elim,by simp[Yb]⟩
 | .nv _ _,V,a,cs,h=>λr hr=>by
  simp only[Yc,List.mem_map,Prod.mk.injEq,and_true,exists_eq_right]at hr
  exact⟨λn hn=>(h r hr n hn).elim,by simp[Yb]⟩
 | .io e d,V,a,cs,⟨r',ver,p,v,e',d',xs,ver',pin,h1,h2,h3,h4,h5⟩=>λr hr=>by
  subst h1
  simp only[Yc,Yj,List.map_cons,List.map_nil,List.mem_singleton,Prod.mk.injEq,and_true]at hr
  subst hr
  exact⟨λn hn=>⟨by simp[Yb,Yj],h4 n hn⟩,λ_=>by rw[h3];simp⟩
 | .bx ad,V,a,cs,⟨r',b,c,h1,h2,h3,h4,h5,h6,h7,h8⟩=>λr hr=>by
  subst h1
  simp only[Yc,h2,List.mem_cons,Prod.mk.injEq,and_true]at hr
  rcases hr with rfl|hr
  ·exact⟨λn hn=>⟨by simp[Yb],(h5 n).2 ((h6 n).1 hn)⟩,λ_=>by rw[h2];simp⟩
  ·refine⟨λn hn=>(h8 r hr n hn).elim,λh=>?_⟩
   simp only[Yb,List.mem_singleton]at h
   rw[h,h2];simp
 | .pr ad bd,V,a,cs,⟨y,z,c1,c2,h1,h2,h3,h4,h5,h6⟩=>λr hr=>by
  simp only[Yc,Yb,h1,h2]at hr⊢
  have k1:=LentA.spec ad h5 r
  have k2:=LentA.spec bd h6 r
  refine⟨λn hn=>?_,λh=>?_⟩
  ·rcases List.mem_append.1 hr with hr|hr
   ·obtain⟨g1,g2⟩:=(k1 hr).1 n hn;exact⟨List.mem_append_left _ g1,g2⟩
   ·obtain⟨g1,g2⟩:=(k2 hr).1 n hn;exact⟨List.mem_append_right _ g1,g2⟩
  ·rcases List.mem_append.1 h with h|h
   ·exact(k1 (YG ad h)).2 h
   ·exact(k2 (YG bd h)).2 h
theorem LentAs.spec: ∀(l:List AD) {V:Store} {as:List AV} {vs:List Value},LentAs w F1 loc fp1 V l as vs lent-> ∀r,(r,true)∈Yf V l as->(∀n,lent r n->r∈Yg V l as/\fp1 r n)/\(r∈Yg V l as->V r≠ .free)
 | [],V,as,vs,h=>λr hr=>by simp[Yf]at hr
 |a::l,V,as,vs,⟨x,q,v,q',h1,h2,⟨cs,h3,h4,h5⟩,h6⟩=>λr hr=>by
  subst h1
  rw[Yf]at hr;rw[Yg]
  have k1:=LentA.spec a h5 r
  have k2:=LentAs.spec l h6 r
  refine⟨λn hn=>?_,λh=>?_⟩
  ·rcases List.mem_append.1 hr with hr|hr
   ·obtain⟨g1,g2⟩:=(k1 hr).1 n hn;exact⟨List.mem_append_left _ g1,g2⟩
   ·obtain⟨g1,g2⟩:=(k2 hr).1 n hn;exact⟨List.mem_append_right _ g1,g2⟩
  ·rcases List.mem_append.1 h with h|h
   ·exact(k1 (YG a h)).2 h
   ·exact(k2 (Y2 l q h)).2 h
theorem YbX {l:List (Nat×Bool)} (h:YE l=true): ∀r,(r,true)∈l->(r,false)∉l:=by
 induction l with
 |nil=>simp
 |cons q l ih=>
  obtain⟨q1,q2⟩:=q
  simp only[YE,Bool.and_eq_true,List.all_eq_true]at h
  intro r h1 h2
  rcases List.mem_cons.1 h1 with e1|k1
  ·obtain⟨rfl,rfl⟩:=Prod.mk.inj e1
   rcases List.mem_cons.1 h2 with e2|k2
   ·cases (Prod.mk.inj e2).2
   ·have:=h.1 _ k2
    simp at this
  ·rcases List.mem_cons.1 h2 with e2|k2
   ·obtain⟨rfl,rfl⟩:=Prod.mk.inj e2
    have:=h.1 _ k1
    simp at this
   ·exact ih h.2 r k1 k2
theorem Ydb {f : FuncId} {fn : Func} {c : Code} {o : Oper} {a : Act} {cl : Call} {fo : Operand} (hf : P.funcs[f]? = some fn) (hn : (fn.name == "runtime.NumGoroutine") = false) (hb : fn.body = some c)
  (ho:o.op= .call cl) (hc:cl.callee= .value fo) {caps:Array Value} (hv:a.eval fo= .func (.func f) #[] caps):(execOp a.eval o).run P w= .ok (.enter f (cl.args.map a.eval++caps)) w:=by
 have h1 : fn.name ≠ "runtime.NumGoroutine" := by simpa using hn
 simp[execOp,ho,resolve,hc,hv,Deferred.ofValue,invoke,callFunc,hf,h1,hb]
theorem Yf2 {v:AV} {u:Value} {f:Nat} {l:List AV} (h:X1 v=some (f,l)) (hv:AVV w F H loc v u): ∃caps:List Value,u= .func (.func f) #[] caps.toArray/\caps.length=l.length/\ ∀(i:Nat) (a:AV) (c:Value),l[i]? =some a->caps[i]? =some c->AVV w F H loc a c:=by
 cases v with
 |val t x=>
  cases t with
  |fn g=>
   simp only[X1,Option.some.injEq,Prod.mk.injEq]at h
   obtain⟨rfl,rfl⟩:=h
   exact⟨[],Ygs.1 hv,rfl,λi s x hs=>by simp at hs⟩
  |fc g t=>
   simp only[X1,Option.some.injEq,Prod.mk.injEq]at h
   obtain⟨rfl,rfl⟩:=h
   obtain⟨cs,h1,h2⟩:=hv
   obtain⟨ci,rfl,h3⟩:=Rep.fc h1
   have h4:=Ybs (H:=H) (loc:=loc) t h3
   refine⟨ci,?_,h4.1,λi a c ha hc=>Y4 (h4.2 i a c ha hc).1 (h4.2 i a c ha hc).2⟩
   simpa[Shp,YF]using h2.symm
  |_=>simp[X1]at h
 |clo g q=>
  simp only[X1,Option.some.injEq,Prod.mk.injEq]at h
  obtain⟨rfl,rfl⟩:=h
  obtain⟨caps,h1,h2,h3⟩:=hv
  refine⟨caps,h1,by simpa using h2,λi a c ha hc=>?_⟩
  rw[List.getElem?_map]at ha
  cases hq:q[i]? with
  |none=>rw[hq]at ha;cases ha
  |some r=>rw[hq]at ha;cases ha;exact YB.2 (h3 i r c hq hc)
 |_=>simp[X1]at h
theorem Ye0 {cx:Cx} {V:Store} {f:Nat} {avs:List AV} {en:Entry} (h:YdL cx V f avs=some en): ∃k,cx.T k=some en/\k%65536=f:=by
 unfold YdL at h
 split at h
 ·split at h
  ·rename_i e;exact⟨_,h,e⟩
  ·cases h
 ·split at h
  ·rename_i e;exact⟨_,h,e⟩
  ·cases h
end
end Go.Va
namespace Go.Va
section
variable {P:Program} {w w':World} {F F' F1 Fx:Fp} {H H1 V:Store} {loc:Loc} {fp fp1:Nat->Fp} {lent:Nat->Fp}
theorem Ye4 (H:Store) (dst k:Nat) (as:List AV) (y:XK []):YaI H dst k [] as y=some ([],k):=rfl
theorem Ye5 (H:Store) (dst k:Nat) (a:AD) (as:List AV) (y:XK [a]):YaI H dst k [a] as y=(match as with| [x]=>Xr H dst k a x y|_=>none):=rfl
theorem Yef (H:Store) (dst k:Nat) (a b:AD) (l:List AD) (as:List AV) (y:XK (a::b::l)):YaI H dst k (a::b::l) as y=(match as with
  |x::r=>
   (match Xr H dst k a x y.1 with
   |some (u1,k1)=>(match YaI (H.upd u1) dst k1 (b::l) r y.2 with|some (u2,k2)=>some (u1++u2,k2)|none=>none)
   |none=>none)
  | []=>none):=by cases as<;>rfl
theorem Ydm: ∀(l:List AD) {H V:Store} {loc:Loc} {fp:Nat->Fp} {slot k k':Nat} {as:List AV} {y:XK l} {u:Ups} {f:Fp},Roots w F H loc fp->View V H->
  Own V H slot->InnerRs w F H loc l as y f->(∀n r,f n-> ¬fp r n)->(∀n,f n-> ¬F n)->YaI V slot k l as y=some (u,k')-> ∃loc' fp',Given w F H loc fp u loc' fp' f
 | [],H,V,loc,fp,slot,k,k',as,y,u,f,hR,hV,hO,hi,hd,hF,hg=>by
  rw[Ye4]at hg;cases hg;exact⟨loc,fp,Given.nil hR f⟩
 | [ad],H,V,loc,fp,slot,k,k',as,y,u,f,hR,hV,hO,⟨x,h1,h2⟩,hd,hF,hg=>by
  subst h1
  rw[Ye5]at hg
  exact Ybt ad hR hV hO h2 hd hF hg
 |ad::bd::l,H,V,loc,fp,slot,k,k',as,y,u,f,hR,hV,hO,⟨x,r,f1,f2,h1,h3,h4,h5,h6⟩,hd,hF,hg=>by
  subst h1
  rw[Yef]at hg
  dsimp only at hg
  split at hg
  rotate_left
  ·cases hg
  rename_i u1 k1 hu1
  split at hg
  rotate_left
  ·cases hg
  rename_i u2 k2 hu2
  cases hg
  obtain⟨loc1,fp1,hg1⟩:=Ybt ad hR hV hO h5 (λn r h=>hd n r ((h3 n).2 (.inl h))) (λn h=>hF n ((h3 n).2 (.inl h))) hu1
  obtain⟨loc2,fp2,hg2⟩:=Ydm (bd::l) hg1.roots (hV.upd u1) (hO.upd u1) (h6.keep hg1.keep) (λn r h h'=>(hg1.from_ r n h').elim (hd n r ((h3 n).2 (.inr h))) λh'=>h4 n h' h) (λn h=>hF n ((h3 n).2 (.inr h))) hu2
  exact⟨loc2,fp2,Given.seq (λn=>(h3 n).2) hg1 hg2⟩
theorem YiF {as:List AV} {vs:List Value} (h:Vals w F H loc as vs):AVV w F H loc (Yhj as) (Yfr vs):=by
 obtain⟨h1,h2⟩:=h
 match as,vs,h1 with
 | [a],[v],_=>exact(h2 0 a v rfl rfl).2
 | [],[],_=>exact⟨#[],rfl,rfl,λi a u h=>by simp at h⟩
 |a::b::l,v::v2::vs,h1=>
  refine⟨_,rfl,by simpa using h1.symm,λi x u hx hu=>(h2 i x u hx (by simpa using hu)).1⟩
theorem Yf1 {V:Store} {en:Entry} {b:en.B} {avs:List AV} {vs rs:List Value} {d:Nat} {share:Bool} {u1 u2 u3 u4:Ups} {k k':Nat} {as:List AV} {f:Fp} {Fc fA fR fO:Fp}
  (hV:View V H) (hO:Own V H d) (hal:YE (Yf V en.params avs)=true) (hoff: ∀q∈u1,q.1∉Yg V en.params avs)
  (ht:ArgT w F H loc fp share (Yf V en.params avs) u1 F1 fp1 f (X3 (Yf V en.params avs) lent)) (hL:LentAs w F1 loc fp1 V en.params avs vs lent)
  (hFc:Fc=YeS F1 fp1 share (Yf V en.params avs)) (hfA: ∀n,fA n↔f n∨X3 (Yf V en.params avs) lent n)
  (hsh:share=false->en.params.all AD.plain=true/\en.results.all AD.alone=true)
  (hret:Ret w Fc en b vs fA rs w' F' fR fO)
  (hlo:LenOs V en.params avs (en.out b)) (hu2:YaJ (V.upd u1) en.params avs (en.out b)=some u2) (hu3:Yeu ((V.upd u1).upd u2) d 0 en.results (en.res b)=some (as,u3,k))
  (hu4:YaI (((V.upd u1).upd u2).upd u3) d k en.params avs (en.out b)=some (u4,k')):
  ∃Fx loc' fp',Post w F H loc fp (Yhj as) (u1++u2++u3++u4) (Yfr rs) w' Fx loc' fp':=by
 have hR1:=ht.t.roots
 have hlive: ∀r n,fp1 r n->n<w.heap.size:=λr n h=>by obtain⟨c,hc⟩:=(hR1.ok r).live n h;exact hc.lt
 have hspec:=LentAs.spec _ hL
 have hA: ∀r n,fp1 r n->fA n->r∈Yg V en.params avs/\lent r n:=λr n h h'=>by
  rcases(hfA n).1 h' with h'|⟨r',h1,h2⟩
  ·exact(ht.t.offR n r h' h).elim
  ·obtain⟨k1,k2⟩:=(hspec r' h1).1 n h2
   have:=hR1.disj r r' n h k2
   subst this;exact⟨k1,h2⟩
 have hAF: ∀n,fA n-> ¬Fc n:=λn h h'=>by
  subst hFc
  rcases h' with h'|⟨_,r,h1,h2⟩
  ·rcases(hfA n).1 h with h|⟨r',h1,h2⟩
   ·exact ht.t.offF n h h'
   ·exact hR1.frz r' n ((hspec r' h1).1 n h2).2 h'
  ·obtain⟨k1,k2⟩:=hA r n h2 h
   exact YbX hal r (Y2 _ _ k1) h1
 have hF1c: ∀n,F1 n->Fc n:=λn h=>by subst hFc;exact .inl h
 have hkF: ∀n,F1 n->w'.heap[n]? =w.heap[n]? :=λn h=>hret.same n (hR1.dom n h) λh'=>hAF n h' (hF1c n h)
 have hsame: ∀r n,fp1 r n-> ¬lent r n->w'.heap[n]? =w.heap[n]? :=λr n h h'=>hret.same n (hlive r n h) λh''=>h' (hA r n h h'').2
 have hex: ∃Fx:Fp,(∀n,F1 n->Fx n)/\(∀r n,fp1 r n-> ¬(r∈Yg V en.params avs/\lent r n)-> ¬Fx n)/\ArgsR w' Fx en.results rs (en.res b) fR/\OutsR w' Fx en.params vs (en.out b) fO/\(∀n,fR n∨fO n-> ¬Fx n)/\
   (∀n,Fx n->F n∨(∃r,fp r n)∨w.heap.size<=n)/\(∀n,Fx n->n<w'.heap.size):=by
  cases share with
  |true=>
   refine⟨F',λn h=>hret.mono n (hF1c n h),λr n h h' h''=>?_,hret.res,hret.out,hret.off,λn h=>?_,hret.dom⟩
   ·rcases hret.frz n h'' with h2|h2|h2
    ·subst hFc
     rcases h2 with h2|⟨h2,_⟩
     ·exact hR1.frz r n h h2
     ·cases h2
    ·exact h' (hA r n h h2)
    ·have:=hlive r n h;omega
   ·rcases hret.frz n h with h2|h2|h2
    ·subst hFc
     rcases h2 with h2|⟨h2,_⟩
     ·exact(ht.t.from_ n h2).imp id .inl
     ·cases h2
    ·rcases(hfA n).1 h2 with h2|h2
     ·exact .inr (.inl (ht.t.own n h2))
     ·obtain⟨r,_,h2⟩:=ht.fi n h2
      exact .inr (.inl ⟨r,ht.t.sub r n h2⟩)
    ·exact .inr (.inr h2)
  |false=>
   obtain⟨s1,s2⟩:=hsh rfl
   exact⟨F1,λ_ h=>h,λr n h _=>hR1.frz r n h,ArgsR.alone _ s2 hret.res,OutsR.alone _ s1 hret.out,λn h h'=>hret.off n h (hret.mono n (hF1c n h')),λn h=>(ht.t.from_ n h).imp id .inl,λn h=>Nat.lt_of_lt_of_le (hR1.dom n h) hret.big⟩
 obtain⟨Fx,hFx1,hFx2,hres,hout,hFx3,hFx4,hFx5⟩:=hex
 have hG: ∀r n,fp1 r n->fR n∨fO n->lent r n:=λr n h h'=>by
  rcases hret.own n h' with h''|h''
  ·exact(hA r n h h'').2
  ·have:=hlive r n h;omega
 have hj0:=Jump.start (lent:=lent) (rem:=λr=>r∈Yg V en.params avs) (hand:=λn=>fR n∨fO n) hR1 hFx1 hkF
  (λr n h h'=>hret.same n (hlive r n h') λh''=>h (hA r n h' h'').1)
  (λr n h h' h''=>hFx2 r n h' (λh3=>h h3.1) h'')
  (λr n h h' h''=>by
   rcases hret.own n h'' with h3|h3
   ·exact h (hA r n h' h3).1
   ·have:=hlive r n h';omega)
 have hrem: ∀r,r∈Yg V en.params avs->r∈Yg V en.params avs/\(V.upd u1) r=V r/\V r=(H.upd u1) r:=λr hr=>by
  have e1:(V.upd u1) r=V r:=Yy u1 λq hq e=>hoff q hq (e▸hr)
  have e2:(H.upd u1) r=H r:=Yy u1 λq hq e=>hoff q hq (e▸hr)
  exact⟨hr,e1,by rw[e2];exact hV r ((hspec r (Y2 _ _ hr)).2 hr)⟩
 obtain⟨fp2,hand2,fin,j2,m1,m2,m3,m4,m5,m6⟩:=Ydn hR1 hFx1 hkF hsame (λr n h h'=>hFx2 r n h λh3=>h' h3.2) en.params hrem (YaK _ _ hal) hL hj0 hG hu2 hout (λn h=> .inr h) (λn h=>hFx3 n (.inr h)) hlo
 have j2':=j2.none (rem':=λ_=>False) λr=>by simp
 obtain⟨hR2,hK2⟩:=Jump.done hR1 j2' hFx1 hkF hFx5
 have hap: ∀n r,hand2 n-> ¬fp2 r n:=λn r h h'=>j2'.apart r n id h' h
 obtain⟨loc3,fp3,hg3,hv3⟩:=YfL en.results hR2 ((hO.upd u1).upd u2) hres (λn r h=>hap n r (m2 n (.inl h) λh'=>hret.disj n h h')) (λn h=>hFx3 n (.inl h)) hu3
 have hI:InnerRs w' Fx ((H.upd u1).upd u2|>.upd u3) loc3 en.params avs (en.out b) fin:=(m3.keep hK2).keep hg3.keep
 obtain⟨loc4,fp4,hg4⟩:=Ydm en.params hg3.roots (((hV.upd u1).upd u2).upd u3) (((hO.upd u1).upd u2).upd u3) hI
  (λn r h h'=>(hg3.from_ r n h').elim (hap n r (m4 n h).2) λh'=>hret.disj n h' (m4 n h).1) (λn h=>hFx3 n (.inr (m4 n h).1)) hu4
 have e:H.upd (u1++u2++u3++u4)=(((H.upd u1).upd u2).upd u3).upd u4:=by rw[Store.upd_append,Store.upd_append,Store.upd_append]
 have hKK:Keep w F H loc w' Fx (H.upd (u1++u2++u3++u4)) loc4:=by rw[e];exact((ht.t.keep.trans hK2).trans hg3.keep).trans hg4.keep
 refine⟨Fx,loc4,fp4,⟨?_,hKK,by rw[e];exact hg4.roots,hret.big,λm h1 h2=>hret.same m h1 λh=>?_,λr m h=>?_,hFx4,λm h=>hFx1 m (ht.t.mono m h),hret.rest⟩⟩
 ·rw[e];exact YiF (hv3.keep hg4.keep)
 ·rcases(hfA m).1 h with h|h
  ·obtain⟨r,h⟩:=ht.t.own m h;exact h2 r h
  ·obtain⟨r,_,h⟩:=ht.fi m h;exact h2 r (ht.t.sub r m h)
 ·have hRO:fR m∨fO m->(∃r',fp r' m)∨w.heap.size<=m:=λh=>by
   rcases hret.own m h with h|h
   ·rcases(hfA m).1 h with h|h
    ·exact .inl (ht.t.own m h)
    ·obtain⟨r,_,h⟩:=ht.fi m h;exact .inl ⟨r,ht.t.sub r m h⟩
   ·exact .inr h
  rcases hg4.from_ r m h with h|h
  ·rcases hg3.from_ r m h with h|h
   ·rcases m6 r m h with h|h
    ·exact .inl ⟨r,ht.t.sub r m h⟩
    ·exact hRO (.inr h)
   ·exact hRO (.inl h)
  ·exact hRO (.inr (m4 m h).1)
theorem YhN {cx:Cx} {G:Nat->AV} {o:Oper} {a:Act} (hR:Roots w F H loc fp) (hV:View V H) (hs: ∀i,AVV w F H loc (G i) (a.tmps.getD i undef)) (hO: ∀d,o.dst=some d->Own V H d) {cl:Call} {fo:Operand}
  (ho : o.op = .call cl) (hc : cl.callee = .value fo) (hH : ∀ k en, cx.T k = some en → Holds P (k % 65536) en ∧ ∃ fn c, P.funcs[k % 65536]? = some fn ∧ (fn.name == "runtime.NumGoroutine") = false ∧ fn.body = some c) : Sound P w F H loc fp o a (opE cx o G V) := by
 intro R k r hrun next Q hn
 simp only[opE,ho,hc]at hrun
 split at hrun
 rotate_left
 ·simp[OpE.run]at hrun
 rename_i f caps0 hG
 have hfo:=Yt hs fo
 obtain⟨caps,hfo,hcaps⟩:=Yf2 hG hfo
 split at hrun
 rotate_left
 ·simp[OpE.run]at hrun
 rename_i en d hT hd
 obtain⟨key,hT,hkey⟩:=Ye0 hT
 split at hrun
 ·simp[OpE.run]at hrun
 rename_i avs hund
 split at hrun
 rotate_left
 ·simp[OpE.run]at hrun
 rename_i hal
 rw[Bool.and_eq_true]at hal
 obtain⟨hal,hsp⟩:=hal
 split at hrun
 rotate_left
 ·simp[OpE.run]at hrun
 rename_i x u1 htake
 simp only[OpE.run]at hrun
 obtain⟨hHo,fn,c,hf,hname,hb⟩:=hH key en hT
 rw[hkey]at hHo hf
 cases hrb:en.run x with
 |none=>rw[hrb]at hrun;simp at hrun
 |some b=>
  rw[hrb]at hrun
  simp only[Option.bind_some]at hrun
  split at hrun
  rotate_left
  ·cases hrun
  rename_i hlen
  split at hrun
  rotate_left
  ·cases hrun
  rename_i v u hvu
  split at hvu
  rotate_left
  ·cases hvu
  rename_i u2 hu2
  split at hvu
  rotate_left
  ·cases hvu
  rename_i as u3 k3 hu3
  split at hvu
  rotate_left
  ·cases hvu
  rename_i u4 k4 hu4
  cases hvu
  have hsh:(!(en.params.all AD.plain&&en.results.all AD.alone))=false->en.params.all AD.plain=true/\en.results.all AD.alone=true:=λh=>by simpa using h
  have hvals0: ∀(i:Nat) (x:AV) (v:Value),(cl.args.toList.map (rdG G)++caps0)[i]? =some x->(cl.args.map a.eval++caps.toArray).toList[i]? =some v->AVV w F H loc x v:=λi x v hx hv=>by
   rw[Array.toList_append]at hv
   have hl:(cl.args.toList.map (rdG G)).length=(cl.args.map a.eval).toList.length:=by simp
   rcases Nat.lt_or_ge i (cl.args.toList.map (rdG G)).length with hlt|hge
   ·rw[List.getElem?_append_left hlt]at hx
    rw[List.getElem?_append_left (by omega)]at hv
    simp only[List.getElem?_map,Array.toList_map]at hx hv
    cases hq:cl.args.toList[i]? with
    |none=>rw[hq]at hx;cases hx
    |some q=>
     rw[hq]at hx hv
     cases hx;cases hv
     exact Yt hs q
   ·rw[List.getElem?_append_right hge]at hx
    rw[List.getElem?_append_right (by omega),←hl]at hv
    exact hcaps.2 _ x v hx hv
  obtain⟨vs,hdr,hvl,hvals⟩:=YeR hR hV (by simp[hcaps.1]) hvals0 hund
  obtain⟨F1,fp1,f',lent,ht,hargs,hL⟩:=Yb4 (x:=x) (vs:=vs) en.params avs hR hV hvl hvals hsp (λh=>(hsh h).1) htake hal
  have hspec:=LentAs.spec _ hL
  have hR1:=ht.t.roots
  have hcalls:=hHo x b hrb w _ (cl.args.map a.eval++caps.toArray) vs _ (hdr.mono λn h=> .inl (ht.t.mono n h)) hargs (λn h h'=>by
    rcases h' with h'|⟨_,r,h1,h2⟩
    ·rcases h with h|⟨r',h1,h2⟩
     ·exact ht.t.offF n h h'
     ·exact hR1.frz r' n ((hspec r' h1).1 n h2).2 h'
    ·rcases h with h|⟨r',h3,h4⟩
     ·exact ht.t.offR n r h h2
     ·obtain⟨k1,k2⟩:=(hspec r' h3).1 n h4
      have:=hR1.disj r r' n h2 k2
      subst this
      exact YbX hal r h3 h1)
   (λn h=>by
    rcases h with h|⟨_,r,h1,h2⟩
    ·exact hR1.dom n h
    ·obtain⟨c,hc⟩:=(hR1.ok r).live n h2;exact hc.lt)
  unfold Oper.wp
  rw[Ydb hf hname hb ho hc hfo,Oper.upon_enter]
  refine hcalls.mono ?_
  rintro e w' ⟨rs,F',fR,fO,rfl,hret⟩
  obtain⟨Fx,loc',fp',hp⟩:=Yf1 hV (hO d hd) hal (YbA _ _ htake hal).2 ht hL rfl (λ_=>Iff.rfl) hsh hret (Yeq en.params avs htake hal hlen) hu2 hu3 hu4
  exact hn _ _ _ _ _ _ _ hrun hp
end
end Go.Va
