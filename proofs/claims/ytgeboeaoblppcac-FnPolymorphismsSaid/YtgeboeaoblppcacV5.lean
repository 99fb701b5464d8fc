/- What comes in as an argument is data; tables of types and contracts; no conditions. -/
import Derived.Test.YtgeboeaoblppcacV4
import Derived.Below
import GoSem.ClaimChange
import Derived.ChangeArms
import Derived.OpenShut
import Derived.ProofKit
import Derived.Carry
set_option linter.unusedVariables false
set_option linter.unusedSimpArgs false
open Go.RowKit
namespace Go.Va
def wfT:(t:Ty)->t.den->Prop
 | .num k,x=>k.min<=(show Int from x)/\(show Int from x)<=k.max
 | .bool,_=>True
 | .str,s=>ByteArray.size s<=maxLen
 | .slice e,xs=>List.length xs<=maxLen/\ ∀x:e.den,x∈(show List e.den from xs)->wfT e x
 | .pair a b,x=>wfT a x.1/\wfT b x.2
 | .fn _,_=>False
 | .smap _,_=>False
 | .op _,_=>False
 | .ptr _,_=>False
 | .fc _ _,_=>False
def YeT (tt:Nat->Option TI):Prop:= ∀t i e,tt t=some i->i.ty= .slice e-> ∃ei,tt i.elem=some ei/\ei.ty=e
theorem Ydr {α β:Type} {g:α->Option β}: ∀ {l:List α} {r:List β},l.mapM g=some r->r.length=l.length/\ ∀(i:Nat) a,l[i]? =some a-> ∃b,r[i]? =some b/\g a=some b
 | [],r,h=>by simp at h;subst h;exact⟨rfl,λi a h=>by simp at h⟩
 |a::l,r,h=>by
  rw[List.mapM_cons]at h
  cases ha:g a with
  |none=>rw[ha]at h;cases h
  |some b=>
   rw[ha]at h
   cases hl:l.mapM g with
   |none=>rw[hl]at h;cases h
   |some r'=>
    rw[hl]at h
    cases h
    obtain⟨h1,h2⟩:=Ydr hl
    refine⟨by simp[h1],λi x hx=>?_⟩
    cases i with
    |zero=>simp at hx;subst hx;exact⟨b,rfl,ha⟩
    |succ i=>exact h2 i x (by simpa using hx)
theorem Ycs {α:Type} {p:Nat->α->Prop}: ∀(n:Nat),(∀i,i<n-> ∃x,p i x)-> ∃xs:List α,xs.length=n/\ ∀(i:Nat) x,xs[i]? =some x->p i x
 |0,_=>⟨[],rfl,λi x h=>by simp at h⟩
 |n+1,h=>by
  obtain⟨xs,h1,h2⟩:=Ycs n λi hi=>h i (by omega)
  obtain⟨x,hx⟩:=h n (by omega)
  refine⟨xs++ [x],by simp[h1],λi y hy=>?_⟩
  rw[List.getElem?_append]at hy
  split at hy
  ·exact h2 i y hy
  ·have:i-xs.length=0:=by
    rcases Nat.eq_zero_or_pos (i-xs.length)with h|h
    ·exact h
    ·rw[List.getElem?_eq_none (by simp;omega)]at hy;cases hy
   rw[this]at hy
   simp at hy;subst hy
   have:i=n:=by omega
   subst this;exact hx
section
variable {P:Program} {w w':World} {cx:Cx} {H:Type} {enc:TypeId×Value->H}
def YdG (w:World):Fp:=λn=>n<w.heap.size
theorem Ybe {base:Nat} {a:Addr} {n:Nat} {cs:List Value} (h:w.cells? base a n=some cs):cs.length=n/\(0<n->a.spot=none/\YdG w a.block)/\(a.spot=none->Lies w a.block a.off cs):=by
 unfold World.cells? at h
 split at h
 rotate_left
 ·cases h
 obtain⟨h1,h2⟩:=Ydr h
 rw[List.length_range]at h1
 have hat: ∀j,j<n-> ∃v,cs[j]? =some v/\w.cell? (a.add j)=some v:=λj hj=>h2 j j (by simp[hj])
 refine⟨h1,λhn=>?_,λhsp j v hv=>?_⟩
 ·obtain⟨v,_,hv⟩:=hat 0 hn
  simp only[Addr.add,if_true]at hv
  unfold World.cell? at hv
  split at hv
  ·rename_i c t z hb
   constructor
   ·cases hs:a.spot with
    |none=>rfl
    |some s=>rw[hs]at hv;simp at hv
   ·show a.block<w.heap.size
    rcases Nat.lt_or_ge a.block w.heap.size with hlt|hge
    ·exact hlt
    ·rw[Array.getElem?_eq_none hge]at hb;cases hb
  ·cases hv
 ·have hj:j<n:=by rw[←h1];exact(List.getElem?_eq_some_iff.1 hv).1
  obtain⟨v',hv',hc⟩:=hat j hj
  rw[hv]at hv';cases hv'
  rw[←hc]
  unfold Addr.add
  split
  ·rename_i h0;subst h0;obtain⟨b,o,sp⟩:=a;simp only at hsp;subst hsp;rfl
  ·rfl
theorem YcH {tt:Nat->Option TI} {F:Fp}: ∀(l:List Nat) (cs:List Value) (ty:Ty),Ys tt l=some ty->cs.length=ty.cells->
  (∀(k f:Nat) fi off,l[k]? =some f->tt f=some fi->fieldOff tt l k=some off-> ∃x,Rep w F fi.ty 0 ((cs.drop off).take fi.ty.cells) x Fp.none/\wfT fi.ty x)-> ∃x,Rep w F ty 0 cs x Fp.none/\wfT ty x
 | [],cs,ty,h,hl,hf=>by simp[Ys]at h
 | [f],cs,ty,h,hl,hf=>by
  simp only[Ys]at h
  cases hfi:tt f with
  |none=>rw[hfi]at h;cases h
  |some fi=>
   rw[hfi]at h
   simp at h
   subst h
   obtain⟨x,h1,h2⟩:=hf 0 f fi 0 rfl hfi rfl
   rw[List.drop_zero,List.take_of_length_le (by omega)]at h1
   exact⟨x,h1,h2⟩
 |f::g::r,cs,ty,h,hl,hf=>by
  simp only[Ys]at h
  split at h
  rotate_left
  ·cases h
  rename_i fi t hfi ht
  simp at h
  subst h
  obtain⟨x,h1,h2⟩:=hf 0 f fi 0 rfl hfi rfl
  rw[List.drop_zero]at h1
  have hl':cs.length=fi.ty.cells+t.cells:=hl
  obtain⟨y,h3,h4⟩:=YcH (g::r) (cs.drop fi.ty.cells) t ht (by simp;omega) λk f' fi' off hk hfi' hoff=>by
   obtain⟨z,h3,h4⟩:=hf (k+1) f' fi' (fi.ty.cells+off) hk hfi' (by simp only[fieldOff,hfi,hoff])
   exact⟨z,by rw[List.drop_drop];exact h3,h4⟩
  exact⟨(x,y),⟨_,_,Fp.none,Fp.none,(List.take_append_drop _ _).symm,λ_=>by simp[Fp.none],λ_ h=>h.elim,h1,h3⟩,h2,h4⟩
theorem YaE {tt:Nat->Option TI} {f c:Nat} {fi:TI} (hfi:tt f=some fi) (hc:fi.ty.cells=c): ∀(l:List Nat) (k:Nat),(∀x∈l,x=f)->k<l.length->fieldOff tt l k=some (k*c)
 | [],k,_,hk=>by simp at hk
 |x::l,0,_,_=>by simp[fieldOff]
 |x::l,k+1,h,hk=>by
  have hx:=h x (by simp)
  subst hx
  simp only[fieldOff,hfi,YaE hfi hc l k (λy hy=>h y (List.mem_cons_of_mem _ hy)) (by simpa using hk),hc]
  rw[Nat.add_mul,Nat.add_comm];simp
theorem Yan {t:TypeId} {i:TI} (h:TyOk P cx.tt t i):P.cellsOf t=i.ty.cells:=by
 obtain⟨ti,h1,h2,_⟩:=h.info
 unfold Program.cellsOf
 rw[h1];simpa using h2
theorem YcG {tt:Nat->Option TI}: ∀(fs:List Nat) {T:Ty},Ys tt fs=some T-> ∀(k f:Nat) {fi:TI},fs[k]? =some f->tt f=some fi->fi.ty.dep<=T.dep
 | [],_,h,_,_,_,_,_=>by simp[Ys]at h
 | [f],T,h,k,g,fi,hk,hf=>by
  cases k with
  |zero=>
   simp at hk;subst hk
   simp only[Ys,hf,Option.some.injEq]at h
   have:fi.ty=T:=by simpa using h
   rw[this];exact Nat.le_refl _
  |succ k=>simp at hk
 |f::g::r,T,h,k,f',fi,hk,hf=>by
  simp only[Ys]at h
  split at h
  rotate_left
  ·cases h
  rename_i j u hj hu
  cases h
  cases k with
  |zero=>
   simp at hk;subst hk
   rw[hj]at hf;cases hf
   simp only[Ty.dep];exact Nat.le_max_left _ _
  |succ k=>
   have:=YcG (g::r) hu k f' (by simpa using hk) hf
   simp only[Ty.dep];exact Nat.le_trans this (Nat.le_max_right _ _)
theorem YeQ (hT:Xd P cx) (hcl:YeT cx.tt) {base:Nat} {held:Bool}: ∀(fuel:Nat) (t:TypeId) (i:TI) (cs:List Value) (d:DataW H) (ps:List MemPlace),cx.tt t=some i->i.ty.dep<1000->
  DataW.trod enc P w base (λ_=>true) held fuel t cs=some (d,ps)-> ∃x,Rep w (YdG w) i.ty 0 cs x Fp.none/\wfT i.ty x
 |0,t,i,cs,d,ps,hi,hm,h=>by simp[DataW.trod]at h
 |fuel+1,t,i,cs,d,ps,hi,hm,h=>by
  have hty:=hT t i hi
  have ih:=λt i cs d ps=>YeQ hT hcl (base:=base) (held:=held) fuel t i cs d ps
  have hcells:=Yan hty
  have hpos:=Y9
  generalize hty':i.ty=T at hcells⊢
  cases T with
  |num k=>
   obtain⟨n,rfl,_,hw⟩:=DataW.trod_int (hty.num k hty') h
   simp only[Lit.wf,Bool.and_eq_true,decide_eq_true_eq]at hw
   exact⟨n,⟨rfl,λ_ h=>h⟩,hw⟩
  |bool=>
   obtain⟨b,rfl,_⟩:=DataW.trod_bool (hty.bool hty') h
   exact⟨b,⟨rfl,λ_ h=>h⟩,trivial⟩
  |fn f=>exact absurd hty' (hty.nofn f)
  |smap kd=>rw[hty']at hm;simp[Ty.dep]at hm
  |op k=>rw[hty']at hm;simp[Ty.dep]at hm
  |ptr s=>rw[hty']at hm;simp[Ty.dep]at hm
  |fc _ s=>rw[hty']at hm;simp[Ty.dep]at hm
  |str=>
   obtain⟨s,rfl,_,hs⟩:=DataW.trod_string (hty.str hty') h
   exact⟨s,⟨rfl,λ_ h=>h⟩,hs⟩
  |slice e=>
   obtain⟨hu,_⟩:=hty.slice e hty'
   obtain⟨ei,hei,hee⟩:=hcl t i e hi hty'
   have hce:=Yan (hT _ _ hei)
   rw[hee]at hce
   rcases DataW.trod_slice hu h with ⟨rfl,_⟩|⟨a,len,cap,elems,rest,n,hn,rfl,_,hb,hlc,hcm,hel,hget,hrest,_⟩
   ·exact⟨[],⟨λ_ h=>h,.inl ⟨⟨_,rfl⟩,rfl⟩⟩,Nat.zero_le _,λx hx=>by cases hx⟩
   ·simp only[Nat.add_right_cancel_iff]at hn
    subst hn
    have hat: ∀i,i<len-> ∃ci,w.cells? base (a.add (i*e.cells)) e.cells=some ci/\ ∃x,Rep w (YdG w) e 0 ci x Fp.none/\wfT e x:=λi hi'=>by
     have hg:=hget i hi'
     rw[hce,List.getElem?_eq_getElem (by omega)]at hg
     cases hc:w.cells? base (a.add (i*e.cells)) e.cells with
     |none=>rw[hc]at hg;cases hg
     |some ci=>
      rw[hc]at hg
      simp only[Option.bind_some]at hg
      have:=ih _ ei ci _ _ hei (by rw[hee];rw[hty']at hm;simp only[Ty.dep]at hm;omega) hg
      rw[hee]at this
      exact⟨ci,rfl,this⟩
    by_cases hcap:cap=0
    ·subst hcap
     have hl0:len=0:=by omega
     subst hl0
     exact⟨[],⟨λ_ h=>h,.inl ⟨⟨_,rfl⟩,rfl⟩⟩,Nat.zero_le _,λx hx=>by cases hx⟩
    ·have hspot:a.spot=none/\YdG w a.block:=by
      by_cases hl:len=0
      ·subst hl
       obtain⟨hr1,hr2⟩:=hrest rfl
       have hg:=hr2 0 (by omega)
       rw[hce,List.getElem?_eq_getElem (by omega)]at hg
       cases hc:w.cells? base (a.add ((0+0)*e.cells)) e.cells with
       |none=>rw[hc]at hg;cases hg
       |some ci=>
        have:=(Ybe hc).2.1 (hpos e)
        simpa[Addr.add]using this
      ·obtain⟨ci,hc,_⟩:=hat 0 (by omega)
       have:=(Ybe hc).2.1 (hpos e)
       simpa[Addr.add]using this
     obtain⟨b,off,spot⟩:=a
     obtain⟨hs1,hs2⟩:=hspot
     simp only at hs1 hs2
     subst hs1
     obtain⟨xs,hx1,hx2⟩:=Ycs (p:=λi (x:e.den)=> ∃ci,Lies w b (off+i*e.cells) ci/\Rep w (YdG w) e 0 ci x Fp.none/\wfT e x) len λi hi'=>by
      obtain⟨ci,hc,x,h1,h2⟩:=hat i hi'
      refine⟨x,ci,?_,h1,h2⟩
      have:=(Ybe hc).2.2 (by unfold Addr.add;split<;>rfl)
      have e1:((⟨b,off,none⟩:Addr).add (i*e.cells)).block=b:=by unfold Addr.add;split<;>rfl
      have e2:((⟨b,off,none⟩:Addr).add (i*e.cells)).off=off+i*e.cells:=by
       unfold Addr.add
       split
       ·rename_i h0;show off=_;omega
       ·rfl
      rw[e1,e2]at this;exact this
     refine⟨xs,⟨λ_ h=>h,.inr ⟨b,off,len,cap,rfl,hx1,hlc,λ_=>hs2,λi x hix=>?_⟩⟩,?_,λx hx=>?_⟩
     ·obtain⟨ci,h1,h2,_⟩:=hx2 i x hix;exact⟨ci,h1,h2⟩
     ·show List.length xs<=maxLen
      rw[hx1];omega
     ·obtain⟨i,hix⟩:=List.getElem?_of_mem hx
      obtain⟨ci,_,_,h3⟩:=hx2 i x hix;exact h3
  |pair p q=>
   obtain⟨hnest,hk⟩:=hty.pair p q hty'
   rw[hty']at hnest
   rcases hk with ⟨fs,_,hu,hsz,hfs⟩|⟨f,_,hu,hall⟩
   ·obtain⟨xs,n,hn,_,hlen,hxl,hget⟩:=DataW.trod_struct hu h
    simp only[Nat.add_right_cancel_iff]at hn
    subst hn
    refine YcH i.fields cs _ hnest (hlen.trans hcells) λk f fi off hkf hfi hoff=>?_
    obtain⟨fl,h1,h2,h3⟩:=hfs k f hkf
    have hg:=hget k fl h1
    have hklt:k<xs.length:=by rw[hxl];exact(Array.getElem?_eq_some_iff.1 h1).1
    rw[List.getElem?_eq_getElem hklt,h2,Yan (hT f fi hfi)]at hg
    rw[hoff]at h3
    injection h3 with h3
    rw[h3]
    exact ih f fi _ _ _ hfi (by have:=YcG _ hnest k f hkf hfi;rw[hty']at hm;omega) hg
   ·obtain⟨xs,n,hn,_,hlen,hxl,hget⟩:=DataW.trod_array hu h
    simp only[Nat.add_right_cancel_iff]at hn
    subst hn
    refine YcH i.fields cs _ hnest (hlen.trans hcells) λk g fi off hkf hfi hoff=>?_
    have hkl:=(List.getElem?_eq_some_iff.1 hkf).1
    have hgf:=hall k g hkf
    subst hgf
    have hg:=hget k hkl
    rw[List.getElem?_eq_getElem (by omega),Yan (hT g fi hfi)]at hg
    have hoff':=YaE hfi rfl i.fields k (λx hx=>by obtain⟨j,hj⟩:=List.getElem?_of_mem hx;exact hall j x hj) hkl
    rw[hoff]at hoff'
    injection hoff' with e
    subst e
    exact ih g fi _ _ _ hfi (by have:=YcG _ hnest k g hkf hfi;rw[hty']at hm;omega) hg
theorem Yi6 (hT:Xd P cx) (hcl:YeT cx.tt) {t:TypeId} {i:TI} {r:Reach} {base:Nat} {v:Value} {d:DataW H} {ps:List MemPlace} (hi:cx.tt t=some i) (hm:i.ty.dep<1000) (hv:Value.okWide P w r base t v)
  (h:DataW.Trod enc P w 0 (λ_=>true) true t v d ps): ∃x:i.ty.den,DV w (YdG w) (.v i.ty) v x Fp.none/\wfT i.ty x:=by
 obtain⟨fuel,h⟩:=h
 obtain⟨x,h1,h2⟩:=YeQ hT hcl fuel t i _ d ps hi hm h
 refine⟨x,⟨v.cells.toList,h1,?_⟩,h2⟩
 have hty:=hT t i hi
 have hone: ∀u:Value,(∀cs,u≠ .agg cs)->u.cells.toList= [u]:=λu hu=>by
  cases u<;>first|rfl|exact absurd rfl (hu _)
 unfold X7
 dsimp only
 unfold Value.okWide at hv
 cases hT':i.ty with
 |num k=>
  rw[hty.num k hT']at hv
  simp only[Ybv,Bool.false_eq_true,if_false]
  exact hone v λcs e=>by subst e;simp[Cell.okWide,Cell.ok,hty.num k hT']at hv
 |bool=>
  rw[hty.bool hT']at hv
  simp only[Ybv,Bool.false_eq_true,if_false]
  exact hone v λcs e=>by subst e;simp[Cell.okWide,Cell.ok,hty.bool hT']at hv
 |fn f=>exact absurd hT' (hty.nofn f)
 |smap kd=>rw[hT']at hm;simp[Ty.dep]at hm
 |op k=>rw[hT']at hm;simp[Ty.dep]at hm
 |ptr s=>rw[hT']at hm;simp[Ty.dep]at hm
 |fc _ s=>rw[hT']at hm;simp[Ty.dep]at hm
 |str=>
  rw[hty.str hT']at hv
  simp only[Ybv,Bool.false_eq_true,if_false]
  exact hone v λcs e=>by subst e;simp[Cell.okWide,Cell.ok,hty.str hT']at hv
 |slice e=>
  rw[(hty.slice e hT').1]at hv
  simp only[Ybv,Bool.false_eq_true,if_false]
  exact hone v λcs e'=>by subst e';simp[Cell.okWide,Cell.ok,(hty.slice e hT').1]at hv
 |pair p q=>
  simp only[Ybv,if_true]
  obtain⟨_,hk⟩:=hty.pair p q hT'
  rcases hk with ⟨fs,_,hu,_⟩|⟨f,_,hu,_⟩
  ·rw[hu]at hv
   obtain⟨cs,rfl,_⟩:=hv
   simp[Value.cells]
  ·rw[hu]at hv
   obtain⟨cs,rfl,_⟩:=hv
   simp[Value.cells]
theorem Ygt {f:FuncId} {en:Entry} {b:en.B} {args vs:List Value} {F' fR fO:Fp} (h:Ret w (YdG w) en b args Fp.none vs w' F' fR fO):Below w.heap.size w w':=by
 have h2:=h.rest.2
 simp only[Prod.mk.injEq]at h2
 exact⟨h.rest.1,h2.1,h2.2,h.big,λk hk=>h.same k hk λh=>h⟩
theorem YiP {F:Fp} {a:AD} {v:Value} {x:a.den} (h:DV w F a v x Fp.none):ArgsR w F [a] [v] x Fp.none:=⟨v,rfl,h⟩
theorem YiK {F:Fp} {a b:AD} {l:List AD} {v:Value} {vs:List Value} {x:a.den} {y:YH (b::l)} (h:DV w F a v x Fp.none) (h2:ArgsR w F (b::l) vs y Fp.none):ArgsR w F (a::b::l) (v::vs) (x,y) Fp.none:=
 ⟨v,vs,Fp.none,Fp.none,rfl,λ_=>by simp[Fp.none],λ_ h=>h.elim,h,h2⟩
theorem YiM {f:FuncId} {en:Entry} {args:Array Value} {x:YH en.params} {b:en.B} (hH:Holds P f en) (hA:ArgsR w (YdG w) en.params args.toList x Fp.none) (hb:en.run x=some b)
  (hres: ∀(vs:List Value) (F' fR:Fp) (w':World),ArgsR w' F' en.results vs (en.res b) fR->vs= [.bool true]) (hc:en.cod= []:=by rfl):Calls P f args w λe w'=>e= .returned (.bool true)/\Below w.heap.size w w':=
 (hH x b hb w (YdG w) args args.toList Fp.none (by rw[hc];exact DressA.nil) hA (λ_ h=>h.elim) (λ_ h=>h)).mono λe w' ⟨vs,F',fR,fO,he,hr⟩=>by
  have:=hres vs F' fR w' hr.res
  subst this
  exact⟨he,Ygt (f:=f) hr⟩
theorem Yi1 {F' fR:Fp} {vs:List Value} (h:ArgsR w F' [.v .bool] vs (true:Bool) fR):vs= [.bool true]:=by
 obtain⟨v,rfl,cs,hr,hs⟩:=h
 obtain⟨rfl,_⟩:cs= [.bool true]/\_:=hr
 have: [Value.bool true]= [v]:=hs
 rw[this]
end
end Go.Va
namespace Go.Va
def YaU:List (Nat×TI)->Nat->Option TI
 | [],_=>none
 |(j,e)::l,i=>if j==i then some e else YaU l i
def YaM:Ty->Value->Bool
 | .num k,v=>(match v with| .int k' n=>decide (k=k')&&n==0|_=>false)
 | .bool,v=>(match v with| .bool b=>!b|_=>false)
 | .str,v=>(match v with| .string s=>s.data.toList.isEmpty|_=>false)
 | .slice _,v=>(match v with| .slice a l c=>a.isNone&&l==0&&c==0|_=>false)
 | .fn _,_=>false
 | .smap _,v=>(match v with| .map r=>r.isNone|_=>false)
 | .op false,v=>(match v with| .nilFunc=>true|_=>false)
 | .op true,v=>(match v with| .pointer a=>a.isNone|_=>false)
 | .ptr _,_=>false
 | .fc _ _,_=>false
 | .pair _ _,_=>false
def YP:Ty->List Value->Option (List Value)
 | .pair a b,l=>match YP a l with|some r=>YP b r|none=>none
 |t,v::r=>if YaM t v then some r else none
 |_,[]=>none
def YaB (t:Ty) (v:Option Value):Bool:=match t with
 | .pair a b=>(match v with|some (.agg cs)=>(match YP (.pair a b) cs.toList with|some []=>true|_=>false)|_=>false)
 |t=>(match v with|some v=>YaM t v|none=>false)
def YfE (P:Program) (t:Nat) (ty:Ty):Bool:=match P.info? t with
 |some ti=>ti.size==ty.cells&&YaB ty ti.zero&&decide (ti.bytes<=128)
 |none=>false
def YdO (P:Program) (t:Nat):Bool:=match P.underlying t with
 |some .string=>true
 |_=>false
def Yd4 (v:Option Value):Bool:=match v with
 |some (.bool b)=>!b
 |_=>false
def YgN (P:Program) (i:TI) (k:MK) (kt:Nat) (ei:TypeInfo):Bool:=match k with
 | .sb=>YdO P kt&&Yd4 ei.zero
 | .si=>YdO P kt&&ei.zero.isSome
 | .ab _=>kt==i.elem&&Yd4 ei.zero
theorem Ydp {P:Program} {t:Nat} (h:YdO P t=true):P.underlying t=some .string:=by
 unfold YdO at h
 split at h
 ·assumption
 ·cases h
theorem YdD {v:Option Value} (h:Yd4 v=true):v=some (.bool false):=by
 unfold Yd4 at h
 split at h
 ·rename_i b
  have:b=false:=by simpa using h
  rw[this]
 ·cases h
theorem YhF {P:Program} {i:TI} {k:MK} {kt:Nat} {ei:TypeInfo} (h:YgN P i k kt ei=true):MTy P i k kt ei:=by
 cases k with
 |sb=>
  simp only[YgN,Bool.and_eq_true]at h
  exact⟨Ydp h.1,YdD h.2⟩
 |si=>
  simp only[YgN,Bool.and_eq_true]at h
  exact⟨Ydp h.1,Option.isSome_iff_exists.1 h.2⟩
 |ab n=>
  simp only[YgN,Bool.and_eq_true,beq_iff_eq]at h
  exact⟨h.1,YdD h.2⟩
def Yhk (P:Program) (tt:Nat->Option TI) (t:Nat) (i:TI):Bool:=
  YfE P t i.ty&&(i.fields.isEmpty||Yr i.ty)&&
  (match i.ty with
   | .num k=>(match P.underlying t with|some (.int k')=>decide (k=k')|_=>false)
   | .bool=>(match P.underlying t with|some .bool=>true|_=>false)
   | .str=>(match P.underlying t with|some .string=>true|_=>false)
   | .slice e=>(match P.underlying t with|some (.slice el)=>el==i.elem&&YfE P el e&&(match tt i.elem with|some q=>decide (q.ty=e)|none=>false)|_=>false)
   | .fn _=>false
   | .ptr _=>false
   | .fc _ _=>false
   | .op _=>(match P.underlying t with|some (.pointer _)=>true|some (.func _ _ _)=>true|_=>false)
   | .smap k=>(match P.underlying t with
     |some (.map kt et)=>(match P.info? et with|some ei=>YgN P i k kt ei|none=>false)
     |_=>false)
   | .pair _ _=>decide (Ys tt i.fields=some i.ty)&&(match P.underlying t with
     |some (.struct fs)=>!i.arr&&fs.size==i.fields.length&&
        (List.range i.fields.length).all λk=>match i.fields[k]?,fs[k]? with|some f,some fl=>fl.type==f&&decide (fieldOff tt i.fields k=some fl.offset)|_,_=>false
     |some (.array n f)=>i.arr&&n==i.fields.length&&i.fields.all (· ==f)
     |_=>false))
def Yif (P:Program) (l:List (Nat×TI)):Bool:=l.all λq=>Yhk P (YaU l) q.1 q.2
theorem Y3: ∀ {t:Ty} {v:Value},YaM t v=true->v=YV t/\ [v]=YR t
 | .num k,v,h=>by
  cases v<;>simp[YaM]at h
  obtain⟨rfl,rfl⟩:=h;exact⟨rfl,rfl⟩
 | .bool,v,h=>by
  cases v<;>simp[YaM]at h
  subst h;exact⟨rfl,rfl⟩
 | .str,v,h=>by
  cases v with
  |string s=>
   have h:s.data.toList.isEmpty=true:=h
   have:s=ByteArray.empty:=by
    obtain⟨d⟩:=s
    have:d= #[]:=by simpa using h
    subst this;rfl
   subst this;exact⟨rfl,rfl⟩
  |_=>simp[YaM]at h
 | .slice e,v,h=>by
  cases v<;>simp[YaM]at h
  obtain⟨⟨rfl,rfl⟩,rfl⟩:=h;exact⟨rfl,rfl⟩
 | .fn f,v,h=>by simp[YaM]at h
 | .smap _,v,h=>by
  cases v<;>simp[YaM]at h
  subst h;exact⟨rfl,rfl⟩
 | .op false,v,h=>by
  cases v<;>simp[YaM]at h
  exact⟨rfl,rfl⟩
 | .op true,v,h=>by
  cases v<;>simp[YaM]at h
  subst h;exact⟨rfl,rfl⟩
 | .ptr _,v,h=>by simp[YaM]at h
 | .fc _ _,v,h=>by simp[YaM]at h
 | .pair a b,v,h=>by cases v<;>simp[YaM]at h
theorem YbW: ∀ {t:Ty} {l r:List Value},YP t l=some r->l=YR t++r
 | .pair a b,l,r,h=>by
  simp only[YP]at h
  split at h
  ·rename_i q hq
   rw[YbW hq,YbW h,YR,List.append_assoc]
  ·cases h
 | .num k,l,r,h=>by
  cases l with
  |nil=>simp[YP]at h
  |cons v l=>simp only[YP]at h;split at h<;>cases h;rename_i hz;rw[←(Y3 hz).2];rfl
 | .bool,l,r,h=>by
  cases l with
  |nil=>simp[YP]at h
  |cons v l=>simp only[YP]at h;split at h<;>cases h;rename_i hz;rw[←(Y3 hz).2];rfl
 | .str,l,r,h=>by
  cases l with
  |nil=>simp[YP]at h
  |cons v l=>simp only[YP]at h;split at h<;>cases h;rename_i hz;rw[←(Y3 hz).2];rfl
 | .fn f,l,r,h=>by
  cases l with
  |nil=>simp[YP]at h
  |cons v l=>simp only[YP]at h;split at h<;>cases h;rename_i hz;rw[←(Y3 hz).2];rfl
 | .smap _,l,r,h=>by
  cases l with
  |nil=>simp[YP]at h
  |cons v l=>simp only[YP]at h;split at h<;>cases h;rename_i hz;rw[←(Y3 hz).2];rfl
 | .slice e,l,r,h=>by
  cases l with
  |nil=>simp[YP]at h
  |cons v l=>simp only[YP]at h;split at h<;>cases h;rename_i hz;rw[←(Y3 hz).2];rfl
 | .op k,l,r,h=>by
  cases l with
  |nil=>simp[YP]at h
  |cons v l=>simp only[YP]at h;split at h<;>cases h;rename_i hz;rw[←(Y3 hz).2];rfl
 | .ptr e,l,r,h=>by
  cases l with
  |nil=>simp[YP]at h
  |cons v l=>simp only[YP]at h;split at h<;>cases h;rename_i hz;rw[←(Y3 hz).2];rfl
 | .fc _ e,l,r,h=>by
  cases l with
  |nil=>simp[YP]at h
  |cons v l=>simp only[YP]at h;split at h<;>cases h;rename_i hz;rw[←(Y3 hz).2];rfl
theorem Yho: ∀ {t:Ty} {v:Option Value},YaB t v=true->v=some (YV t)
 | .pair a b,v,h=>by
  simp only[YaB]at h
  split at h
  ·rename_i cs
   split at h
   ·rename_i hz
    have:=YbW hz
    rw[List.append_nil]at this
    have e2:cs=(YR (.pair a b)).toArray:=by rw[←this]
    subst e2;rfl
   ·cases h
  ·cases h
 | .num k,v,h=>by cases v with|none=>simp[YaB]at h|some v=>rw[(Y3 (t:= .num k) h).1]
 | .bool,v,h=>by cases v with|none=>simp[YaB]at h|some v=>rw[(Y3 (t:= .bool) h).1]
 | .str,v,h=>by cases v with|none=>simp[YaB]at h|some v=>rw[(Y3 (t:= .str) h).1]
 | .fn f,v,h=>by cases v<;>simp[YaB,YaM]at h
 | .smap _,v,h=>by cases v with|none=>simp[YaB]at h|some v=>rw[(Y3 (t:= .smap _) h).1]
 | .slice e,v,h=>by cases v with|none=>simp[YaB]at h|some v=>rw[(Y3 (t:= .slice e) h).1]
 | .op k,v,h=>by cases v with|none=>simp[YaB]at h|some v=>rw[(Y3 (t:= .op k) h).1]
 | .ptr e,v,h=>by cases v<;>simp[YaB,YaM]at h
 | .fc _ e,v,h=>by cases v<;>simp[YaB,YaM]at h
theorem Yei {P:Program} {t:Nat} {ty:Ty} (h:YfE P t ty=true): ∃ti,P.info? t=some ti/\ti.size=ty.cells/\ti.zero=some (YV ty)/\ti.bytes<=128:=by
 unfold YfE at h
 split at h
 ·rename_i ti hti
  simp only[Bool.and_eq_true,beq_iff_eq,decide_eq_true_eq]at h
  exact⟨ti,hti,h.1.1,Yho h.1.2,h.2⟩
 ·cases h
theorem Yhl {P:Program} {tt:Nat->Option TI} {t:Nat} {i:TI} (h:Yhk P tt t i=true):TyOk P tt t i/\(∀e,i.ty= .slice e-> ∃ei,tt i.elem=some ei/\ei.ty=e):=by
 unfold Yhk at h
 simp only[Bool.and_eq_true,Bool.or_eq_true]at h
 obtain⟨⟨h1,h2⟩,h3⟩:=h
 have hi:=Yei h1
 obtain⟨ity,ielem,ifields,iarr⟩:=i
 have hf:ifields≠ []-> ∃a b,ity= .pair a b:=λhne=>by
  have:=h2.resolve_left (by simpa using hne)
  cases ity<;>simp[Yr]at this
  exact⟨_,_,rfl⟩
 cases ity with
 |num k=>
  dsimp only at h3
  split at h3
  rotate_left
  ·cases h3
  rename_i k' e
  have:=of_decide_eq_true h3
  subst this
  exact⟨⟨hi,λk' e'=>by cases e';exact e,λe=>(by cases e),λe=>(by cases e),λe h=>(by cases h),λa b e=>(by cases e),hf,λ_ e=>(by cases e),λf e=>(by cases e),λk e=>(by cases e),λs e=>(by cases e),λ_ s e=>(by cases e)⟩,λe h=>(by cases h)⟩
 |bool=>
  dsimp only at h3
  split at h3
  rotate_left
  ·cases h3
  rename_i e
  exact⟨⟨hi,λk' e'=>(by cases e'),λ_=>e,λe=>(by cases e),λe h=>(by cases h),λa b e=>(by cases e),hf,λ_ e=>(by cases e),λf e=>(by cases e),λk e=>(by cases e),λs e=>(by cases e),λ_ s e=>(by cases e)⟩,λe h=>(by cases h)⟩
 |str=>
  dsimp only at h3
  split at h3
  rotate_left
  ·cases h3
  rename_i e
  exact⟨⟨hi,λk' e'=>(by cases e'),λe=>(by cases e),λ_=>e,λe h=>(by cases h),λa b e=>(by cases e),hf,λ_ e=>(by cases e),λf e=>(by cases e),λk e=>(by cases e),λs e=>(by cases e),λ_ s e=>(by cases e)⟩,λe h=>(by cases h)⟩
 |slice e=>
  dsimp only at h3
  split at h3
  rotate_left
  ·cases h3
  rename_i el hu
  simp only[Bool.and_eq_true,beq_iff_eq]at h3
  obtain⟨⟨g1,g2⟩,g3⟩:=h3
  subst g1
  refine⟨⟨hi,λk' e'=>(by cases e'),λe=>(by cases e),λe=>(by cases e),λe' h=>by cases h;exact⟨hu,Yei g2⟩,λa b e=>(by cases e),hf,λ_ e=>(by cases e),λf e=>(by cases e),λk e=>(by cases e),λs e=>(by cases e),λ_ s e=>(by cases e)⟩,λe' h=>?_⟩
  cases h
  split at g3
  ·rename_i q hq;exact⟨q,hq,of_decide_eq_true g3⟩
  ·cases g3
 |fn f=>simp at h3
 |ptr s=>simp at h3
 |fc _ s=>simp at h3
 |op k=>
  dsimp only at h3
  refine⟨⟨hi,λk' e'=>(by cases e'),λe=>(by cases e),λe=>(by cases e),λe h=>(by cases h),λa b e=>(by cases e),hf,λ_ e=>(by cases e),λf e=>(by cases e),λk e=>?_,λs e=>(by cases e),λ_ s e=>(by cases e)⟩,λe h=>(by cases h)⟩
  split at h3
  ·rename_i el hu;exact .inl ⟨el,hu⟩
  ·rename_i ps rs v hu;exact .inr ⟨ps,rs,v,hu⟩
  ·cases h3
 |smap kd=>
  dsimp only at h3
  split at h3
  rotate_left
  ·cases h3
  rename_i kt et hu
  split at h3
  rotate_left
  ·cases h3
  rename_i ei he
  exact⟨⟨hi,λk' e'=>(by cases e'),λe=>(by cases e),λe=>(by cases e),λe h=>(by cases h),λa b e=>(by cases e),hf,λk' hk'=>(by cases hk';exact⟨kt,et,ei,hu,he,YhF h3⟩),λf e=>(by cases e),λk e=>(by cases e),λs e=>(by cases e),λ_ s e=>(by cases e)⟩,λe h=>(by cases h)⟩
 |pair a b=>
  dsimp only at h3
  rw[Bool.and_eq_true]at h3
  obtain⟨g0,h3⟩:=h3
  refine⟨⟨hi,λk' e'=>(by cases e'),λe=>(by cases e),λe=>(by cases e),λe h=>(by cases h),λa' b' e=>⟨of_decide_eq_true g0,?_⟩,hf,λ_ e=>(by cases e),λf e=>(by cases e),λk e=>(by cases e),λs e=>(by cases e),λ_ s e=>(by cases e)⟩,λe h=>(by cases h)⟩
  split at h3
  ·rename_i fs hu
   simp only[Bool.and_eq_true,Bool.not_eq_true',beq_iff_eq,List.all_eq_true]at h3
   obtain⟨⟨k1,k2⟩,k3⟩:=h3
   refine .inl ⟨fs,k1,hu,k2,λk f hkf=>?_⟩
   have:=k3 k (by simpa using (List.getElem?_eq_some_iff.1 hkf).1)
   dsimp only at hkf
   rw[hkf]at this
   split at this
   ·rename_i f' fl e1 e2
    cases e1
    simp only[Bool.and_eq_true,beq_iff_eq,decide_eq_true_eq]at this
    exact⟨fl,e2,this.1,this.2⟩
   ·cases this
  ·rename_i n f hu
   simp only[Bool.and_eq_true,beq_iff_eq,List.all_eq_true]at h3
   obtain⟨⟨k1,k2⟩,k3⟩:=h3
   subst k2
   exact .inr ⟨f,k1,hu,λk g hkg=>k3 g (List.mem_of_getElem? hkg)⟩
  ·cases h3
theorem Ydz: ∀ {l:List (Nat×TI)} {t:Nat} {i:TI},YaU l t=some i->(t,i)∈l
 | [],t,i,h=>by simp[YaU]at h
 |(j,e)::l,t,i,h=>by
  simp only[YaU]at h
  split at h
  ·rename_i hj;cases h;rw[beq_iff_eq]at hj;subst hj;simp
  ·exact List.mem_cons_of_mem _ (Ydz h)
theorem Yhe {P:Program} {l:List (Nat×TI)} (h:Yif P l=true) {cx:Cx} (hc:cx.tt=YaU l):Xd P cx/\YeT cx.tt:=by
 have key: ∀t i,YaU l t=some i->TyOk P (YaU l) t i/\(∀e,i.ty= .slice e-> ∃ei,YaU l i.elem=some ei/\ei.ty=e):=λt i hi=>Yhl ((List.all_eq_true.1 h) _ (Ydz hi))
 refine⟨λt i hi=>?_,λt i e hi he=>?_⟩
 ·rw[hc]at hi⊢;exact(key t i hi).1
 ·rw[hc]at hi⊢;exact(key t i hi).2 e he
def Yik (P:Program):List (Nat×Entry)->Prop
 | []=>True
 | (f, en) :: l => (Holds P (f % 65536) en ∧ ∃ fn c, P.funcs[f % 65536]? = some fn ∧ (fn.name == "runtime.NumGoroutine") = false ∧ fn.body = some c) ∧ Yik P l
theorem Yfz {P:Program}: ∀ {l:List (Nat×Entry)},Yik P l->TOk P (Ygp l)
 | [],_,f,en,h=>by simp[Ygp]at h
 |(j,e)::l,⟨h1,h2⟩,f,en,h=>by
  simp only[Ygp]at h
  split at h
  ·rename_i hj;cases h;rw[beq_iff_eq]at hj;subst hj;exact h1
  ·exact Yfz h2 f en h
def XU:Code->List Code
 | .loop c=>c::XU c
 | .seq a b=>XU a++XU b
 | .cond _ a b=>XU a++XU b
 | .block _ a=>XU a
 |_=> []
def YeV (p:Code->Prop):List Code->Prop
 | []=>True
 |c::l=>p c/\YeV p l
theorem Xj {p:Code->Prop}: ∀ {l l':List Code},YeV p (l++l')->YeV p l/\YeV p l'
 | [],_,h=>⟨trivial,h⟩
 |c::l,_,⟨h1,h2⟩=>⟨⟨h1,(Xj h2).1⟩,(Xj h2).2⟩
theorem Xf {p:Code->Prop}: ∀(c:Code),YeV p (XU c)->XH p c
 | .loop c,⟨h1,h2⟩=>⟨h1,Xf c h2⟩
 | .seq a b,h=>⟨Xf a (Xj h).1,Xf b (Xj h).2⟩
 | .cond _ a b,h=>⟨Xf a (Xj h).1,Xf b (Xj h).2⟩
 | .block _ a,h=>Xf a h
 | .skip,_=>trivial
 | .region _ _ _,_=>trivial
 | .rangeFunc _ _ _ _,_=>trivial
 | .exit _,_=>trivial
 | .scope _,_=>trivial
 | .label _,_=>trivial
 | .goto _,_=>trivial
 | .ret,_=>trivial
 | .refuse _,_=>trivial
theorem YgL {p:Code->Prop} {c:Code} {l:List Code} (h:XU c=l) (hl:YeV p l):XH p c:=Xf c (by rw[h];exact hl)
theorem YhE {cx:Cx} {c:Code} {L:LoopSpec} {l:List (Nat×LoopSpec)} (hl:cx.L=Ygo l) (hr:Ygo l (YZ c)=some L) (h:YbG cx c L): ∀L',cx.L (YZ c)=some L'->YbG cx c L':=by
 intro L' h'
 rw[hl,hr]at h'
 cases h';exact h
def cx0 (tt:List (Nat×TI)) (T:List (Nat×Entry)) (L:List (Nat×LoopSpec)) (n:Nat):Cx where
 tt:=YaU tt
 T:=Ygp T
 L:=Ygo L
 dep:=λ_=>0
 n:=n
abbrev Qk (P : Program) (i : FuncId) (f : Func) (c : Code) : Prop := P.funcs[i]? = some f ∧ (f.name == "runtime.NumGoroutine") = false ∧ f.body = some c
theorem Yi3 {P:Program} {tl:List (Nat×TI)} (ht:Yif P tl=true) (hm:P.follows .mixedOrders=true) {f:FuncId} {fn:Func} {c:Code} {en:Entry} {cx:Cx} {TL:List (Nat×Entry)} {ls:List Code} (hq:Qk P f fn c)
  {enc:XK en.params->YH en.results->en.B} (hF: ∀x,en.run x=Yir cx fn en.params en.results x λo r=>some (enc o r)) (hTT:cx.T=Ygp TL) (hT:Yik P TL)
  (hw:XU c=ls) (hl:YeV (λc=> ∀L,cx.L (YZ c)=some L->YbG cx c L) ls) (hc:cx.tt=YaU tl:=by rfl) (henc: ∀o r,en.out (enc o r)=o/\en.res (enc o r)=r:=by exact λ_ _=>⟨rfl,rfl⟩) (hcod:en.cod=cx.cod:=by rfl):Holds P f en:=
 YgE (Yhe ht hc).1 (by rw[hTT];exact Yfz hT) hm hq.1 hq.2.2 (YgL hw hl) henc hF hcod
theorem Yi8 {cx:Cx} {c:Code} {L:LoopSpec} {f:Nat->YH (L.sh.map (·.2))->Option (Ybq L.ex)} {i N:Nat} {l:List (Nat×LoopSpec)} (hk: ∀n x,f (n+1) x=Yfg cx c L x (f n)) (hr:YZ c=i)
  (hl:cx.L=Ygo l:=by rfl) (ht:Ygo l i=some L:=by rfl) (h0: ∀x,f 0 x=none:=by exact λ_=>rfl) (hf: ∀x,L.run x=f N x:=by exact λ_=>rfl): ∀L',cx.L (YZ c)=some L'->YbG cx c L':=
 YhE hl (by rw[hr];exact ht) ⟨f,h0,hk,N,hf⟩
end Go.Va
