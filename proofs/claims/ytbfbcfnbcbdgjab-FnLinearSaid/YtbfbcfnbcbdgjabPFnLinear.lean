/- Plain lemmas on the typed functions of the program, and the plain law of FnLinear; no conditions. -/
import Derived.Test.YtbfbcfnbcbdgjabV1
import Derived.Test.YtbfbcfnbcbdgjabV5
import Derived.KernelRfl
import Derived.Test.YtbfbcfnbcbdgjabOFnLinear
set_option linter.all false
open Go Go.Va
namespace T
section
variable {a:Lin} {p:Int} {W N V:Nat}
def B6 (p:Int) (V:Nat) (s:ES):List (List Int):=(Ai V s.2.1).map λf=>C2 p V s f.toNat
theorem Hz (hp:pr4 p) {s:ES} (hs:ESok p W N V s) (hV:V<W) (hN:N<=100000) (hW:W<=1000):BF (DS p V s)=some (CZ p V s,B6 p V s):=by
 have hFl:(Ai V s.2.1).length<=V:=BJ
 have hsol:=λi f hi hf=>Hb (i:=i) (f:=f) hp hs hV hN hW hi hf
 have h2:=Hy hs hV hN
 have h2:Aw Aa ((),((DS p V s).1,((DS p V s).2.1,((DS p V s).2.2.1,((DS p V s).2.2.2.1,(DS p V s).2.2.2.2)))),((DS p V s).2.2.1.length:Int),0)=_:=h2
 have hfr:AK ((CZ p V s).1,((CZ p V s).2.1,((CZ p V s).2.2.1,((CZ p V s).2.2.2.1,(CZ p V s).2.2.2.2))))=some (CZ p V s,Ai V s.2.1):=Fk (q:=((V:Int),(D9 V (s.1++s.2.2),(s.1.length:Int)))) (by omega)
 have hFm: ∀k (hk:k<(Ai V s.2.1).length),∃u:Nat,u<V/\(Ai V s.2.1)[k]=(u:Int):=λk hk=>C8 (b:=s.2.1) (List.getElem_mem hk)
 unfold BF B6
 rw[h2]
 simp only[Option.bind_some,hfr]
 generalize Ai V s.2.1=F at*
 have l9:=BW F.length (λf o i=>AH f (CZ p V s,o,F,(F.length:Int),i)) (λk=>(F.take k).map λf=>C2 p V s f.toNat) (r:=some (CZ p V s,F.map λf=>C2 p V s f.toNat)) (λf k hk=>?_) (λf=>?_) (n:=Aa) (by unfold Aa;omega)
 ·have l9:AH Aa (((CZ p V s).1,((CZ p V s).2.1,((CZ p V s).2.2.1,((CZ p V s).2.2.2.1,(CZ p V s).2.2.2.2)))),[],F,(F.length:Int),0)=_:=l9
  rw[l9];rfl
 ·obtain⟨u,hu,e⟩:=hFm k hk
  have h3:=hsol k u hk e
  have h3:Bq ((CZ p V s).1,((CZ p V s).2.1,((CZ p V s).2.2.1,((CZ p V s).2.2.2.1,(CZ p V s).2.2.2.2)))) ((List.replicate F.length (0:Int)).set k 1)=_:=h3
  have hkr:k<(List.replicate F.length (0:Int)).length:=by rw[List.length_replicate];exact hk
  simp only[AH,Int.toNat_natCast,Ae,hkr,Bk,h3,Option.bind_some,if_true,Ac (show k<4611686018427387904 by omega),List.take_succ_eq_append_getElem hk,List.map_append,List.map_cons,List.map_nil,e]
  rw[if_pos (by simp;omega),if_pos (by unfold lim;omega),if_pos (by simp;unfold lim;omega)]
 ·simp only[AH,List.take_length]
  rw[if_neg (by simp)]
theorem Fs (hp:pr4 p) {s:ES} (hs:ESok p W N V s) (hV:V<W) (hN:N<=100000) (hW:W<=1000) {F:List Int} {i f:Nat} (hi:i<F.length) (hf:F[i]=(f:Int)) (hfV:f<V) (hfb:(f:Int)∉s.2.1) (out:List (List Int)):
  BB Aa (p,(V:Int),(s.1,(s.2.1,s.2.2)),out,F,(i:Int),(List.replicate V (0:Int)).set f 1,0)=some (p,(V:Int),(s.1,(s.2.1,s.2.2)),out,F,(i:Int),C2 p V s f):=by
 have hp0:p≠0:=by unfold pr4 at hp;omega
 have hpb:2<=p/\p<=7:=by unfold pr4 at hp;omega
 have hbl:=hs.bl
 have hn:=hs.n
 have l8:=BW s.2.1.length (λg (o:List Int) k=>BB g (p,(V:Int),(s.1,(s.2.1,s.2.2)),out,F,(i:Int),o,k)) (λk=>(List.range V).map λu=>if 0<=BE s.2.1 u/\BE s.2.1 u<(k:Int)then Int.tmod (p-(s.1.getD (BE s.2.1 u).toNat []).getD f 0) p else if u=f then 1 else 0) (r:=some (p,(V:Int),(s.1,(s.2.1,s.2.2)),out,F,(i:Int),C2 p V s f)) (λg k hk=>?_) (λg=>?_) (n:=Aa) (by unfold Aa;omega)
 ·have e0:((List.range V).map λu=>if 0<=BE s.2.1 u/\BE s.2.1 u<((0:Nat):Int)then Int.tmod (p-(s.1.getD (BE s.2.1 u).toNat []).getD f 0) p else if u=f then 1 else 0)=(List.replicate V (0:Int)).set f 1:=by
   apply List.ext_getElem
   ·simp
   ·intro w h1 h2
    rw[List.getElem_set]
    simp only[List.getElem_map,List.getElem_range,List.getElem_replicate]
    rw[if_neg (by omega)]
    by_cases c:f=w
    ·rw[if_pos c,if_pos c.symm]
    ·rw[if_neg c,if_neg (λh=>c h.symm)]
  rw[e0]at l8
  exact l8
 ·have hbv:=hs.bv _ (List.getElem_mem hk)
  obtain⟨u,hu⟩: ∃u:Nat,s.2.1[k]=(u:Int):=⟨s.2.1[k].toNat,by omega⟩
  have hpu:=DI hs.bn hk hu
  have hk1:k<s.1.length:=by omega
  have hrow:Ak p W (s.1.getD k []):=by rw[Ab hk1];exact hs.t _ (List.getElem_mem hk1)
  have hfl:f<(s.1.getD k []).length:=by rw[hrow.1];omega
  have hx:=Be hrow (show f<W by omega)
  have huV:u<V:=by omega
  simp only[BB,Ae,hk,hk1,hi,AJ hk,AJ hi,hu,hf,BR,hfl,if_true,Bk,AI (x:=p-(s.1.getD k []).getD f 0) (by omega) (by omega),Ac (show k<4611686018427387904 by omega)]
  rw[if_pos (by simp;omega),if_pos hp0,if_pos (by simp;omega)]
  congr 1
  refine congrArg (λo=>(p,(V:Int),(s.1,(s.2.1,s.2.2)),out,F,(i:Int),o,((k+1:Nat):Int))) ?_
  apply List.ext_getElem
  ·simp
  ·intro w h1 h2
   rw[List.getElem_set]
   simp only[List.getElem_map,List.getElem_range]
   by_cases e:u=w
   ·subst e
    rw[if_pos rfl,hpu,if_pos (by omega),Int.toNat_natCast]
   ·rw[if_neg e]
    have hne:BE s.2.1 w≠(k:Int):=λh=>by
     have hm:(w:Int)∈s.2.1:=by
      by_cases hm:(w:Int)∈s.2.1
      ·exact hm
      ·rw[CC hm]at h;omega
     obtain⟨j,hj,g1,g2⟩:=Cs hm
     have:j=k:=by omega
     subst this
     rw[hu]at g2;omega
    by_cases c:0<=BE s.2.1 w/\BE s.2.1 w<(k:Int)
    ·rw[if_pos c,if_pos (show 0<=BE s.2.1 w/\BE s.2.1 w<((k+1:Nat):Int) by omega)]
    ·rw[if_neg c,if_neg (show¬(0<=BE s.2.1 w/\BE s.2.1 w<((k+1:Nat):Int)) by omega)]
 ·simp only[BB]
  rw[if_neg (by simp)]
  unfold C2
  congr 1
  refine congrArg (λo=>(p,(V:Int),(s.1,(s.2.1,s.2.2)),out,F,(i:Int),o)) ?_
  refine List.map_congr_left λu _=>?_
  unfold CP
  by_cases hm:(u:Int)∈s.2.1
  ·obtain⟨j,hj,g1,_⟩:=Cs hm
   rw[g1,if_pos (by omega),if_neg (by omega)]
  ·rw[CC hm,if_neg (show¬(0<=(-1:Int)/\(-1:Int)<(s.2.1.length:Int)) by omega),if_pos (show(-1:Int)<0 by omega)]
theorem El (hp:pr4 p) {s:ES} (hs:ESok p W N V s) (hV:V<W) (hN:N<=100000) (hW:W<=1000):B3 s p (V:Int)=some (B6 p V s):=by
 have hFl:(Ai V s.2.1).length<=V:=BJ
 have hFm: ∀k (hk:k<(Ai V s.2.1).length),(∃u:Nat,u<V/\(Ai V s.2.1)[k]=(u:Int))/\(Ai V s.2.1)[k]∉s.2.1:=λk hk=>⟨C8 (b:=s.2.1) (List.getElem_mem hk),EU (List.getElem_mem hk)⟩
 have hfr:=FN hs hN (by omega)
 have hfr:Cu (s.1,(s.2.1,s.2.2)) (V:Int)=_:=hfr
 unfold B3 B6
 rw[hfr]
 simp only[Option.bind_some]
 generalize Ai V s.2.1=F at*
 have l3:=BW F.length (λf o i=>BA f (p,(V:Int),(s.1,(s.2.1,s.2.2)),o,F,i)) (λk=>(F.take k).map λf=>C2 p V s f.toNat) (r:=some (F.map λf=>C2 p V s f.toNat)) (λf k hk=>?_) (λf=>?_) (n:=Aa) (by unfold Aa;omega)
 ·have l3:BA Aa (p,(V:Int),(s.1,(s.2.1,s.2.2)),[],F,0)=_:=l3
  rw[l3];rfl
 ·obtain⟨⟨u,hu,e⟩,hnb⟩:=hFm k hk
  rw[e]at hnb
  have hur:u<(List.replicate V (0:Int)).length:=by simp;omega
  have h8:=Fs hp hs hV hN hW hk e hu hnb ((F.take k).map λf=>C2 p V s f.toNat)
  simp only[BA,Int.toNat_natCast,Ae,hk,AJ hk,e,hur,Bk,h8,Option.bind_some,if_true,Ac (show k<4611686018427387904 by omega),List.take_succ_eq_append_getElem hk,List.map_append,List.map_cons,List.map_nil]
  rw[if_pos (by simp;omega),if_pos (by unfold lim;omega),if_pos (by simp;unfold lim;omega)]
 ·simp only[BA,List.take_length]
  rw[if_neg (by simp)]
end
end T
open Go Go.Va
namespace T
def cg (p a b:Int):Prop:= ∃k,a=b+p*k
section
variable {p a b c d:Int}
theorem C0 (h:a=b):cg p a b:=⟨0,by rw[h];simp⟩
theorem FH (h:cg p a b):cg p b a:=by obtain⟨k,h⟩:=h;exact⟨-k,by grind⟩
theorem C1 (h:cg p a b) (g:cg p b c):cg p a c:=by obtain⟨k,h⟩:=h;obtain⟨m,g⟩:=g;exact⟨k+m,by grind⟩
theorem Ec (h:cg p a b) (g:cg p c d):cg p (a+c) (b+d):=by obtain⟨k,h⟩:=h;obtain⟨m,g⟩:=g;exact⟨k+m,by grind⟩
theorem Fy (x:Int) (h:cg p a b):cg p (x*a) (x*b):=by obtain⟨k,h⟩:=h;exact⟨x*k,by grind⟩
theorem FG (x:Int) (h:cg p a b):cg p (a*x) (b*x):=by obtain⟨k,h⟩:=h;exact⟨x*k,by grind⟩
theorem E3 {x:Int} (h0:0<=x):cg p (Int.tmod x p) x:=by
 rw[Int.tmod_eq_emod_of_nonneg h0]
 have:=Int.emod_add_mul_ediv x p
 exact⟨-(x/p),by grind⟩
theorem HJ (h:cg p a b) (ha:0<=a/\a<p) (hb:0<=b/\b<p):a=b:=by
 obtain⟨k,h⟩:=h
 have h1:=Int.emod_eq_of_lt ha.1 ha.2
 have h2:=Int.emod_eq_of_lt hb.1 hb.2
 rw[h,Int.add_mul_emod_self_left,h2]at h1
 rw[h1]at h2⊢
 omega
end
inductive Sp (p:Int) (V:Nat) (A:List (List Int)):(Nat->Int)->Prop
 |zero:Sp p V A λ_=>0
 |add {f:Nat->Int} (r:List Int) (c:Int):r∈A->Sp p V A f->Sp p V A λi=>f i+c*r.getD i 0
 |cgr {f g:Nat->Int}:Sp p V A f->(∀i,i<V->cg p (g i) (f i))->Sp p V A g
section
variable {p:Int} {V W N:Nat} {A B:List (List Int)} {f g:Nat->Int}
theorem Sp.lin (hf:Sp p V A f) (hg:Sp p V A g) (c:Int):Sp p V A λi=>f i+c*g i:=by
 induction hg with
 |zero=>exact hf.cgr λi _=>C0 (by simp)
 |add r d hr _ ih=>exact(ih.add r (c*d) hr).cgr λi _=>C0 (by grind)
 |cgr _ h ih=>exact ih.cgr λi hi=>Ec (C0 rfl) (Fy c (h i hi))
theorem Sp.mem {r:List Int} (h:r∈A):Sp p V A λi=>r.getD i 0:=(Sp.add r 1 h .zero).cgr λi _=>C0 (by simp)
theorem Sp.sub (h: ∀r∈A,Sp p V B λi=>r.getD i 0) (hf:Sp p V A f):Sp p V B f:=by
 induction hf with
 |zero=>exact .zero
 |add r c hr _ ih=>exact ih.lin (h r hr) c
 |cgr _ h ih=>exact ih.cgr h
def eqSp (p:Int) (V:Nat) (A B:List (List Int)):Prop:= ∀f,Sp p V A f↔Sp p V B f
theorem G0 (h: ∀r∈A,Sp p V B λi=>r.getD i 0) (g: ∀r∈B,Sp p V A λi=>r.getD i 0):eqSp p V A B:=λ_=>⟨Sp.sub h,Sp.sub g⟩
theorem EE {row r:List Int} {v i:Nat} (h:i<r.length):(Av p row v r).getD i 0=Int.tmod (r.getD i 0+(p-r.getD v 0)*row.getD i 0) p:=by
 rw[Ab (by unfold Av;simp;exact h)];simp[Av]
theorem Eh {r:List Int} {b:Int} {i:Nat} (h:i<r.length):(Au p b r).getD i 0=Int.tmod (r.getD i 0*b) p:=by
 rw[Ab (by unfold Au;simp;exact h)];simp[Au]
theorem FO (hp:pr4 p) {row r:List Int} {v i:Nat} (h:Ak p W r) (hr:Ak p W row) (hv:v<W) (hi:i<W):cg p ((Av p row v r).getD i 0) (r.getD i 0+(p-r.getD v 0)*row.getD i 0):=by
 rw[EE (by rw[h.1];exact hi)]
 have h1:=Be h hi
 have h2:=Be hr hi
 have h3:=Be h hv
 have:=Int.mul_nonneg (show 0<=p-r.getD v 0 by omega) h2.1
 exact E3 (by omega)
theorem EF {r:List Int} {b:Int} {i:Nat} (h:Ak p W r) (hb:0<=b) (hi:i<W):cg p ((Au p b r).getD i 0) (r.getD i 0*b):=by
 rw[Eh (by rw[h.1];exact hi)]
 exact E3 (Int.mul_nonneg (Be h hi).1 hb)
theorem G4: ∀p:Fin 8,∀x:Fin 8,(p.val=2∨p.val=3∨p.val=5∨p.val=7)->0<x.val->x.val<p.val->Int.tmod ((x.val:Int)*CM (p.val:Int) (x.val:Int)) (p.val:Int)=1:=by decide+kernel
theorem G3 {x:Int} (hp:pr4 p) (h0:0<x) (h1:x<p):Int.tmod (x*CM p x) p=1:=by
 unfold pr4 at hp
 have:=G4 ⟨p.toNat,by omega⟩ ⟨x.toNat,by omega⟩ (by simp;omega) (by simp;omega) (by simp;omega)
 simp only[Int.toNat_of_nonneg (show 0<=p by omega),Int.toNat_of_nonneg (show 0<=x by omega)]at this
 exact this
def D6 (p:Int) (s:ES) (v:Nat):List Int:=Au p (CM p ((s.2.2.getD (s.2.2.findIdx (nzB v)) []).getD v 0)) (s.2.2.getD (s.2.2.findIdx (nzB v)) [])
theorem Ee {s:ES} {v:Nat} (hc:s.2.2.findIdx (nzB v)<s.2.2.length):B7 p s v=(s.1.map (Av p (D6 p s v) v)++ [D6 p s v],s.2.1++ [(v:Int)],(s.2.2.eraseIdx (s.2.2.findIdx (nzB v))).map (Av p (D6 p s v) v)):=by
 unfold B7 D6;dsimp only;rw[if_pos hc]
theorem Ed {s:ES} {v:Nat} (hc: ¬s.2.2.findIdx (nzB v)<s.2.2.length):B7 p s v=s:=by
 unfold B7;dsimp only;rw[if_neg hc]
theorem GI (hp:pr4 p) {s:ES} {v:Nat} (hs:ESok p W N v s) (hv:v<W) (hc:s.2.2.findIdx (nzB v)<s.2.2.length):
  Ak p W (D6 p s v)/\(D6 p s v).getD v 0=1/\(∀V,Sp p V (s.1++s.2.2) λi=>if i<W then(D6 p s v).getD i 0 else(D6 p s v).getD i 0)/\ ∃x∈s.2.2,∃b,0<=b/\b<p/\D6 p s v=Au p b x/\Ak p W x/\x=s.2.2.getD (s.2.2.findIdx (nzB v)) []:=by
 obtain⟨f1,f2,f3⟩:=Eu hc hs.l hv
 obtain⟨_,_,i2,i3⟩:=E7 hp f1 f2
 have hm:s.2.2.getD (s.2.2.findIdx (nzB v)) []∈s.2.2:=by rw[Ab hc];exact List.getElem_mem hc
 have him:=G3 hp f1 f2
 unfold D6
 generalize s.2.2.getD (s.2.2.findIdx (nzB v)) []=x at*
 generalize CM p (x.getD v 0)=I at*
 refine⟨DC hp f3 ⟨by omega,i3⟩,?_,λV=>?_,x,hm,I,by omega,i3,rfl,f3,rfl⟩
 ·rw[Eh (by rw[f3.1];exact hv)];exact him
 ·have h1:Sp p V (s.1++s.2.2) λi=>0+I*x.getD i 0:=Sp.add x I (List.mem_append_right _ hm) .zero
  refine h1.cgr λi hi=>?_
  simp only[ite_self]
  by_cases h:i<W
  ·exact C1 (EF f3 (by omega) h) (C0 (by grind))
  ·have e1:(Au p I x).getD i 0=0:=by rw[List.getD_eq_getElem?_getD,List.getElem?_eq_none (by unfold Au;simp;rw[f3.1];omega)];rfl
   have e2:x.getD i 0=0:=by rw[List.getD_eq_getElem?_getD,List.getElem?_eq_none (by rw[f3.1];omega)];rfl
   rw[e1,e2];exact C0 (by simp)
theorem He (hp:pr4 p) {s:ES} {v:Nat} (hs:ESok p W N v s) (hv:v<W) (hVW:V<=W):eqSp p V (s.1++s.2.2) ((B7 p s v).1++(B7 p s v).2.2):=by
 by_cases hc:s.2.2.findIdx (nzB v)<s.2.2.length
 ·obtain⟨o1,o2,o3,x,hx,b,hb0,hb1,o4,o5,o6⟩:=GI hp hs hv hc
  rw[Ee hc]
  have hrow:=o3 V
  simp only[ite_self]at hrow
  generalize hP:D6 p s v=P at*
  have hless: ∀r,Ak p W r->Sp p V (s.1++s.2.2) (λi=>r.getD i 0)->Sp p V (s.1++s.2.2) λi=>(Av p P v r).getD i 0:=λr hr hsp=>(hsp.lin hrow (p-r.getD v 0)).cgr λi hi=>FO hp hr o1 hv (by omega)
  have hokm: ∀r∈s.1++s.2.2,Ak p W r:=λr hr=>by
   rcases List.mem_append.1 hr with h|h
   ·exact hs.t r h
   ·exact hs.l r h
  refine G0 (λr hr=>?_) (λr hr=>?_)
  ·have hP2:Sp p V ((s.1.map (Av p P v)++ [P])++(s.2.2.eraseIdx (s.2.2.findIdx (nzB v))).map (Av p P v)) λi=>P.getD i 0:=Sp.mem (by simp)
   have back: ∀r,Ak p W r->Av p P v r∈(s.1.map (Av p P v)++ [P])++(s.2.2.eraseIdx (s.2.2.findIdx (nzB v))).map (Av p P v)->Sp p V ((s.1.map (Av p P v)++ [P])++(s.2.2.eraseIdx (s.2.2.findIdx (nzB v))).map (Av p P v)) λi=>r.getD i 0:=λr hr hm=>by
    refine((Sp.mem hm).lin hP2 (r.getD v 0-p)).cgr λi hi=>?_
    have:=FO hp hr o1 hv (show i<W by omega)
    exact FH (C1 (Ec this (C0 rfl)) (C0 (by grind)))
   rcases List.mem_append.1 hr with h|h
   ·exact back r (hs.t r h) (List.mem_append_left _ (List.mem_append_left _ (List.mem_map_of_mem h)))
   ·by_cases e:r=x
    ·
     subst e
     refine(Sp.add P (r.getD v 0) (by simp) .zero).cgr λi hi=>?_
     have h1:=EF (b:=b) o5 hb0 (show i<W by omega)
     have h2:=EF (b:=b) o5 hb0 hv
     rw[←o4]at h1 h2
     rw[o2]at h2
     obtain⟨k,h1⟩:=h1
     obtain⟨m,h2⟩:=h2
     exact⟨r.getD i 0*m-r.getD v 0*k,by grind⟩
    ·have hme:r∈s.2.2.eraseIdx (s.2.2.findIdx (nzB v)):=by
      obtain⟨j,hj,rfl⟩:=List.getElem_of_mem h
      rw[List.mem_eraseIdx_iff_getElem]
      refine⟨j,hj,?_,rfl⟩
      intro ej
      apply e
      rw[o6,Ab hc]
      simp only[ej]
     exact back r (hs.l r h) (List.mem_append_right _ (List.mem_map_of_mem hme))
  ·rcases List.mem_append.1 hr with h|h
   ·rcases List.mem_append.1 h with h|h
    ·obtain⟨q,hq,rfl⟩:=List.mem_map.1 h
     exact hless q (hs.t q hq) (Sp.mem (List.mem_append_left _ hq))
    ·rw[List.mem_singleton.1 h];exact hrow
   ·obtain⟨q,hq,rfl⟩:=List.mem_map.1 h
    have hq2:=List.mem_of_mem_eraseIdx hq
    exact hless q (hs.l q hq2) (Sp.mem (List.mem_append_right _ hq2))
 ·rw[Ed hc];exact λ_=>Iff.rfl
theorem FM (hp:pr4 p) (hr: ∀r∈A,Ak p W r) (hVW:V<=W): ∀v,v<=W->eqSp p V A ((Ah p A v).1++(Ah p A v).2.2):=by
 intro v
 induction v with
 |zero=>intro _;exact λ_=>Iff.rfl
 |succ v ih=>
  intro hv
  have hok:=Bs hp hr v (by omega)
  have hnx:Ah p A (v+1)=B7 p (Ah p A v) v:=by unfold Ah;rw[Cz]
  rw[hnx]
  exact λf=>(ih (by omega) f).trans (He hp hok (by omega) hVW f)
end
end T
open Go Go.Va
namespace T
section
variable {p:Int} {V W N:Nat} {A B:List (List Int)} {f g:Nat->Int}
def CL (N:Nat) (b:List Int):List Int:=((List.range N).filter λv:Nat=>decide ((v:Int)∈b)).map λv:Nat=>(v:Int)
theorem Dl {N:Nat} {b:List Int}:CL (N+1) b=CL N b++(if(N:Int)∈b then [(N:Int)]else []):=by
 unfold CL
 rw[List.range_succ,List.filter_append,List.map_append]
 congr 1
 by_cases h:(N:Int)∈b<;>simp[h]
theorem F4 {N:Nat} {b:List Int} {x:Int} (h:(N:Int)<=x):CL N (b++ [x])=CL N b:=by
 unfold CL
 congr 1
 refine List.filter_congr λu hu=>?_
 have:=List.mem_range.1 hu
 have e:((u:Int)∈b++ [x])↔(u:Int)∈b:=by
  rw[List.mem_append,List.mem_singleton]
  exact⟨λh=>h.resolve_right (by omega),Or.inl⟩
 simp only[e]
structure RR (p:Int) (v:Nat) (s:ES):Prop where
 piv: ∀i,i<s.1.length-> ∀j,j<s.1.length->(s.1.getD i []).getD (s.2.1.getD j 0).toNat 0=if i=j then 1 else 0
 low: ∀i,i<s.1.length-> ∀u:Nat,(u:Int)<s.2.1.getD i 0->(s.1.getD i []).getD u 0=0
 zl: ∀r∈s.2.2,∀u:Nat,u<v->r.getD u 0=0
 bnd:CL v s.2.1=s.2.1
theorem F7 {α β:Type} {l:List α} {h:α->β} {i:Nat} {d:α} {e:β} (hi:i<l.length):(l.map h).getD i e=h (l.getD i d):=by
 rw[Ab (by simpa using hi),Ab hi,List.getElem_map]
theorem EV {α:Type} {l m:List α} {i:Nat} {d:α} (hi:i<l.length):(l++m).getD i d=l.getD i d:=by
 rw[Ab (by rw[List.length_append];omega),Ab hi,List.getElem_append_left hi]
theorem Ef {α:Type} {l:List α} {x d:α}:(l++ [x]).getD l.length d=x:=by
 rw[Ab (by simp)];simp
theorem B8 {α:Type} {l:List α} {i:Nat} {d:α} (hi:i<l.length):l.getD i d∈l:=by rw[Ab hi];exact List.getElem_mem hi
theorem Hd (hp:pr4 p) {s:ES} {v:Nat} (hs:ESok p W N v s) (hv:v<W) (h:RR p v s):RR p (v+1) (B7 p s v):=by
 have hp0:2<=p/\p<=7:=by unfold pr4 at hp;omega
 have hbl:=hs.bl
 by_cases hc:s.2.2.findIdx (nzB v)<s.2.2.length
 ·obtain⟨o1,o2,_,x,hx,b,hb0,hb1,o4,o5,o6⟩:=GI hp hs hv hc
  rw[Ee hc]
  generalize hP:D6 p s v=P at*
  have hPz: ∀u,u<v->P.getD u 0=0:=λu hu=>by
   rw[o4,Eh (by rw[o5.1];omega),h.zl x hx u hu];simp
  have hsame: ∀r,Ak p W r-> ∀u,u<v->(Av p P v r).getD u 0=r.getD u 0:=λr hr u hu=>by
   have:=Be hr (show u<W by omega)
   rw[EE (by rw[hr.1];omega),hPz u hu,Int.mul_zero,Int.add_zero,Int.tmod_eq_of_lt this.1 this.2]
  have hat: ∀r,Ak p W r->(Av p P v r).getD v 0=0:=λr hr=>by
   rw[EE (by rw[hr.1];omega),o2,Int.mul_one,show r.getD v 0+(p-r.getD v 0)=p by omega,Int.tmod_self]
  have hbv: ∀j,j<s.1.length->0<=s.2.1.getD j 0/\s.2.1.getD j 0<(v:Int):=λj hj=>hs.bv _ (B8 (by omega))
  have hbn:(s.2.1++ [(v:Int)]).getD s.1.length 0=(v:Int):=by rw[←hbl,Ef]
  have htn:(s.1.map (Av p P v)++ [P]).getD s.1.length []=P:=by
   have:=Ef (l:=s.1.map (Av p P v)) (x:=P) (d:= [])
   rw[List.length_map]at this;exact this
  have hti: ∀i,i<s.1.length->(s.1.map (Av p P v)++ [P]).getD i []=Av p P v (s.1.getD i []):=λi hi=>by
   rw[EV (by simpa using hi),F7 (d:= []) hi]
  have hbi: ∀j,j<s.1.length->(s.2.1++ [(v:Int)]).getD j 0=s.2.1.getD j 0:=λj hj=>EV (by omega)
  have hlen:(s.1.map (Av p P v)++ [P]).length=s.1.length+1:=by simp
  refine⟨λi hi j hj=>?_,λi hi u hu=>?_,λr hr u hu=>?_,?_⟩
  ·dsimp only at hi hj⊢
   rw[hlen]at hi hj
   by_cases ci:i=s.1.length
   ·subst ci
    rw[htn]
    by_cases cj:j=s.1.length
    ·subst cj;rw[hbn,Int.toNat_natCast,o2,if_pos rfl]
    ·have hj2:j<s.1.length:=by omega
     have:=hbv j hj2
     rw[hbi j hj2,hPz _ (by omega),if_neg (by omega)]
   ·have hi2:i<s.1.length:=by omega
    have hok:=hs.t _ (B8 (d:= []) hi2)
    rw[hti i hi2]
    by_cases cj:j=s.1.length
    ·subst cj;rw[hbn,Int.toNat_natCast,hat _ hok,if_neg ci]
    ·have hj2:j<s.1.length:=by omega
     have:=hbv j hj2
     rw[hbi j hj2,hsame _ hok _ (by omega),h.piv i hi2 j hj2]
  ·dsimp only at hi hu⊢
   rw[hlen]at hi
   by_cases ci:i=s.1.length
   ·subst ci
    rw[hbn]at hu
    rw[htn,hPz u (by omega)]
   ·have hi2:i<s.1.length:=by omega
    have hok:=hs.t _ (B8 (d:= []) hi2)
    rw[hbi i hi2]at hu
    have:=hbv i hi2
    rw[hti i hi2,hsame _ hok u (by omega),h.low i hi2 u hu]
  ·dsimp only at hr
   obtain⟨q,hq,rfl⟩:=List.mem_map.1 hr
   have hq2:=List.mem_of_mem_eraseIdx hq
   by_cases e:u=v
   ·subst e;exact hat q (hs.l q hq2)
   ·rw[hsame q (hs.l q hq2) u (by omega)];exact h.zl q hq2 u (by omega)
  ·dsimp only
   rw[Dl,if_pos (by simp),F4 (by omega),h.bnd]
 ·rw[Ed hc]
  have hnm:(v:Int)∉s.2.1:=λhm=>by have:=hs.bv _ hm;omega
  refine⟨h.piv,h.low,λr hr u hu=>?_,?_⟩
  ·by_cases e:u=v
   ·subst e
    have h1:=List.findIdx_eq_length.1 (show s.2.2.findIdx (nzB u)=s.2.2.length by have:=List.findIdx_le_length (xs:=s.2.2) (p:=nzB u);omega) r hr
    unfold nzB at h1
    simpa using h1
   ·exact h.zl r hr u (by omega)
  ·rw[Dl,if_neg hnm,h.bnd,List.append_nil]
theorem E4 (hp:pr4 p) (hr: ∀r∈A,Ak p W r): ∀v,v<=W->RR p v (Ah p A v):=by
 intro v
 induction v with
 |zero=>intro _;exact⟨λi hi=>by simp[Ah]at hi,λi hi=>by simp[Ah]at hi,λr _ u hu=>by omega,by simp[Ah,CL]⟩
 |succ v ih=>
  intro hv
  have hok:=Bs hp hr v (by omega)
  have hnx:Ah p A (v+1)=B7 p (Ah p A v) v:=by unfold Ah;rw[Cz]
  rw[hnx]
  exact Hd hp hok (by omega) (ih (by omega))
def Bu (n:Nat) (h:Nat->Int):Int:=((List.range n).map h).sum
theorem B5 {n:Nat} {h:Nat->Int}:Bu (n+1) h=Bu n h+h n:=by
 unfold Bu;rw[List.range_succ,List.map_append,List.sum_append];simp
theorem EK {n:Nat} {h k:Nat->Int} {c:Int}:Bu n (λj=>h j+c*k j)=Bu n h+c*Bu n k:=by
 induction n with
 |zero=>simp[Bu]
 |succ n ih=>rw[B5,B5,B5,ih];grind
theorem CR {n:Nat} {h k:Nat->Int} (e: ∀j,j<n->h j=k j):Bu n h=Bu n k:=by
 unfold Bu;congr 1;exact List.map_congr_left λj hj=>e j (List.mem_range.1 hj)
theorem FY {n:Nat} {h k:Nat->Int} (e: ∀j,j<n->cg p (h j) (k j)):cg p (Bu n h) (Bu n k):=by
 induction n with
 |zero=>exact C0 rfl
 |succ n ih=>rw[B5,B5];exact Ec (ih λj hj=>e j (by omega)) (e n (by omega))
theorem EL {n m:Nat} {h:Nat->Int} (hm:m<n) (e: ∀j,j<n->j≠m->h j=0):Bu n h=h m:=by
 induction n with
 |zero=>omega
 |succ n ih=>
  rw[B5]
  by_cases c:m=n
  ·subst c
   have:Bu m h=0:=by
    have:=CR (n:=m) (h:=h) (k:=λ_=>0) λj hj=>e j (by omega) (by omega)
    rw[this]
    clear this e ih hm
    induction m with
    |zero=>rfl
    |succ m ih=>rw[B5,ih];rfl
   omega
  ·rw[ih (by omega) λj hj hjm=>e j (by omega) hjm,e n (by omega) (by omega)];omega
theorem DK {n:Nat} {h:Nat->Int} (e: ∀j,j<n->cg p (h j) 0):cg p (Bu n h) 0:=by
 induction n with
 |zero=>exact C0 rfl
 |succ n ih=>rw[B5];exact C1 (Ec (ih λj hj=>e j (by omega)) (e n (by omega))) (C0 rfl)
end
end T
open Go Go.Va
namespace T
section
variable {p:Int} {V W N:Nat} {A B C D:List (List Int)} {f g:Nat->Int}
theorem eqSp.symm (h:eqSp p V A B):eqSp p V B A:=λf=>(h f).symm
theorem eqSp.trans (h:eqSp p V A B) (g:eqSp p V B C):eqSp p V A C:=λf=>(h f).trans (g f)
end
end T
open Go Go.Va
namespace T
section
variable {p:Int} {V W N k:Nat} {A B C D:List (List Int)} {f g:Nat->Int}
theorem HD {c:Nat->Int} (h: ∀r∈A,cg p (Bu k λi=>r.getD i 0*c i) (r.getD k 0)) (hf:Sp p (k+1) A f):cg p (Bu k λi=>f i*c i) (f k):=by
 induction hf with
 |zero=>exact DK λj _=>C0 (by simp)
 |add r d hr _ ih=>
  rename_i f0 _
  dsimp only
  have e:Bu k (λi=>(f0 i+d*r.getD i 0)*c i)=Bu k (λi=>f0 i*c i)+d*Bu k (λi=>r.getD i 0*c i):=by
   rw[←EK];exact CR λj _=>by grind
  rw[e]
  exact Ec ih (Fy d (h r hr))
 |cgr _ hc ih=>
  refine C1 (FY λj hj=>FG _ (hc j (by omega))) (C1 ih (FH (hc k (by omega))))
theorem Dh {n:Nat} {h:Nat->Int} {M:Int} (e: ∀j,j<n->0<=h j/\h j<=M):0<=Bu n h/\Bu n h<=M*n:=by
 induction n with
 |zero=>simp[Bu]
 |succ n ih=>
  have h1:=ih λj hj=>e j (by omega)
  have h2:=e n (by omega)
  rw[B5]
  have:M*((n+1:Nat):Int)=M*n+M:=by push_cast;grind
  omega
theorem G6 (hp:pr4 p) {s:ES} (hs:ESok p (k+1) N k s) {f u:Nat} (hf:f<k):0<=CP p s f u/\CP p s f u<p:=by
 have hpb:2<=p/\p<=7:=by unfold pr4 at hp;omega
 have hbl:=hs.bl
 unfold CP
 by_cases c:BE s.2.1 u<0
 ·rw[if_pos c];split<;>omega
 ·rw[if_neg c]
  have hm:(u:Int)∈s.2.1:=by
   by_cases hm:(u:Int)∈s.2.1
   ·exact hm
   ·rw[CC hm]at c;omega
  obtain⟨i,hi,g1,_⟩:=Cs hm
  rw[g1,Int.toNat_natCast]
  have:=Be (hs.t _ (B8 (l:=s.1) (i:=i) (d:= []) (by omega))) (show f<k+1 by omega)
  exact FE hp (by omega)
theorem G7 (hp:pr4 p) {s:ES} (hs:ESok p (k+1) N k s) {w:List Int} (hw:w∈B6 p k s):w.length=k/\ ∀x∈w,0<=x/\x<p:=by
 unfold B6 at hw
 obtain⟨f,hf,rfl⟩:=List.mem_map.1 hw
 obtain⟨u,hu,rfl⟩:=C8 hf
 rw[Int.toNat_natCast]
 refine⟨by simp[C2],λx hx=>?_⟩
 unfold C2 at hx
 obtain⟨v,_,rfl⟩:=List.mem_map.1 hx
 exact G6 hp hs hu
end
end T
open Go Go.Va
namespace T
def i64 (x:Int):Prop:= -9223372036854775808<=x/\x<=9223372036854775807
section
variable {c:List Int} {ar:Int}
def HX (t:List Int) (x:Int):Bool:=if x>0 then gd t (x-1) 0==1 else gd t (-x-1) 0==0
end
end T
open Go Go.Va
namespace T
abbrev NS:=Bool×Int×List (List (List Int))×List (List (List ByteArray))
abbrev NIn (σ:Type):=Int×List Int×σ×NS×List Int×Unit
abbrev GV (σ:Type):=List Int×σ×NS×List Int×Bool
def hM {σ:Type}:Nat->(Int×List Int×σ×NS×List Int×Unit×Int×Bool×List (List Int)×Int×Int)->Option (Int×List Int×σ×NS×List Int×Unit×Int×Bool)
 |0,_=>none
 |n+1,(t0,t1,t2,t3,t4,t5,t8,t9,t50,t51,t52)=>
 if decide (t52<t51)then
 if inb t52 t50 then
 if t9 then
 if t3.1=true then
 if inb t0 t3.2.2.2 then
 if inb t52 (gd t3.2.2.2 t0 [])then
 (E6 (gd t50 t52 []) t1).bind λr2=>
 (FC r2).bind λr3=>
 hM n (t0,t1,t2,t3,t4,(),t8,Xs (gd (gd t3.2.2.2 t0 []) t52 []) r3,t50,t51,w64 (t52+1))
 else none
 else none
 else none
 else
 hM n (t0,t1,t2,t3,t4,(),t8,false,t50,t51,w64 (t52+1))
 else none
 else
 some (t0,t1,t2,t3,t4,(),t8,t9)
def hL {σ:Type} (rec:NIn σ->Option (GV σ)):Nat->(Int×List Int×σ×NS×List Int×Unit×Int)->Option ((List Int×σ×NS×List Int×Unit)⊕(List Int×σ×NS×List Int×Unit×Bool))
 |0,_=>none
 |n+1,(t0,t1,t2,t3,t4,t5,t8)=>
 if t3.1=true then
 if decide (t8<t3.2.1)then
 if inb t0 t4 then
 if decide ((gd t4 t0 0)≥0)then
 if inb t0 t4 then
 if(gd t4 t0 0) !=t8 then
 hL rec n (t0,t1,t2,t3,t4,(),w64 (t8+1))
 else
 if inb t0 t1 then
 if t3.1=true then
 if inb t0 t3.2.2.1 then
 (hM Aa (t0,stt t1 t0 t8,t2,t3,t4,(),t8,true,gd t3.2.2.1 t0 [],((gd t3.2.2.1 t0 []).length:Int),0)).bind λs2=>
 if s2.2.2.2.2.2.2.2 then
 (rec (w64 (s2.1+1),s2.2.1,s2.2.2.1,s2.2.2.2.1,s2.2.2.2.2.1,())).bind λr3=>
 if !r3.2.2.2.2 then
 some (.inr (r3.1,r3.2.1,r3.2.2.1,r3.2.2.2.1,(),false))
 else
 hL rec n (s2.1,r3.1,r3.2.1,r3.2.2.1,r3.2.2.2.1,(),w64 (s2.2.2.2.2.2.2.1+1))
 else
 hL rec n (s2.1,s2.2.1,s2.2.2.1,s2.2.2.2.1,s2.2.2.2.2.1,(),w64 (s2.2.2.2.2.2.2.1+1))
 else none
 else none
 else none
 else none
 else
 if inb t0 t1 then
 if t3.1=true then
 if inb t0 t3.2.2.1 then
 (hM Aa (t0,stt t1 t0 t8,t2,t3,t4,(),t8,true,gd t3.2.2.1 t0 [],((gd t3.2.2.1 t0 []).length:Int),0)).bind λs4=>
 if s4.2.2.2.2.2.2.2 then
 (rec (w64 (s4.1+1),s4.2.1,s4.2.2.1,s4.2.2.2.1,s4.2.2.2.2.1,())).bind λr5=>
 if !r5.2.2.2.2 then
 some (.inr (r5.1,r5.2.1,r5.2.2.1,r5.2.2.2.1,(),false))
 else
 hL rec n (s4.1,r5.1,r5.2.1,r5.2.2.1,r5.2.2.2.1,(),w64 (s4.2.2.2.2.2.2.1+1))
 else
 hL rec n (s4.1,s4.2.1,s4.2.2.1,s4.2.2.2.1,s4.2.2.2.2.1,(),w64 (s4.2.2.2.2.2.2.1+1))
 else none
 else none
 else none
 else none
 else
 some (.inl (t1,t2,t3,t4,()))
 else none
def HM {σ:Type} (cb:List Int->σ->Option (σ×Bool)) (rec:NIn σ->Option (GV σ)) (x:NIn σ):Option (GV σ):=
 if x.1==(x.2.1.length:Int)then
  (cb x.2.1 x.2.2.1).bind λr1=>some (x.2.1,r1.1,x.2.2.2.1,x.2.2.2.2.1,r1.2)
 else
  (hL rec Aa (x.1,x.2.1,x.2.2.1,x.2.2.2.1,x.2.2.2.2.1,(),0)).bind λs2=>
   match s2 with
   | .inl s3=>some (s3.1,s3.2.1,s3.2.2.1,s3.2.2.2.1,true)
   | .inr s4=>some (s4.1,s4.2.1,s4.2.2.1,s4.2.2.2.1,s4.2.2.2.2.2)
def hF {σ:Type} (cb:List Int->σ->Option (σ×Bool)):Nat->NIn σ->Option (GV σ)
 |0,_=>none
 |d+1,x=>HM cb (hF cb d) x
section
variable {V n:Nat} {cs:List Con} {given:List Int}
end
end T
set_option linter.unusedVariables false
open Go Go.Va
namespace T
def EZ (code:List Int):Option (Bool):=
 some (decide ((code.length:Int)>65536))
def BL (c:(List Int)×Int×Int):Option (((List Int)×Int×Int)×Int):=
 if decide (c.2.1<(c.1.length:Int))then
 if inb c.2.1 c.1 then
 if decide ((w64 (c.2.1+1))<=(c.1.length:Int))then
 some ((c.1,(w64 (c.2.1+1),IntKind.wrap .u64 ((IntKind.wrap .u64 ((IntKind.wrap .u64 (c.2.2*6364136223846793005))+(IntKind.wrap .u64 (w64 (gd c.1 c.2.1 0)))))+550289))),w64 (gd c.1 c.2.1 0))
 else
 if(0:Int)<=40 then
 some ((c.1,(w64 (c.2.1+1),IntKind.wrap .u64 ((IntKind.wrap .u64 ((IntKind.wrap .u64 (c.2.2*6364136223846793005))+(IntKind.wrap .u64 (w64 (gd c.1 c.2.1 0)))))+550289))),w64 (Yil .u64 (YiD .u64 (IntKind.wrap .u64 ((IntKind.wrap .u64 ((IntKind.wrap .u64 (c.2.2*6364136223846793005))+(IntKind.wrap .u64 (w64 (gd c.1 c.2.1 0)))))+550289)) 40) 255))
 else none
 else none
 else
 if decide ((w64 (c.2.1+1))<=(c.1.length:Int))then
 some ((c.1,(w64 (c.2.1+1),IntKind.wrap .u64 ((IntKind.wrap .u64 ((IntKind.wrap .u64 (c.2.2*6364136223846793005))+(IntKind.wrap .u64 (0))))+550289))),0)
 else
 if(0:Int)<=40 then
 some ((c.1,(w64 (c.2.1+1),IntKind.wrap .u64 ((IntKind.wrap .u64 ((IntKind.wrap .u64 (c.2.2*6364136223846793005))+(IntKind.wrap .u64 (0))))+550289))),w64 (Yil .u64 (YiD .u64 (IntKind.wrap .u64 ((IntKind.wrap .u64 ((IntKind.wrap .u64 (c.2.2*6364136223846793005))+(IntKind.wrap .u64 (0))))+550289)) 40) 255))
 else none
def Al (c:(List Int)×Int×Int) (n_:Int):Option (((List Int)×Int×Int)×Int):=
 if decide (n_<=1)then
 some ((c.1,(c.2.1,c.2.2)),0)
 else
 (BL (c.1,(c.2.1,c.2.2))).bind λr1=>
 if decide (n_>200)then
 (BL (r1.1.1,(r1.1.2.1,r1.1.2.2))).bind λr2=>
 if n_≠0 then
 some ((r2.1.1,(r2.1.2.1,r2.1.2.2)),Int.tmod (w64 ((w64 (r1.2*256))+r2.2)) n_)
 else none
 else
 if n_≠0 then
 some ((r1.1.1,(r1.1.2.1,r1.1.2.2)),Int.tmod r1.2 n_)
 else none
def Ap (c:(List Int)×Int×Int) (list:List Int):Option (((List Int)×Int×Int)×Int):=
 (Al (c.1,(c.2.1,c.2.2)) (list.length:Int)).bind λr1=>
 if inb r1.2 list then
 some ((r1.1.1,(r1.1.2.1,r1.1.2.2)),gd list r1.2 0)
 else none
def B1 (c:(List Int)×Int×Int) (n_:Int):Option (((List Int)×Int×Int)×Bool):=
 (Al (c.1,(c.2.1,c.2.2)) n_).bind λr1=>
 some ((r1.1.1,(r1.1.2.1,r1.1.2.2)),r1.2==0)
def Bc:Nat->(((List Int)×Int×Int)×(Int×(Int×(List (List Int))))×Int×(Int×(Int×(List (List Int))))×Int×(List Int)×Int)->Option (((List Int)×Int×Int)×(Int×(Int×(List (List Int))))×Int×(Int×(Int×(List (List Int))))×Int×(List Int))
 |0,_=>none
 |n+1,(t0,t2,t3,t4,t5,t6,t7)=>
 if decide (t7<=t4.2.1)then
 (Al (t0.1,(t0.2.1,t0.2.2)) t3).bind λr4=>
 if t6.length+ [r4.2].length<=lim then
 Bc n ((r4.1.1,(r4.1.2.1,r4.1.2.2)),(t2.1,(t2.2.1,t2.2.2)),t3,(t4.1,(t4.2.1,t4.2.2)),t5,t6++ [r4.2],w64 (t7+1))
 else none
 else
 some ((t0.1,(t0.2.1,t0.2.2)),(t2.1,(t2.2.1,t2.2.2)),t3,(t4.1,(t4.2.1,t4.2.2)),t5,t6)
def As:Nat->(((List Int)×Int×Int)×(Int×(Int×(List (List Int))))×Int×(Int×(Int×(List (List Int))))×Int)->Option (((List Int)×Int×Int)×(Int×(Int×(List (List Int))))×Int×(Int×(Int×(List (List Int)))))
 |0,_=>none
 |n+1,(t0,t2,t3,t4,t5)=>
 if decide (t5>0)then
 (Bc Aa ((t0.1,(t0.2.1,t0.2.2)),(t2.1,(t2.2.1,t2.2.2)),t3,(t4.1,(t4.2.1,t4.2.2)),t5,[],0)).bind λs4=>
 if decide ((s4.2.2.2.1.2.2.length:Int)>0)then
 (B1 (s4.1.1,(s4.1.2.1,s4.1.2.2)) 4).bind λr5=>
 if r5.2 then
 if inb 0 s4.2.2.2.1.2.2 then
 (Al (r5.1.1,(r5.1.2.1,r5.1.2.2)) s4.2.2.1).bind λr6=>
 (CV s4.2.2.1 (gd s4.2.2.2.1.2.2 0 []) r6.2).bind λr7=>
 (B1 (r6.1.1,(r6.1.2.1,r6.1.2.2)) 2).bind λr8=>
 if r8.2 then
 (Al (r8.1.1,(r8.1.2.1,r8.1.2.2)) s4.2.2.1).bind λr9=>
 if inb s4.2.2.2.1.2.1 r7 then
 if s4.2.2.2.1.2.2.length+ [stt r7 s4.2.2.2.1.2.1 r9.2].length<=lim then
 As n ((r9.1.1,(r9.1.2.1,r9.1.2.2)),(s4.2.1.1,(s4.2.1.2.1,s4.2.1.2.2)),s4.2.2.1,(s4.2.2.2.1.1,(s4.2.2.2.1.2.1,s4.2.2.2.1.2.2++ [stt r7 s4.2.2.2.1.2.1 r9.2])),w64 (s4.2.2.2.2.1-1))
 else none
 else none
 else
 if s4.2.2.2.1.2.2.length+ [r7].length<=lim then
 As n ((r8.1.1,(r8.1.2.1,r8.1.2.2)),(s4.2.1.1,(s4.2.1.2.1,s4.2.1.2.2)),s4.2.2.1,(s4.2.2.2.1.1,(s4.2.2.2.1.2.1,s4.2.2.2.1.2.2++ [r7])),w64 (s4.2.2.2.2.1-1))
 else none
 else none
 else
 if s4.2.2.2.1.2.2.length+ [s4.2.2.2.2.2].length<=lim then
 As n ((r5.1.1,(r5.1.2.1,r5.1.2.2)),(s4.2.1.1,(s4.2.1.2.1,s4.2.1.2.2)),s4.2.2.1,(s4.2.2.2.1.1,(s4.2.2.2.1.2.1,s4.2.2.2.1.2.2++ [s4.2.2.2.2.2])),w64 (s4.2.2.2.2.1-1))
 else none
 else
 if s4.2.2.2.1.2.2.length+ [s4.2.2.2.2.2].length<=lim then
 As n ((s4.1.1,(s4.1.2.1,s4.1.2.2)),(s4.2.1.1,(s4.2.1.2.1,s4.2.1.2.2)),s4.2.2.1,(s4.2.2.2.1.1,(s4.2.2.2.1.2.1,s4.2.2.2.1.2.2++ [s4.2.2.2.2.2])),w64 (s4.2.2.2.2.1-1))
 else none
 else
 some ((t0.1,(t0.2.1,t0.2.2)),(t2.1,(t2.2.1,t2.2.2)),t3,(t4.1,(t4.2.1,t4.2.2)))
def A7:Nat->(((List Int)×Int×Int)×(Int×(Int×(List (List Int))))×(Int×(Int×(List (List Int)))))->Option (((List Int)×Int×Int)×(Int×(Int×(List (List Int))))×(Int×(Int×(List (List Int)))))
 |0,_=>none
 |n+1,(t0,t2,t4)=>
 (Al (t0.1,(t0.2.1,t0.2.2)) 2).bind λr14=>
 if decide ((t4.2.2.length:Int)<(w64 (8+r14.2)))then
 if 0<=(w64 (t4.2.1+1))/\(w64 (t4.2.1+1))<=(w64 (t4.2.1+1))/\(w64 (t4.2.1+1))<=lim then
 if t4.2.2.length+ [List.replicate (Int.toNat (w64 (t4.2.1+1))) (0:Int)].length<=lim then
 A7 n ((r14.1.1,(r14.1.2.1,r14.1.2.2)),(t2.1,(t2.2.1,t2.2.2)),(t4.1,(t4.2.1,t4.2.2++ [List.replicate (Int.toNat (w64 (t4.2.1+1))) (0:Int)])))
 else none
 else none
 else
 some ((r14.1.1,(r14.1.2.1,r14.1.2.2)),(t2.1,(t2.2.1,t2.2.2)),(t4.1,(t4.2.1,t4.2.2)))
def CK (t0:(List Int)×Int×Int):Option (((List Int)×Int×Int)×(Int×(Int×(List (List Int))))):=
 (Ap (t0.1,(t0.2.1,t0.2.2)) [2,2,3,3,5,7]).bind λr1=>
 (Ap (r1.1.1,(r1.1.2.1,r1.1.2.2)) [2,3,3,4,1,5,0,8]).bind λr2=>
 (Ap (r2.1.1,(r2.1.2.1,r2.1.2.2)) [1,2,2,3,3,4,0]).bind λr3=>
 (As Aa ((r3.1.1,(r3.1.2.1,r3.1.2.2)),(0,(0,[])),r1.2,(r1.2,(r2.2,[])),r3.2)).bind λs4=>
 (Al (s4.1.1,(s4.1.2.1,s4.1.2.2)) 40).bind λr5=>
 if r5.2==0 then
 (Ap (r5.1.1,(r5.1.2.1,r5.1.2.2)) [4,1,0,11,9]).bind λr6=>
 some ((r6.1.1,(r6.1.2.1,r6.1.2.2)),(r6.2,(s4.2.2.2.2.1,s4.2.2.2.2.2)))
 else
 if r5.2==1 then
 (Ap (r5.1.1,(r5.1.2.1,r5.1.2.2)) [(-1),9,w64 (s4.2.2.2.2.1+1)]).bind λr7=>
 some ((r7.1.1,(r7.1.2.1,r7.1.2.2)),(s4.2.2.2.1,(r7.2,s4.2.2.2.2.2)))
 else
 if r5.2==2 then
 (A7 Aa ((r5.1.1,(r5.1.2.1,r5.1.2.2)),(s4.2.1.1,(s4.2.1.2.1,s4.2.1.2.2)),(s4.2.2.2.1,(s4.2.2.2.2.1,s4.2.2.2.2.2)))).bind λs8=>
 some ((s8.1.1,(s8.1.2.1,s8.1.2.2)),(s8.2.2.1,(s8.2.2.2.1,s8.2.2.2.2)))
 else
 if r5.2==3 then
 if decide ((s4.2.2.2.2.2.length:Int)>0)then
 if inb 0 s4.2.2.2.2.2 then
 (Ap (r5.1.1,(r5.1.2.1,r5.1.2.2)) [(-1),s4.2.2.1]).bind λr9=>
 if inb 0 (gd s4.2.2.2.2.2 0 [])then
 some ((r9.1.1,(r9.1.2.1,r9.1.2.2)),(s4.2.2.2.1,(s4.2.2.2.2.1,stt s4.2.2.2.2.2 0 (stt (gd s4.2.2.2.2.2 0 []) 0 r9.2))))
 else none
 else none
 else
 some ((r5.1.1,(r5.1.2.1,r5.1.2.2)),(s4.2.2.2.1,(s4.2.2.2.2.1,s4.2.2.2.2.2)))
 else
 some ((r5.1.1,(r5.1.2.1,r5.1.2.2)),(s4.2.2.2.1,(s4.2.2.2.2.1,s4.2.2.2.2.2)))
def Dg (code:List Int):Option ((Int×(Int×(List (List Int))))):=
 (CK (code,(0,0))).bind λr1=>
 some (r1.2.1,(r1.2.2.1,r1.2.2.2))
def Cw:Nat->((List Int)×(List Int)×Int)->Option ((Unit)⊕(Bool))
 |0,_=>none
 |n+1,(a,b,i)=>
 if decide (i<(a.length:Int))then
 if inb i a then
 if inb i b then
 if(gd a i 0) !=(gd b i 0)then
 some (.inr false)
 else
 Cw n (a,b,w64 (i+1))
 else none
 else none
 else
 some (.inl ())
def Cm (a:List Int) (b:List Int):Option (Bool):=
 if(a.length:Int) !=(b.length:Int)then
  some false
 else
  (Cw Aa (a,b,0)).bind λs1=>
   match s1 with
   | .inl s2=>
    some true
   | .inr s3=>
    some s3
end T
open Go Go.Va
namespace T
section
variable {p:Int} {V W N k:Nat} {A B C D:List (List Int)} {f g:Nat->Int}
def HY (p:Int) (k:Nat) (A:List (List Int)) (c:Nat->Int):Prop:= ∀r∈A,cg p (Bu k λi=>r.getD i 0*c i) (r.getD k 0)
theorem GR (hp:pr4 p) (hA: ∀r∈A,Ak p (k+1) r) (hf:BV k (Ah p A k)=false):HY p k A (CE k (Ah p A k)):=by
 have hs:=Bs hp hA k (by omega)
 have hrr:=E4 hp hA k (by omega)
 have hsp:=FM hp hA (V:=k+1) (Nat.le_refl _) k (by omega)
 generalize Ah p A k=s at*
 have h1: ∀r∈s.1++s.2.2,cg p (Bu k λi=>r.getD i 0*CE k s i) (r.getD k 0):=by
  intro r hr
  rcases List.mem_append.1 hr with hr|hr
  ·obtain⟨i,hi,rfl⟩:=List.mem_iff_getElem.1 hr
   have hb:i<s.2.1.length:=by have:=hs.bl;omega
   have hbv:=hs.bv _ (List.getElem_mem hb)
   have hbn:s.2.1[i]=(((s.2.1[i]).toNat:Nat):Int):=by omega
   have hpos:=DI hs.bn hb hbn
   have e1:CE k s (s.2.1[i]).toNat=(s.1[i]).getD k 0:=by
    unfold CE
    rw[hpos,if_neg (by omega),Int.toNat_natCast,Ab hi]
   have e2:(s.1[i]).getD (s.2.1[i]).toNat 0=1:=by
    have:=hrr.piv i hi i hi
    rw[Ab hi,Ab hb,if_pos rfl]at this
    exact this
   have e3:=EL (n:=k) (m:=(s.2.1[i]).toNat) (h:=λu=>(s.1[i]).getD u 0*CE k s u) (by omega) λu hu hne=>by
    by_cases hm:(u:Int)∈s.2.1
    ·obtain⟨j,hj,hj1,hj2⟩:=Cs hm
     have hji:j≠i:=λe=>by subst e;rw[hj2]at hne;exact hne (by omega)
     have:=hrr.piv i hi j (by have:=hs.bl;omega)
     rw[Ab hi,Ab hj,if_neg (λe=>hji e.symm),hj2,Int.toNat_natCast]at this
     rw[this];simp
    ·have:CE k s u=0:=by unfold CE;rw[if_pos (Bt.2 hm)]
     rw[this];simp
   rw[e3]
   exact C0 (by rw[e1,e2];simp)
  ·have hz:=hrr.zl r hr
   have h0:nzB k r=false:=by
    unfold BV at hf
    rw[List.any_eq_false]at hf
    simpa using hf r hr
   have h0:r.getD k 0=0:=by unfold nzB at h0;simpa using h0
   rw[h0]
   exact DK λj hj=>by rw[hz j hj];exact C0 (by simp)
 intro r hr
 exact HD h1 ((hsp _).1 (Sp.mem hr))
end
end T
open Go Go.Va
namespace T
abbrev Ep:=List Int×Int×Int
def Cur (k:Nat) (c:Ep):Prop:=c.1.length<=65536/\(∀x∈c.1,0<=x/\x<256)/\0<=c.2.1/\c.2.1<=(k:Int)
theorem Hp (x:Int):0<=w64 (Yil .u64 x 255)/\w64 (Yil .u64 x 255)<256:=by
 have h1:(BitVec.ofInt 64 x&&&BitVec.ofInt 64 255).toNat<=255:=by
  rw[BitVec.toNat_and]
  have:(BitVec.ofInt 64 255).toNat=255:=by decide
  rw[this]
  exact Nat.and_le_right
 have h2:Yil .u64 x 255=((BitVec.ofInt 64 x&&&BitVec.ofInt 64 255).toNat:Int):=by
  unfold Yil
  have e: ∀n:Nat,n<=255->IntKind.wrap .u64 (n:Int)=(n:Int):=λn hn=>by
   simp[IntKind.wrap,IntKind.bits,IntKind.signed]
   omega
  exact e _ h1
 rw[h2,A8 (by omega) (by omega)]
 omega
theorem FQ {k:Nat} {c:Ep} (h:Cur k c) (hk:k<=1000000000): ∃c' x,BL c=some (c',x)/\Cur (k+1) c'/\0<=x/\x<256:=by
 obtain⟨code,at',seed⟩:=c
 obtain⟨h1,h2,h3,h4⟩:=h
 dsimp only at h1 h2 h3 h4
 have hw:w64 (at'+1)=at'+1:=A8 (by omega) (by omega)
 have hC: ∀s,Cur (k+1) (code,(at'+1,s)):=λs=>⟨h1,h2,by dsimp only;omega,by dsimp only;omega⟩
 unfold BL
 simp only[hw]
 by_cases hc:at'<(code.length:Int)
 ·have hin:inb at' code:=⟨h3,hc⟩
  have hle:at'+1<=(code.length:Int):=by omega
  have hb:0<=gd code at' 0/\gd code at' 0<256:=by
   have:gd code at' 0=code.getD at'.toNat 0:=rfl
   rw[this,Ab (by omega)]
   exact h2 _ (List.getElem_mem _)
  rw[if_pos (decide_eq_true hc),if_pos hin,if_pos (decide_eq_true hle)]
  exact⟨_,_,rfl,hC _,by rw[A8 (by omega) (by omega)];exact hb⟩
 ·have hle: ¬at'+1<=(code.length:Int):=by omega
  rw[if_neg (by simpa using hc),if_neg (by simpa using hle),if_pos (by decide)]
  exact⟨_,_,rfl,hC _,Hp _⟩
theorem Df {k:Nat} {c:Ep} (h:Cur k c) (hk:k<=100000000) (n:Int) (hn:n<=1000000): ∃c' x,Al c n=some (c',x)/\Cur (k+2) c'/\0<=x/\(1<=n->x<n)/\(n<=1->x=0):=by
 have mono: ∀ {c:Ep} {i j:Nat},i<=j->Cur i c->Cur j c:=λhij ⟨a,b,d,e⟩=>⟨a,b,d,by omega⟩
 unfold Al
 by_cases h1:n<=1
 ·rw[if_pos (decide_eq_true h1)]
  exact⟨_,_,rfl,mono (by omega) h,by omega,λ_=>by omega,λ_=>rfl⟩
 ·rw[if_neg (by simpa using h1)]
  obtain⟨c1,x1,e1,g1,a1,b1⟩:=FQ h (by omega)
  have e1:BL (c.1,(c.2.1,c.2.2))=_:=e1
  simp only[e1,Option.bind_some]
  by_cases h2:n>200
  ·obtain⟨c2,x2,e2,g2,a2,b2⟩:=FQ g1 (by omega)
   have e2:BL (c1.1,(c1.2.1,c1.2.2))=_:=e2
   rw[if_pos (decide_eq_true h2)]
   simp only[e2,Option.bind_some]
   rw[if_pos (by omega)]
   have w1:w64 (x1*256)=x1*256:=A8 (by omega) (by omega)
   have w2:w64 (x1*256+x2)=x1*256+x2:=A8 (by omega) (by omega)
   refine⟨_,_,rfl,g2,?_,λ_=>?_,λh=>absurd h h1⟩
   ·rw[w1,w2,Int.tmod_eq_emod_of_nonneg (by omega)];exact Int.emod_nonneg _ (by omega)
   ·rw[w1,w2,Int.tmod_eq_emod_of_nonneg (by omega)];exact Int.emod_lt_of_pos _ (by omega)
  ·rw[if_neg (by simpa using h2),if_pos (by omega)]
   refine⟨_,_,rfl,mono (by omega) g1,?_,λ_=>?_,λh=>absurd h h1⟩
   ·rw[Int.tmod_eq_emod_of_nonneg a1];exact Int.emod_nonneg _ (by omega)
   ·rw[Int.tmod_eq_emod_of_nonneg a1];exact Int.emod_lt_of_pos _ (by omega)
theorem Dk {k:Nat} {c:Ep} (h:Cur k c) (hk:k<=100000000) {l:List Int} (h0:0<l.length) (hl:l.length<=1000): ∃c' x,Ap c l=some (c',x)/\Cur (k+2) c'/\x∈l:=by
 obtain⟨c1,x1,e1,g1,a1,b1,_⟩:=Df h hk (l.length:Int) (by omega)
 have b1:=b1 (by omega)
 unfold Ap
 have e1:Al (c.1,(c.2.1,c.2.2)) (l.length:Int)=_:=e1
 simp only[e1,Option.bind_some]
 have hin:inb x1 l:=⟨a1,b1⟩
 rw[if_pos hin]
 refine⟨_,_,rfl,g1,?_⟩
 have:gd l x1 0=l.getD x1.toNat 0:=rfl
 rw[this]
 exact B8 (by omega)
theorem GG {k:Nat} {c:Ep} (h:Cur k c) (hk:k<=100000000) (n:Int) (hn:n<=1000000): ∃c' x,B1 c n=some (c',x)/\Cur (k+2) c':=by
 obtain⟨c1,x1,e1,g1,_⟩:=Df h hk n hn
 unfold B1
 have e1:Al (c.1,(c.2.1,c.2.2)) n=_:=e1
 simp only[e1,Option.bind_some]
 exact⟨_,_,rfl,g1⟩
theorem Cur.mono {c:Ep} {i j:Nat} (hij:i<=j):Cur i c->Cur j c:=λ⟨a,b,d,e⟩=>⟨a,b,d,by omega⟩
end T
open Go Go.Va
namespace T
abbrev Ho:=Int×(Int×List (List Int))
section
variable {p:Int} {V:Nat}
theorem GZ (hp:pr4 p) (hV:V<=8) {t2:Ho} {pr:Int} {rows:List (List Int)} {t5:Int}: ∀(d v f k:Nat) (c:Ep) (row:List Int),v+d=V+1->d<f->Cur k c->k+2*d<=1000000->Ak p v row->
  ∃c' row',Bc f (c,t2,p,(pr,((V:Int),rows)),t5,row,(v:Int))=some (c',t2,p,(pr,((V:Int),rows)),t5,row')/\Cur (k+2*d) c'/\Ak p (V+1) row':=by
 intro d
 induction d with
 |zero=>
  intro v f k c row hv hf hc hk hr
  obtain⟨f,rfl⟩: ∃z,f=z+1:=⟨f-1,by omega⟩
  have:v=V+1:=by omega
  subst this
  refine⟨c,row,?_,hc,hr⟩
  simp only[Bc]
  rw[if_neg (by rw[decide_eq_true_eq];omega)]
 |succ d ih=>
  intro v f k c row hv hf hc hk hr
  obtain⟨f,rfl⟩: ∃z,f=z+1:=⟨f-1,by omega⟩
  have hp':2<=p/\p<=7:=by unfold pr4 at hp;omega
  obtain⟨c1,x1,e1,g1,a1,b1,_⟩:=Df hc (by omega) p (by omega)
  have b1:=b1 (by omega)
  have e1:Al (c.1,(c.2.1,c.2.2)) p=_:=e1
  obtain⟨c',row',e2,g2,r2⟩:=ih (v+1) f (k+2) c1 (row++ [x1]) (by omega) (by omega) g1 (by omega) ⟨by rw[List.length_append,hr.1];rfl,λy hy=>by
   rcases List.mem_append.1 hy with hy|hy
   ·exact hr.2 y hy
   ·rw[List.mem_singleton.1 hy];exact⟨a1,b1⟩⟩
  have hlen:=hr.1
  refine⟨c',row',?_,g2.mono (by omega),r2⟩
  simp only[Bc,e1,Option.bind_some,Ac (show v<4611686018427387904 by omega)]
  rw[if_pos (by simp;omega),if_pos (by rw[List.length_singleton];unfold lim;omega)]
  exact e2
theorem Gn (hp:pr4 p) (hV:V<=8) {t2:Ho}: ∀(d f k:Nat) (c:Ep) (rows:List (List Int)),d<f->Cur k c->k+40*d<=1000000->(∀r∈rows,Ak p (V+1) r)->rows.length+d<=100->
  ∃c' rows',As f (c,t2,p,(p,((V:Int),rows)),(d:Int))=some (c',t2,p,(p,((V:Int),rows')))/\Cur (k+40*d) c'/\(∀r∈rows',Ak p (V+1) r)/\rows'.length<=rows.length+d:=by
 intro d
 induction d with
 |zero=>
  intro f k c rows hf hc hk hr hl
  obtain⟨f,rfl⟩: ∃z,f=z+1:=⟨f-1,by omega⟩
  refine⟨c,rows,?_,hc,hr,by omega⟩
  simp only[As]
  rw[if_neg (by simp)]
 |succ d ih=>
  intro f k c rows hf hc hk hr hl
  obtain⟨f,rfl⟩: ∃z,f=z+1:=⟨f-1,by omega⟩
  have hp':2<=p/\p<=7:=by unfold pr4 at hp;omega
  obtain⟨c1,row,e1,g1,r1⟩:=GZ (t2:=t2) (pr:=p) (rows:=rows) (t5:=((d+1:Nat):Int)) hp hV (V+1) 0 Aa k c [] (by omega) (by unfold Aa;omega) hc (by omega) ⟨rfl,by simp⟩
  have e1:Bc Aa ((c.1,(c.2.1,c.2.2)),(t2.1,(t2.2.1,t2.2.2)),p,(p,((V:Int),rows)),((d+1:Nat):Int),[],0)=_:=e1
  have hw:w64 (((d+1:Nat):Int)-1)=(d:Int):=by rw[A8 (by omega) (by omega)];omega
  have more: ∀(c2:Ep) (k2:Nat) (row2:List Int),Cur k2 c2->k2<=k+40->Ak p (V+1) row2-> ∃c' rows',(if rows.length+ [row2].length<=lim then As f ((c2.1,(c2.2.1,c2.2.2)),(t2.1,(t2.2.1,t2.2.2)),p,(p,((V:Int),rows++ [row2])),w64 (((d+1:Nat):Int)-1))else none)=some (c',t2,p,(p,((V:Int),rows')))/\Cur (k+40*(d+1)) c'/\(∀r∈rows',Ak p (V+1) r)/\rows'.length<=rows.length+(d+1):=by
   intro c2 k2 row2 hc2 hk2 hr2
   obtain⟨c',rows',e,g,r,l⟩:=ih f (k+40) c2 (rows++ [row2]) (by omega) (hc2.mono hk2) (by omega) (λr h=>by
    rcases List.mem_append.1 h with h|h
    ·exact hr r h
    ·rw[List.mem_singleton.1 h];exact hr2) (by rw[List.length_append,List.length_singleton];omega)
   rw[if_pos (by rw[List.length_singleton];unfold lim;omega),hw]
   exact⟨c',rows',e,g.mono (by omega),r,by rw[List.length_append,List.length_singleton]at l;omega⟩
  simp only[As]
  rw[if_pos (by simp)]
  simp only[e1,Option.bind_some]
  by_cases h0:(rows.length:Int)>0
  ·rw[if_pos (decide_eq_true h0)]
   obtain⟨c2,b2,e2,g2⟩:=GG g1 (by omega) 4 (by omega)
   have e2:B1 (c1.1,(c1.2.1,c1.2.2)) 4=_:=e2
   simp only[e2,Option.bind_some]
   cases b2 with
   |false=>
    simp only[Bool.false_eq_true,if_false]
    exact more c2 _ row g2 (by omega) r1
   |true=>
    have hr0:Ak p (V+1) (gd rows 0 []):=by
     have:gd rows 0 []=rows.getD 0 []:=rfl
     rw[this];exact hr _ (B8 (by omega))
    have hin0:inb (0:Int) rows:=by unfold inb;omega
    obtain⟨c3,x3,e3,g3,a3,b3,_⟩:=Df g2 (by omega) p (by omega)
    have b3:=b3 (by omega)
    have e3:Al (c2.1,(c2.2.1,c2.2.2)) p=_:=e3
    have e4:=DQ hp (show V+1<=1000 by omega) hr0 ⟨a3,b3⟩
    have k4:=DC hp hr0 ⟨a3,b3⟩
    obtain⟨c5,b5,e5,g5⟩:=GG g3 (by omega) 2 (by omega)
    have e5:B1 (c3.1,(c3.2.1,c3.2.2)) 2=_:=e5
    simp only[if_true,hin0,e3,e4,e5,Option.bind_some]
    cases b5 with
    |false=>
     simp only[Bool.false_eq_true,if_false]
     exact more c5 _ _ g5 (by omega) k4
    |true=>
     obtain⟨c6,x6,e6,g6,a6,b6,_⟩:=Df g5 (by omega) p (by omega)
     have b6:=b6 (by omega)
     have e6:Al (c5.1,(c5.2.1,c5.2.2)) p=_:=e6
     have hin:inb (V:Int) (Au p x3 (gd rows 0 [])):=by unfold inb;rw[k4.1];omega
     simp only[if_true,e6,Option.bind_some]
     rw[if_pos hin]
     refine more c6 _ _ g6 (by omega) ⟨by rw[Bk,List.length_set];exact k4.1,λy hy=>?_⟩
     rw[Bk]at hy
     rcases List.mem_or_eq_of_mem_set hy with hy|hy
     ·exact k4.2 y hy
     ·rw[hy];exact⟨a6,b6⟩
  ·rw[if_neg (by simpa using h0)]
   exact more c1 _ row g1 (by omega) r1
theorem HL (hV:V<=8) {t2:Ho} {p:Int}: ∀(d f k:Nat) (c:Ep) (rows:List (List Int)),rows.length+d=9->d<f->Cur k c->k+2*d<=1000000->(∀r∈rows,r.length<=9)->
  ∃c' rows',A7 f (c,t2,(p,((V:Int),rows)))=some (c',t2,(p,((V:Int),rows')))/\Cur (k+2*(d+1)) c'/\(∀r∈rows',r.length<=9)/\rows'.length<=9:=by
 intro d
 induction d with
 |zero=>
  intro f k c rows hl hf hc hk hr
  obtain⟨f,rfl⟩: ∃z,f=z+1:=⟨f-1,by omega⟩
  obtain⟨c1,x1,e1,g1,a1,b1,_⟩:=Df hc (by omega) 2 (by omega)
  have b1:=b1 (by omega)
  have e1:Al (c.1,(c.2.1,c.2.2)) 2=_:=e1
  refine⟨c1,rows,?_,g1,hr,by omega⟩
  have hw:w64 (8+x1)=8+x1:=A8 (by omega) (by omega)
  simp only[A7,e1,Option.bind_some,hw]
  rw[if_neg (by simp;omega)]
 |succ d ih=>
  intro f k c rows hl hf hc hk hr
  obtain⟨f,rfl⟩: ∃z,f=z+1:=⟨f-1,by omega⟩
  obtain⟨c1,x1,e1,g1,a1,b1,_⟩:=Df hc (by omega) 2 (by omega)
  have b1:=b1 (by omega)
  have e1:Al (c.1,(c.2.1,c.2.2)) 2=_:=e1
  have hw:w64 (8+x1)=8+x1:=A8 (by omega) (by omega)
  have hwV:w64 ((V:Int)+1)=(V:Int)+1:=A8 (by omega) (by omega)
  simp only[A7,e1,Option.bind_some,hw,hwV]
  by_cases h:(rows.length:Int)<8+x1
  ·obtain⟨c',rows',e,g,r,l⟩:=ih f (k+2) c1 (rows++ [List.replicate (Int.toNat ((V:Int)+1)) 0]) (by simp;omega) (by omega) g1 (by omega) (λr h=>by
    rcases List.mem_append.1 h with h|h
    ·exact hr r h
    ·rw[List.mem_singleton.1 h,List.length_replicate];omega)
   refine⟨c',rows',?_,g.mono (by omega),r,l⟩
   rw[if_pos (decide_eq_true h),if_pos (by unfold lim;omega),if_pos (by rw[List.length_singleton];unfold lim;omega)]
   exact e
  ·rw[if_neg (by simpa using h)]
   exact⟨c1,rows,rfl,g1.mono (by omega),hr,by omega⟩
theorem Gb {k:Nat} {c:Ep} (hc:Cur k c) (hk:k<=100000): ∃c' l,CK c=some (c',l)/\Cur (k+1000) c'/\l.2.2.length<=9/\(∀r∈l.2.2,r.length<=9)/\l.1<=1000:=by
 obtain⟨c1,p,e1,g1,m1⟩:=Dk hc (by omega) (l:= [2,2,3,3,5,7]) (by simp) (by simp)
 obtain⟨c2,v,e2,g2,m2⟩:=Dk g1 (by omega) (l:= [2,3,3,4,1,5,0,8]) (by simp) (by simp)
 obtain⟨c3,m,e3,g3,m3⟩:=Dk g2 (by omega) (l:= [1,2,2,3,3,4,0]) (by simp) (by simp)
 have hp:pr4 p:=by simp at m1;unfold pr4;omega
 have hv:0<=v/\v<=8:=by simp at m2;omega
 have hm:0<=m/\m<=4:=by simp at m3;omega
 obtain⟨V,rfl⟩: ∃V:Nat,v=(V:Int):=⟨v.toNat,by omega⟩
 obtain⟨M,rfl⟩: ∃M:Nat,m=(M:Int):=⟨m.toNat,by omega⟩
 have hp':2<=p/\p<=7:=by unfold pr4 at hp;omega
 obtain⟨c4,rows,e4,g4,r4,l4⟩:=Gn (t2:=(0,(0,[]))) hp (show V<=8 by omega) M Aa (k+6) c3 [] (by unfold Aa;omega) g3 (by omega) (by simp) (by simp;omega)
 obtain⟨c5,x5,e5,g5,a5,b5,_⟩:=Df g4 (by omega) 40 (by omega)
 have e1:Ap (c.1,(c.2.1,c.2.2)) [2,2,3,3,5,7]=_:=e1
 have e2:Ap (c1.1,(c1.2.1,c1.2.2)) [2,3,3,4,1,5,0,8]=_:=e2
 have e3:Ap (c2.1,(c2.2.1,c2.2.2)) [1,2,2,3,3,4,0]=_:=e3
 have e4:As Aa ((c3.1,(c3.2.1,c3.2.2)),(0,(0,[])),p,(p,((V:Int),[])),(M:Int))=_:=e4
 have e5:Al (c4.1,(c4.2.1,c4.2.2)) 40=_:=e5
 have hlen:rows.length<=4:=by simp at l4;omega
 have hrl: ∀r∈rows,r.length<=9:=λr hr=>by have:=(r4 r hr).1;omega
 unfold CK
 simp only[e1,e2,e3,e4,e5,Option.bind_some]
 by_cases h0:x5=0
 ·rw[if_pos (by simpa using h0)]
  obtain⟨c6,x6,e6,g6,m6⟩:=Dk g5 (by omega) (l:= [4,1,0,11,9]) (by simp) (by simp)
  have e6:Ap (c5.1,(c5.2.1,c5.2.2)) [4,1,0,11,9]=_:=e6
  simp only[e6,Option.bind_some]
  exact⟨_,_,rfl,g6.mono (by omega),by dsimp only;omega,hrl,by simp at m6;dsimp only;omega⟩
 ·rw[if_neg (by simpa using h0)]
  by_cases h1:x5=1
  ·rw[if_pos (by simpa using h1)]
   obtain⟨c6,x6,e6,g6,m6⟩:=Dk g5 (by omega) (l:= [(-1),9,w64 ((V:Int)+1)]) (by simp) (by simp)
   have e6:Ap (c5.1,(c5.2.1,c5.2.2)) [(-1),9,w64 ((V:Int)+1)]=_:=e6
   simp only[e6,Option.bind_some]
   exact⟨_,_,rfl,g6.mono (by omega),by dsimp only;omega,hrl,by dsimp only;omega⟩
  ·rw[if_neg (by simpa using h1)]
   by_cases h2:x5=2
   ·rw[if_pos (by simpa using h2)]
    obtain⟨c6,rows6,e6,g6,r6,l6⟩:=HL (t2:=(0,(0,[]))) (p:=p) (show V<=8 by omega) (9-rows.length) Aa _ c5 rows (by omega) (by unfold Aa;omega) g5 (by omega) hrl
    have e6:A7 Aa ((c5.1,(c5.2.1,c5.2.2)),(0,(0,[])),(p,((V:Int),rows)))=_:=e6
    simp only[e6,Option.bind_some]
    exact⟨_,_,rfl,g6.mono (by omega),l6,r6,by dsimp only;omega⟩
   ·rw[if_neg (by simpa using h2)]
    by_cases h3:x5=3
    ·rw[if_pos (by simpa using h3)]
     by_cases h4:(rows.length:Int)>0
     ·rw[if_pos (decide_eq_true h4),if_pos (show inb (0:Int) rows by unfold inb;omega)]
      obtain⟨c6,x6,e6,g6,m6⟩:=Dk g5 (by omega) (l:= [(-1),p]) (by simp) (by simp)
      have e6:Ap (c5.1,(c5.2.1,c5.2.2)) [(-1),p]=_:=e6
      simp only[e6,Option.bind_some]
      have hg0:gd rows 0 []=rows.getD 0 []:=rfl
      have hm0:rows.getD 0 []∈rows:=B8 (by omega)
      have hl0:=(r4 _ hm0).1
      rw[if_pos (show inb (0:Int) (gd rows 0 []) by rw[hg0];unfold inb;omega)]
      refine⟨_,_,rfl,g6.mono (by omega),?_,λr hr=>?_,by dsimp only;omega⟩
      ·show(stt rows 0 _).length<=9
       unfold stt;rw[List.length_set];omega
      ·have hr:r∈rows.set 0 ((gd rows 0 []).set 0 x6):=hr
       rcases List.mem_or_eq_of_mem_set hr with hr|hr
       ·exact hrl r hr
       ·rw[hr,List.length_set,hg0];omega
     ·rw[if_neg (by simpa using h4)]
      exact⟨_,_,rfl,g5.mono (by omega),by dsimp only;omega,hrl,by dsimp only;omega⟩
    ·rw[if_neg (by simpa using h3)]
     exact⟨_,_,rfl,g5.mono (by omega),by dsimp only;omega,hrl,by dsimp only;omega⟩
end
end T
open Go Go.Va
namespace T
def B9 (a:Lin):List Int×Bool:=if BT a then(if BV a.2.1.toNat (Ah a.1 a.2.2 a.2.1.toNat)then([],false)else(CD a.2.1.toNat (Ah a.1 a.2.2 a.2.1.toNat),true))else([],false)
section
variable {a:Lin}
theorem Du (h:DW a):BG a=some (B9 a)/\Ct a=some (B9 a):=by
 obtain⟨p,v,rows⟩:=a
 unfold BG Ct B9
 rw[Bm h,Ca h]
 cases hg:BT (p,v,rows)with
 |false=>exact⟨rfl,rfl⟩
 |true=>
  obtain⟨hp,V,hv,hV,hN,hr⟩:=DB hg
  dsimp only at hp hv hN hr
  subst hv
  have hs:=Bs hp hr V (by omega)
  unfold Am
  have e1:=CN hp (show V<=V+1 by omega) (by omega) hr (by omega)
  have e2:=Fq hp (show V<V+1 by omega) (by omega) hr (by omega)
  have e3:=GD hp hs (by omega) (by omega) (by omega)
  simp only[e1,e2,e3,Option.bind_some,Bool.not_true,Bool.false_eq_true,if_false,if_true]
  exact⟨rfl,rfl⟩
theorem DT (hg:BT a=true):pr4 a.1/\(a.2.1.toNat:Int)=a.2.1/\a.2.1.toNat<=8/\a.2.2.length<=8/\ ∀r∈a.2.2,Ak a.1 (a.2.1.toNat+1) r:=by
 obtain⟨hp,V,hv,hV,hN,hr⟩:=DB hg
 have e:a.2.1.toNat=V:=by rw[hv];rfl
 rw[e]
 exact⟨hp,hv.symm,hV,hN,hr⟩
end
theorem EM {x y:List Int} (h:x.length<=1048576):Cm x y=some (decide (x=y)):=by
 unfold Cm
 by_cases hl:x.length=y.length
 ·rw[if_neg (by simp[hl])]
  rw[eqX x y hl (λn i=>Cw n (x,y,i)) (λn k h1 h2=>?_) (λn=>?_) (n:=Aa) (by unfold Aa;omega)]
  ·by_cases e:x=y<;>simp[e]
  ·simp only[Cw,Ae,AJ h1,AJ h2,Ac (show k<4611686018427387904 by omega)]
   by_cases e:x[k]=y[k]<;>simp[h1,h2,e]
  ·simp[Cw]
 ·have:x≠y:=λe=>hl (by rw[e])
  rw[if_pos (by simp;omega)];simp[this]
end T
set_option linter.unusedVariables false
open Go Go.Va
namespace T
def Dd (list:List (List Int)) (t:List Int):Option ((List (List Int))):=
 (DG list t).bind λr1=>
 if r1.2 then
 some list
 else
 if(0:Int)<=0/\0<=r1.1/\r1.1<=(list.length:Int)then
 if([]:List (List Int)).length+((list.take (Int.toNat r1.1)).drop (Int.toNat 0)).length<=lim then
 if([]++((list.take (Int.toNat r1.1)).drop (Int.toNat 0))).length+ [t].length<=lim then
 if(0:Int)<=r1.1/\r1.1<=(list.length:Int)/\(list.length:Int)<=(list.length:Int)then
 if(([]++((list.take (Int.toNat r1.1)).drop (Int.toNat 0)))++ [t]).length+((list.take (Int.toNat (list.length:Int))).drop (Int.toNat r1.1)).length<=lim then
 some ((([]++((list.take (Int.toNat r1.1)).drop (Int.toNat 0)))++ [t])++((list.take (Int.toNat (list.length:Int))).drop (Int.toNat r1.1)))
 else none
 else none
 else none
 else none
 else none
end T
open Go Go.Va
namespace T
def Zn (cmp:List Int->List Int->Int) (rows:List (List Int)):List (List Int):=rows.mergeSort (λx y=>!decide (cmp y x<0))
def cmpT (s t:List Int):Int:=if s.length<t.length then-1 else if t.length<s.length then 1 else cmpL s t
theorem cmpT_refl (s:List Int):cmpT s s=0:=by unfold cmpT;rw[if_neg (by omega),if_neg (by omega),cmpL_refl]
theorem cmpT_symm (s t:List Int):cmpT t s= -cmpT s t:=by
 unfold cmpT
 by_cases h1:s.length<t.length
 ·rw[if_neg (by omega),if_pos h1,if_pos h1];rfl
 ·by_cases h2:t.length<s.length
  ·rw[if_pos h2,if_neg h1,if_pos h2]
  ·rw[if_neg h2,if_neg h1,if_neg h1,if_neg h2,cmpL_symm]
theorem cmpT_eq {s t:List Int} (h:cmpT s t=0):s=t:=by
 unfold cmpT at h
 by_cases h1:s.length<t.length
 ·rw[if_pos h1]at h;exact absurd h (by decide)
 ·rw[if_neg h1]at h
  by_cases h2:t.length<s.length
  ·rw[if_pos h2]at h;exact absurd h (by decide)
  ·rw[if_neg h2]at h;exact cmpL_eq.1 h
theorem cmpT_trans {s t u:List Int} (h1:cmpT s t<0) (h2:cmpT t u<0):cmpT s u<0:=by
 unfold cmpT at*
 by_cases a1:s.length<u.length
 ·rw[if_pos a1];decide
 ·rw[if_neg a1]
  by_cases b1:s.length<t.length
  ·have b2:u.length<t.length:=by omega
   rw[if_neg (by omega),if_pos b2]at h2;exact absurd h2 (by decide)
  ·rw[if_neg b1]at h1
   by_cases b3:t.length<s.length
   ·rw[if_pos b3]at h1;exact absurd h1 (by decide)
   ·rw[if_neg b3]at h1
    by_cases c1:t.length<u.length
    ·omega
    ·rw[if_neg c1]at h2
     by_cases c2:u.length<t.length
     ·rw[if_pos c2]at h2;exact absurd h2 (by decide)
     ·rw[if_neg c2]at h2
      rw[if_neg (by omega)]
      exact cmpL_trans h1 h2
end T
open Go Go.Va
namespace T
theorem Eg {l:List (List Int)}:Dx l=true↔l.Pairwise (λa b=>cmpL a b<0):=by
 constructor
 ·intro h
  rw[List.pairwise_iff_getElem]
  exact λi j hi hj hij=>DH h i j hij hj
 ·intro h
  rw[Gy]
  rw[List.pairwise_iff_getElem]at h
  exact λi hi=>h i (i+1) (by omega) hi (by omega)
theorem EP {list:List (List Int)} {t:List Int} {k:Nat} (hl:list.length<=1000000) (hk:k<=1000000) (hv: ∀u∈list,u.length=k) (ht:t.length=k) (hi:Dx list=true):
  ∃out,Dd list t=some out/\Dx out=true/\(∀u,u∈out↔u=t∨u∈list)/\(t∉list->out.Perm (t::list)):=by
 obtain⟨c,e,k1,k2,k3⟩:=EJ (by omega) (by omega) hv ht hi
 unfold Dd
 rw[e]
 simp only[Option.bind_some]
 by_cases hm:t∈list
 ·rw[decide_eq_true hm,if_pos rfl]
  exact⟨list,rfl,hi,λu=>⟨Or.inr,λh=>h.elim (λh=>h▸hm) id⟩,λh=>absurd hm h⟩
 ·rw[decide_eq_false hm,if_neg (by simp)]
  have e1:(list.take (Int.toNat (c:Int))).drop (Int.toNat 0)=list.take c:=by simp
  have e2:(list.take (Int.toNat (list.length:Int))).drop (Int.toNat (c:Int))=list.drop c:=by simp
  have hlim:lim=1099511627776:=rfl
  have t1:(list.take c).length=c:=by rw[List.length_take];omega
  rw[e1,e2,if_pos (by omega),if_pos (by simp;omega),if_pos (by simp;omega),if_pos (by omega),if_pos (by simp;omega)]
  refine⟨_,rfl,?_,λu=>?_,λ_=>?_⟩
  ·rw[Eg]at hi⊢
   simp only[List.nil_append]
   have hsp:list=list.take c++list.drop c:=(List.take_append_drop c list).symm
   rw[hsp,List.pairwise_append]at hi
   have h4: ∀u∈list.take c,cmpL u t<0:=λu hu=>by
    obtain⟨i,hi',rfl⟩:=List.mem_iff_getElem.1 hu
    rw[List.getElem_take]
    exact k2 i _ (by omega)
   have h5: ∀u∈list.drop c,cmpL t u<0:=λu hu=>by
    obtain⟨i,hi',rfl⟩:=List.mem_iff_getElem.1 hu
    rw[List.length_drop]at hi'
    rw[List.getElem_drop]
    have h6:=k3 (c+i) (by omega) (by omega)
    have h7:=cmpL_symm (list[c+i]'(by omega)) t
    have h8:cmpL (list[c+i]'(by omega)) t≠0:=λh=>hm (by rw[←cmpL_eq.1 h];exact List.getElem_mem _)
    omega
   rw[List.pairwise_append,List.pairwise_append]
   refine⟨⟨hi.1,List.pairwise_singleton _ _,λa ha b hb=>by rw[List.mem_singleton.1 hb];exact h4 a ha⟩,hi.2.1,λa ha b hb=>?_⟩
   rcases List.mem_append.1 ha with ha|ha
   ·exact hi.2.2 a ha b hb
   ·rw[List.mem_singleton.1 ha];exact h5 b hb
  ·have hsp:u∈list↔u∈list.take c∨u∈list.drop c:=by rw[←List.mem_append,List.take_append_drop]
   simp only[List.nil_append,List.mem_append,List.mem_singleton,hsp]
   constructor
   ·rintro ((h|h)|h)
    ·exact Or.inr (Or.inl h)
    ·exact Or.inl h
    ·exact Or.inr (Or.inr h)
   ·rintro (h|h|h)
    ·exact Or.inl (Or.inr h)
    ·exact Or.inl (Or.inl h)
    ·exact Or.inr h
  ·simp only[List.nil_append]
   refine(List.Perm.append_right _ (List.perm_append_comm)).trans ?_
   rw[List.append_assoc,List.take_append_drop]
   exact List.Perm.refl _
theorem F5 {x y:List Int} (h1: ¬cmpL y x<0) (h2: ¬cmpL x y<0):x=y:=by
 have:=cmpL_symm x y
 exact cmpL_eq.1 (by omega)
theorem GN {out l:List (List Int)} (hi:Dx out=true) (hp:out.Perm l):Zn cmpL l=out:=by
 have hs:(Zn cmpL l).Pairwise λx y=>(!decide (cmpL y x<0))=true:=by
  unfold Zn
  refine List.pairwise_mergeSort (λa b c h1 h2=>?_) (λa b=>?_) l
  ·simp only[Bool.not_eq_true',decide_eq_false_iff_not]at*
   intro h3
   have q1:=cmpL_symm a b
   have q2:=cmpL_symm b c
   by_cases e:cmpL a b=0
   ·rw[cmpL_eq.1 e]at h3;exact h2 h3
   ·exact h2 (cmpL_trans h3 (by omega))
  ·simp only[Bool.or_eq_true,Bool.not_eq_true',decide_eq_false_iff_not]
   have q1:=cmpL_symm a b
   omega
 have ho:out.Pairwise λx y=>(!decide (cmpL y x<0))=true:=by
  refine(Eg.1 hi).imp ?_
  intro a b h
  simp only[Bool.not_eq_true',decide_eq_false_iff_not]
  have q1:=cmpL_symm a b
  omega
 have hpp:(Zn cmpL l).Perm out:=(List.mergeSort_perm l _).trans hp.symm
 refine List.Perm.eq_of_pairwise (λa b _ _ h1 h2=>?_) hs ho hpp
 simp only[Bool.not_eq_true',decide_eq_false_iff_not]at h1 h2
 exact F5 h1 h2
end T
set_option linter.unusedVariables false
open Go Go.Va
namespace T
def AA:Nat->((Int×Int×(List (List Int)))×(List (List Int))×Int×(List Int)×Bool×(List (List Int))×Int×(List Int)×(List Int)×Int)->Option ((Int×Int×(List (List Int)))×(List (List Int))×Int×(List Int)×Bool×(List (List Int))×Int×(List Int))
 |0,_=>none
 |n+1,(t1,t4,t5,t7,t8,t9,t10,t11,t12,t13)=>
 if decide (t13<(t9.length:Int))then
 if inb t13 t9 then
 if inb t13 t12 then
 (BQ t1.1 t11 (gd t9 t13 []) (w64 (t1.1-(gd t12 t13 0)))).bind λr7=>
 AA n ((t1.1,(t1.2.1,t1.2.2)),t4,t5,t7,t8,t9,t10,r7,t12,w64 (t13+1))
 else none
 else none
 else
 some ((t1.1,(t1.2.1,t1.2.2)),t4,t5,t7,t8,t9,t10,t11)
def Ao:Nat->((Int×Int×(List (List Int)))×(List (List Int))×Int×(List Int)×Bool×(List (List Int))×Int)->Option ((List (List Int)))
 |0,_=>none
 |n+1,(t1,t4,t5,t7,t8,t9,t10)=>
 if decide (t10<t5)then
 if t8 then
 (Dr t7).bind λr5=>
 (DE t1.1 (t9.length:Int) t10).bind λr6=>
 (AA Aa ((t1.1,(t1.2.1,t1.2.2)),t4,t5,t7,t8,t9,t10,r5,r6,0)).bind λs7=>
 (Dd s7.2.1 s7.2.2.2.2.2.2.2).bind λr8=>
 Ao n ((s7.1.1,(s7.1.2.1,s7.1.2.2)),r8,s7.2.2.1,s7.2.2.2.1,s7.2.2.2.2.1,s7.2.2.2.2.2.1,w64 (s7.2.2.2.2.2.2.1+1))
 else
 some t4
 else
 some t4
def AT (t0:Int×Int×(List (List Int))):Option ((List (List Int))×Bool):=
 (Bn (t0.1,(t0.2.1,t0.2.2))).bind λr1=>
 if !r1.2 then
 some ([],false)
 else
 if decide (r1.1>600)then
 some ([],false)
 else
 (CX t0.1 t0.2.1 t0.2.2).bind λr2=>
 (BS (t0.1,(t0.2.1,t0.2.2))).bind λr3=>
 (B3 (r3.1,(r3.2.1,r3.2.2)) t0.1 t0.2.1).bind λr4=>
 (Ao Aa ((t0.1,(t0.2.1,t0.2.2)),[],r1.1,r2.1,r2.2,r4,0)).bind λs5=>
 some (s5,true)
def AC (a0:List (List Int)) (a1:Unit):Option (List (List Int)):=
 if List.length a0<=lim/\List.all a0 (λx=>decide (List.length x<=lim))=true then some (Zn cmpL a0)else none
def AE:Nat->((Int×Int×(List (List Int)))×Int×(Bool×Int×Int×(List (List Int))×Int×(List Int))×Int×(List (List Int))×Int)->Option ((List (List Int)))
 |0,_=>none
 |n+1,(l,many,e,free,list,i)=>
 if decide (i<many)then
 (Dz i free l.1).bind λr4=>
 (AF e r4).bind λr5=>
 if list.length+ [r5].length<=lim then
 AE n ((l.1,(l.2.1,l.2.2)),many,e,free,list++ [r5],w64 (i+1))
 else none
 else
 some list
def AP (l:Int×Int×(List (List Int))):Option ((List (List Int))×Bool):=
 (AX (l.1,(l.2.1,l.2.2))).bind λr1=>
 if !r1.2 then
 some ([],false)
 else
 if decide (r1.1>600)then
 some ([],false)
 else
 (Am (l.1,(l.2.1,l.2.2))).bind λr2=>
 (Aj r2).bind λr3=>
 (AE Aa ((l.1,(l.2.1,l.2.2)),r1.1,r2,(r3.length:Int),[],0)).bind λs4=>
 (AC s4 ()).bind λr5=>
 some (r5,true)
end T
open Go Go.Va
namespace T
section
variable {p:Int} {W N V:Nat}
def coG (p:Int) (s:ES) (u:Nat) (f:Int):Int:=if BE s.2.1 u<0 then(if f=(u:Int)then 1 else 0)else p-(s.1.getD (BE s.2.1 u).toNat []).getD f.toNat 0
def CF (p:Int) (V:Nat) (s:ES) (F x:List Int) (u:Nat):Nat->Int
 |0=>CE V s u
 |k+1=>CF p V s F x u k+coG p s u (F.getD k 0)*x.getD k 0
def Dn (p:Int) (V:Nat) (s:ES) (F x:List Int) (k:Nat):List Int:=(List.range V).map λu=>CF p V s F x u k%p
structure GenOk (p:Int) (W N V:Nat) (s:ES) (F x:List Int):Prop where
 hp:pr4 p
 hs:ESok p W N V s
 hV:V<W
 hW:W<=1000
 hN:N<=100000
 hF:F=Ai V s.2.1
 hx:x.length=F.length
 xb: ∀v∈x,0<=v/\v<p
variable {s:ES} {F x:List Int}
theorem GenOk.fl (g:GenOk p W N V s F x):F.length<=V:=by rw[g.hF];exact BJ
theorem GenOk.fm (g:GenOk p W N V s F x) (k:Nat) (hk:k<F.length): ∃u:Nat,u<V/\F[k]=(u:Int)/\(u:Int)∉s.2.1:=by
 have h:F[k]∈Ai V s.2.1:=by rw[←g.hF];exact List.getElem_mem hk
 unfold Ai at h
 obtain⟨u,hu,e⟩:=List.mem_map.1 h
 rw[List.mem_filter]at hu
 exact⟨u,List.mem_range.1 hu.1,e.symm,by simpa using hu.2⟩
theorem GenOk.xv (g:GenOk p W N V s F x) (k:Nat) (hk:k<F.length):0<=x.getD k 0/\x.getD k 0<p:=by
 have:k<x.length:=by rw[g.hx];exact hk
 rw[Ab this];exact g.xb _ (List.getElem_mem this)
theorem GenOk.pb (g:GenOk p W N V s F x):2<=p/\p<=7:=by have:=g.hp;unfold pr4 at this;omega
theorem GenOk.row (g:GenOk p W N V s F x) {u:Nat} (hu: ¬BE s.2.1 u<0):(BE s.2.1 u).toNat<s.1.length/\Ak p W (s.1.getD (BE s.2.1 u).toNat []):=by
 have hm:(u:Int)∈s.2.1:=by
  rcases Decidable.em ((u:Int)∈s.2.1)with h|h
  ·exact h
  ·exact absurd (Bt.2 h) hu
 obtain⟨i,hi,g1,_⟩:=Cs hm
 rw[g1,Int.toNat_natCast]
 have:=g.hs.bl
 exact⟨by omega,by rw[Ab (by omega)];exact g.hs.t _ (List.getElem_mem _)⟩
theorem GenOk.base (g:GenOk p W N V s F x) (u:Nat):0<=CE V s u/\CE V s u<p:=by
 have:=g.pb
 unfold CE
 split
 ·omega
 ·rename_i h
  exact Be (g.row h).2 g.hV
theorem GenOk.co (g:GenOk p W N V s F x) (u:Nat) {k:Nat} (hk:k<F.length):0<=coG p s u (F.getD k 0)/\coG p s u (F.getD k 0)<=7:=by
 have:=g.pb
 unfold coG
 split
 ·split<;>omega
 ·rename_i h
  obtain⟨f,hf,e,_⟩:=g.fm k hk
  rw[Ab hk,e,Int.toNat_natCast]
  have:=Be (g.row h).2 (show f<W by have:=g.hV;omega)
  omega
theorem GenOk.bound (g:GenOk p W N V s F x) (u:Nat): ∀k,k<=F.length->0<=CF p V s F x u k/\CF p V s F x u k<=7+49*k
 |0,_=>by have:=g.base u;have:=g.pb;simp only[CF];omega
 |k+1,hk=>by
  have ih:=g.bound u k (by omega)
  have h1:=g.co u (k:=k) (by omega)
  have h2:=g.xv k (by omega)
  have:=g.pb
  have h3:0<=coG p s u (F.getD k 0)*x.getD k 0:=Int.mul_nonneg h1.1 h2.1
  have h4:coG p s u (F.getD k 0)*x.getD k 0<=7*7:=Int.mul_le_mul h1.2 (by omega) h2.1 (by omega)
  simp only[CF]
  omega
theorem GenOk.free (g:GenOk p W N V s F x) {u j:Nat} (hj:j<F.length) (hu:F[j]=(u:Int)): ∀k,k<=F.length->CF p V s F x u k=if j<k then x.getD j 0 else 0
 |0,_=>by
  obtain⟨u',_,e,hn⟩:=g.fm j hj
  have:u'=u:=by omega
  subst this
  simp only[CF,CE]
  rw[if_pos (Bt.2 hn)];simp
 |k+1,hk=>by
  have ih:=g.free hj hu k (by omega)
  obtain⟨u',_,e,hn⟩:=g.fm j hj
  have:u'=u:=by omega
  subst this
  have hnd:F.Nodup:=by
   rw[g.hF];unfold Ai
   refine List.Pairwise.map _ ?_ (List.nodup_range.filter _)
   intro a b hab h;exact hab (by omega)
  simp only[CF,ih,coG]
  rw[if_pos (Bt.2 hn),Ab (show k<F.length by omega)]
  by_cases hkj:k=j
  ·subst hkj
   rw[if_pos hu,if_neg (by omega),if_pos (by omega)];omega
  ·have:F[k]≠(u':Int):=λh=>hkj ((List.getElem_inj hnd).1 (h.trans hu.symm))
   rw[if_neg this]
   by_cases c:j<k
   ·rw[if_pos c,if_pos (by omega)];omega
   ·rw[if_neg c,if_neg (by omega)];omega
theorem Ew {k:Nat}:(Dn p V s F x k).length=V:=by simp[Dn]
theorem Fe {k u:Nat} (hu:u<V):(Dn p V s F x k).getD u 0=CF p V s F x u k%p:=by rw[Ab (by rw[Ew];exact hu)];simp[Dn]
end
end T
open Go Go.Va
namespace T
section
variable {p:Int} {W N V:Nat} {s:ES} {F x:List Int}
theorem ER (hp:pr4 p) (hV:V<=1000) {r o:List Int} (hr:Ak p V r) (ho:Ak p V o) {c:Int} (hc:0<=c/\c<=p):BQ p r o c=some ((List.range V).map λi=>Int.tmod (r.getD i 0+(p-c)*o.getD i 0) p):=by
 unfold BQ
 have hlr:=hr.1
 have hlo:=ho.1
 have hp0:p≠0:=by unfold pr4 at hp;omega
 have hpb:2<=p/\p<=7:=by unfold pr4 at hp;omega
 have:=BW r.length (λf q i=>AW f (p,r,o,c,q,i)) (λj=>(List.range j).map λi=>Int.tmod (r.getD i 0+(p-c)*o.getD i 0) p) (r:=some ((List.range V).map λi=>Int.tmod (r.getD i 0+(p-c)*o.getD i 0) p)) (λf j hj=>?_) (λf=>?_) (n:=Aa) (by unfold Aa;omega)
 ·have this:AW Aa (p,r,o,c,[],0)=_:=this
  rw[this];rfl
 ·have e:(List.range (j+1)).map (λi=>Int.tmod (r.getD i 0+(p-c)*o.getD i 0) p)=(List.range j).map (λi=>Int.tmod (r.getD i 0+(p-c)*o.getD i 0) p)++ [Int.tmod (r.getD j 0+(p-c)*o.getD j 0) p]:=by rw[List.range_succ,List.map_append];rfl
  have hjo:j<o.length:=by omega
  have h1:=Be hr (i:=j) (by omega)
  have h2:=Be ho (i:=j) (by omega)
  have h3:0<=(p-c)*o.getD j 0:=Int.mul_nonneg (by omega) h2.1
  have h4:(p-c)*o.getD j 0<=7*7:=Int.mul_le_mul (by omega) (by omega) h2.1 (by omega)
  simp only[AW,Ae,hj,hjo,BR,AI (x:=p-c) (by omega) (by omega),AI (x:=(p-c)*o.getD j 0) (by omega) (by omega),AI (x:=r.getD j 0+(p-c)*o.getD j 0) (by omega) (by omega),e,if_true,Ac (show j<4611686018427387904 by omega)]
  rw[if_pos (by simp;omega),if_pos hp0,if_pos (by simp;unfold lim;omega)]
 ·simp only[AW]
  rw[if_neg (by simp),hlr]
theorem HF (hp:2<=p) (k:Nat):Ak p V (Dn p V s F x k):=by
 refine⟨Ew,λv hv=>?_⟩
 unfold Dn at hv
 obtain⟨u,_,rfl⟩:=List.mem_map.1 hv
 exact⟨Int.emod_nonneg _ (by omega),Int.emod_lt_of_pos _ (by omega)⟩
theorem GenOk.ker (g:GenOk p W N V s F x) {k f u:Nat} (hk:k<F.length) (hf:F[k]=(f:Int)):CP p s f u=coG p s u (F.getD k 0)%p:=by
 have:=g.pb
 rw[Ab hk,hf]
 unfold CP coG
 split
 ·by_cases h:u=f
  ·rw[if_pos h,if_pos (by omega),Int.emod_eq_of_lt (by omega) (by omega)]
  ·rw[if_neg h,if_neg (by omega)];rfl
 ·rename_i h
  rw[Int.toNat_natCast]
  obtain⟨f',hf',e,_⟩:=g.fm k hk
  have h3:=Be (g.row h).2 (show f<W by have:=g.hV;omega)
  rw[Int.tmod_eq_emod_of_nonneg (by omega)]
theorem GenOk.step (g:GenOk p W N V s F x) {k f:Nat} (hk:k<F.length) (hf:F[k]=(f:Int)):BQ p (Dn p V s F x k) (C2 p V s f) (p-x.getD k 0)=some (Dn p V s F x (k+1)):=by
 have hb:=g.pb
 have hx:=g.xv k hk
 have hko:Ak p V (C2 p V s f):=by
  refine⟨by simp[C2],λv hv=>?_⟩
  unfold C2 at hv
  obtain⟨u,_,rfl⟩:=List.mem_map.1 hv
  rw[g.ker hk hf]
  exact⟨Int.emod_nonneg _ (by omega),Int.emod_lt_of_pos _ (by omega)⟩
 rw[ER g.hp (by have:=g.hV;have:=g.hW;omega) (HF hb.1 k) hko (by omega)]
 congr 1
 unfold Dn
 refine List.map_congr_left λu hu=>?_
 have hu:=List.mem_range.1 hu
 have e1:(C2 p V s f).getD u 0=CP p s f u:=by rw[Ab (by simp[C2];exact hu)];simp[C2]
 have e2:=Fe (p:=p) (s:=s) (F:=F) (x:=x) (k:=k) hu
 unfold Dn at e2
 rw[e2,e1,g.ker hk hf,show p-(p-x.getD k 0)=x.getD k 0 by omega]
 have h1:=g.bound u k (by omega)
 have h2:=g.co u hk
 have h3:0<=CF p V s F x u k%p:=Int.emod_nonneg _ (by omega)
 have h4:0<=coG p s u (F.getD k 0)%p:=Int.emod_nonneg _ (by omega)
 have h5:0<=x.getD k 0*(coG p s u (F.getD k 0)%p):=Int.mul_nonneg hx.1 h4
 rw[Int.tmod_eq_emod_of_nonneg (by omega)]
 simp only[CF]
 rw[Int.emod_add_emod,Int.add_emod,Int.mul_emod,Int.emod_emod,←Int.mul_emod,←Int.add_emod,Int.mul_comm]
theorem GenOk.zero (g:GenOk p W N V s F x):Dn p V s F x 0=CD V s:=by
 unfold Dn CD
 refine List.map_congr_left λu _=>?_
 have:=g.base u
 simp only[CF]
 exact Int.emod_eq_of_lt this.1 this.2
theorem GenOk.L12 (g:GenOk p W N V s F x) (l:Int×Int×(List (List Int))) (hl:l.1=p) (out:List (List Int)) (n:Int) (first:List Int) (some_:Bool) (at_:Int):
  AA Aa (l,out,n,first,some_,B6 p V s,at_,CD V s,x,0)=some (l,out,n,first,some_,B6 p V s,at_,Dn p V s F x F.length):=by
 have hb:=g.pb
 have hlen:(B6 p V s).length=F.length:=by unfold B6;rw[List.length_map,g.hF]
 have hFV:=g.fl
 have:=BW F.length (λm o i=>AA m (l,out,n,first,some_,B6 p V s,at_,o,x,i)) (λk=>Dn p V s F x k) (r:=some (l,out,n,first,some_,B6 p V s,at_,Dn p V s F x F.length)) (λm k hk=>?_) (λm=>?_) (n:=Aa) (by have:=g.hV;have:=g.hW;unfold Aa;omega)
 ·rw[g.zero]at this;exact this
 ·obtain⟨f,hf,e,_⟩:=g.fm k hk
  have hkl:k<(B6 p V s).length:=by rw[hlen];exact hk
  have hkx:k<x.length:=by rw[g.hx];exact hk
  have hx:=g.xv k hk
  have hkr:(B6 p V s).getD k []=C2 p V s f:=by
   unfold B6;rw[←g.hF,Ab (by simpa using hk),List.getElem_map,e,Int.toNat_natCast]
  have hst:=g.step hk e
  simp only[AA,Ae,hkl,hkx,BR,hkr,hl,AI (x:=p-x.getD k 0) (by omega) (by omega),hst,Option.bind_some,if_true,Ac (show k<4611686018427387904 by have:=g.hV;have:=g.hW;omega)]
  rw[if_pos (by simp[hlen];omega),←hl]
 ·simp only[AA]
  rw[if_neg (by simp[hlen])]
end
end T
open Go Go.Va
namespace T
section
variable {p:Int} {W N V:Nat} {s:ES} {F x:List Int}
def Dw (p:Int) (V:Nat) (s:ES) (F x:List Int) (k:Nat) (u:Nat):Int:=if BE s.2.1 u<0 then CF p V s F x u k else 0
theorem GenOk.fre (g:GenOk p W N V s F x) {k f:Nat} (hk:k<F.length) (hf:F[k]=(f:Int)):((List.range V).map (Dw p V s F x k)).set f (x.getD k 0)=(List.range V).map (Dw p V s F x (k+1)):=by
 obtain⟨f',hf',e,hn⟩:=g.fm k hk
 have:f'=f:=by omega
 subst this
 apply List.ext_getElem
 ·simp
 ·intro u h1 h2
  simp at h2
  rw[List.getElem_set]
  simp only[List.getElem_map,List.getElem_range]
  by_cases c:f'=u
  ·subst c
   rw[if_pos rfl]
   unfold Dw
   rw[if_pos (Bt.2 hn),g.free hk hf (k+1) (by omega),if_pos (by omega)]
  ·rw[if_neg c]
   unfold Dw
   split
   ·rename_i hq
    simp only[CF,coG]
    rw[if_pos hq,Ab hk,hf,if_neg (by omega)];omega
   ·rfl
theorem GenOk.sol (g:GenOk p W N V s F x):AF (Ce p V s) x=some (Dn p V s F x F.length):=by
 have hp0:p≠0:=by have:=g.pb;omega
 have hpb:=g.pb
 have hV:=g.hV
 have hN:=g.hN
 have hW:=g.hW
 have hFl:=g.fl
 have hsb:=g.hs.bl
 have hsn:=g.hs.n
 generalize hE:Ce p V s=E
 have h1:E.1=true:=by rw[←hE];rfl
 have h2:E.2.1=p:=by rw[←hE];rfl
 have h3:E.2.2.1=(V:Int):=by rw[←hE];rfl
 have h4:E.2.2.2.1=s.1++s.2.2:=by rw[←hE];rfl
 have h5:E.2.2.2.2.2=A9 V s.2.1:=by rw[←hE];rfl
 have hfr:Aj E=some F:=by rw[←hE,g.hF];exact CB (by omega)
 have l4:=BW F.length (λf (o:List Int) i=>Ag f ((),E,x,o,F,(F.length:Int),i)) (λk=>(List.range V).map (Dw p V s F x k)) (r:=some (E,x,(List.range V).map (Dw p V s F x F.length),F)) (λf k hk=>by
  obtain⟨u,hu,e,_⟩:=g.fm k hk
  have hkx:k<x.length:=by rw[g.hx];exact hk
  have hu2:u<((List.range V).map (Dw p V s F x k)).length:=by simpa using hu
  simp only[Ag,Ae,hk,AJ hk,e,hkx,hu2,BR,Bk,g.fre hk e,if_true,Ac (show k<4611686018427387904 by omega)]
  rw[if_pos (by simp;omega)]) (λf=>by
  simp only[Ag]
  rw[if_neg (by simp)]) (n:=Aa) (by unfold Aa;omega)
 have e0:(List.range V).map (Dw p V s F x 0)=List.replicate V (0:Int):=by
  apply List.ext_getElem
  ·simp
  ·intro u _ _
   simp only[List.getElem_map,List.getElem_range,List.getElem_replicate,Dw,CF,CE]
   split<;>rfl
 rw[e0]at l4
 have l14: ∀(out:List Int) (v:Nat),¬BE s.2.1 v<0-> ∀i:Nat,BE s.2.1 v=(i:Int)->Af Aa ((),E,x,out,F,(v:Int),(i:Int),CE V s v,A9 V s.2.1,(V:Int),(v:Int),(F.length:Int),0)=some (E,x,out,F,(v:Int),CF p V s F x v F.length,A9 V s.2.1,(V:Int),(v:Int)):=by
  intro out v hq i hi
  have hrow:=g.row hq
  rw[hi,Int.toNat_natCast]at hrow
  refine BW F.length (λf (y:Int) j=>Af f ((),E,x,out,F,(v:Int),(i:Int),y,A9 V s.2.1,(V:Int),(v:Int),(F.length:Int),j)) (λk=>CF p V s F x v k) (r:=some (E,x,out,F,(v:Int),CF p V s F x v F.length,A9 V s.2.1,(V:Int),(v:Int))) (λf k hk=>?_) (λf=>?_) (n:=Aa) (by unfold Aa;omega)
  ·obtain⟨u,hu,e,_⟩:=g.fm k hk
   have hkx:k<x.length:=by rw[g.hx];exact hk
   have hil:i<(s.1++s.2.2).length:=by rw[List.length_append];omega
   have hr1:=hrow.1
   have hg:(s.1++s.2.2).getD i []=s.1.getD i []:=by rw[Ab hil,List.getElem_append_left hr1,Ab hr1]
   have hul:u<(s.1.getD i []).length:=by rw[hrow.2.1];omega
   have hro:=Be hrow.2 (show u<W by omega)
   have hc:coG p s v (F.getD k 0)=p-(s.1.getD i []).getD u 0:=by unfold coG;rw[if_neg hq,hi,Int.toNat_natCast,Ab hk,e,Int.toNat_natCast]
   have hb:=g.bound v (k+1) (by omega)
   have hb0:=g.bound v k (by omega)
   have hx:=g.xv k hk
   have hxg:gd x (k:Int) 0=x.getD k 0:=BR
   have h7:0<=(p-(s.1.getD i []).getD u 0)*x.getD k 0:=Int.mul_nonneg (by omega) hx.1
   simp only[CF,hc]at hb
   simp only[Af,Ae,hk,AJ hk,e,h1,h2,h4,hil,hg,hul,hkx,BR,if_true,Ac (show k<4611686018427387904 by omega),AI (x:=p-(s.1.getD i []).getD u 0) (by omega) (by omega),AI (x:=(p-(s.1.getD i []).getD u 0)*x.getD k 0) (by omega) (by omega),AI (x:=CF p V s F x v k+(p-(s.1.getD i []).getD u 0)*x.getD k 0) (by omega) (by omega)]
   rw[if_pos (by simp;omega)]
   simp only[CF,hc]
  ·simp only[Af]
   rw[if_neg (by simp)]
 have l9:=BW V (λf (o:List Int) i=>Ad f (E,x,o,F,A9 V s.2.1,(V:Int),i)) (λv=>mix (λu=>CF p V s F x u F.length%p) (Dw p V s F x F.length) V v) (r:=some (Dn p V s F x F.length)) (λf v hv=>?_) (λf=>?_) (n:=Aa) (by unfold Aa;omega)
 ·have e1:mix (λu=>CF p V s F x u F.length%p) (Dw p V s F x F.length) V 0=(List.range V).map (Dw p V s F x F.length):=by
   unfold mix;simp
  rw[e1]at l9
  have l9:Ad Aa (E,x,(List.range V).map (Dw p V s F x F.length),F,A9 V s.2.1,(V:Int),0)=_:=l9
  have l4:Ag Aa ((),E,x,List.replicate V (0:Int),F,(F.length:Int),0)=_:=l4
  unfold AF
  rw[if_pos h1,h3,if_pos (by unfold lim;omega),hfr]
  simp only[Option.bind_some,Int.toNat_natCast,l4]
  rw[if_pos h1,h5,BM,l9];rfl
 ·have hvl:v<(A9 V s.2.1).length:=by rw[BM];exact hv
  simp only[Ad,Ae,hvl,BR,Dy hv,h1,h3,h4,if_true]
  rw[if_pos (by simp;omega)]
  by_cases hq:BE s.2.1 v<0
  ·have hsm:CF p V s F x v F.length%p=Dw p V s F x F.length v:=by
    unfold Dw
    rw[if_pos hq]
    have hm:(v:Int)∈F:=by
     rw[g.hF];unfold Ai
     exact List.mem_map.2 ⟨v,List.mem_filter.2 ⟨List.mem_range.2 hv,by simpa using Bt.1 hq⟩,rfl⟩
    obtain⟨j,hj,hjv⟩:=List.mem_iff_getElem.1 hm
    rw[g.free hj hjv F.length (Nat.le_refl _),if_pos hj]
    have:=g.xv j hj
    exact Int.emod_eq_of_lt this.1 this.2
   rw[if_pos (by rw[decide_eq_true_iff];exact hq),D4 hv hsm,Ac (show v<4611686018427387904 by omega)]
  ·obtain⟨i,hi⟩: ∃i:Nat,BE s.2.1 v=(i:Int):=⟨(BE s.2.1 v).toNat,by omega⟩
   have hrow:=g.row hq
   rw[hi,Int.toNat_natCast]at hrow
   have hil:i<(s.1++s.2.2).length:=by rw[List.length_append];omega
   have hr1:=hrow.1
   have hg:(s.1++s.2.2).getD i []=s.1.getD i []:=by rw[Ab hil,List.getElem_append_left hr1,Ab hr1]
   have hVl:V<(s.1.getD i []).length:=by rw[hrow.2.1];exact hV
   have hml:v<(mix (λu=>CF p V s F x u F.length%p) (Dw p V s F x F.length) V v).length:=by rw[Cf];exact hv
   have hsv:CE V s v=(s.1.getD i []).getD V 0:=by unfold CE;rw[if_neg hq,hi,Int.toNat_natCast]
   have hst:=C7 (nw:=λu=>CF p V s F x u F.length%p) (old:=Dw p V s F x F.length) hv
   have hl:=l14 (mix (λu=>CF p V s F x u F.length%p) (Dw p V s F x F.length) V v) v hq i hi
   rw[hsv]at hl
   have hb:=g.bound v F.length (Nat.le_refl _)
   rw[hi,if_neg (by simp)]
   simp only[Ae,hil,hg,BR,hVl,if_true,BM]
   rw[hl]
   simp only[Option.bind_some,h1,h2,Ae,hml,if_true,Bk,Ac (show v<4611686018427387904 by omega)]
   rw[if_pos hp0,Int.tmod_eq_emod_of_nonneg hb.1,hst]
 ·simp only[Ad,CI]
  rw[if_neg (by simp)];rfl
end
end T
open Go Go.Va
namespace T
section
variable {a:Lin} {p:Int} {W N V:Nat} {s:ES} {F:List Int}
theorem Gm {b:Nat} (hb:0<b): ∀ {k i j:Nat},i<b^k->j<b^k->dg b k i=dg b k j->i=j
 |0,i,j,hi,hj,_=>by simp at hi hj;omega
 |k+1,i,j,hi,hj,h=>by
  simp only[dg]at h
  have h1:=List.append_inj' h rfl
  have h2:i%b=j%b:=by simpa using h1.2
  have hi':i/b<b^k:=Nat.div_lt_of_lt_mul (by rw[Nat.mul_comm,←Nat.pow_succ];exact hi)
  have hj':j/b<b^k:=Nat.div_lt_of_lt_mul (by rw[Nat.mul_comm,←Nat.pow_succ];exact hj)
  have h3:=Gm hb hi' hj' h1.1
  have e1:=Nat.div_add_mod i b
  have e2:=Nat.div_add_mod j b
  rw[h3,h2]at e1
  omega
def CQ (p:Int) (V:Nat) (s:ES) (F:List Int) (i:Nat):List Int:=Dn p V s F (cI (dg p.toNat F.length i)) F.length
theorem E5 (hp:pr4 p) (hs:ESok p W N V s) (hV:V<W) (hW:W<=1000) (hN:N<=100000) (hF:F=Ai V s.2.1) (i:Nat):GenOk p W N V s F (cI (dg p.toNat F.length i)):=by
 have hpb:2<=p/\p<=7:=by unfold pr4 at hp;omega
 refine⟨hp,hs,hV,hW,hN,hF,by rw[Eb,Ez],λv hv=>?_⟩
 unfold cI at hv
 obtain⟨y,hy,rfl⟩:=List.mem_map.1 hv
 have:=Hk (b:=p.toNat) (by omega) y hy
 omega
theorem FX (hp:pr4 p) (hs:ESok p W N V s) (hV:V<W) (hW:W<=1000) (hN:N<=100000) (hF:F=Ai V s.2.1) {i j:Nat} (hi:i<p.toNat^F.length) (hj:j<p.toNat^F.length) (h:CQ p V s F i=CQ p V s F j):i=j:=by
 have hpb:2<=p/\p<=7:=by unfold pr4 at hp;omega
 have g1:=E5 hp hs hV hW hN hF i
 have g2:=E5 hp hs hV hW hN hF j
 refine Gm (b:=p.toNat) (by omega) hi hj (Hr ?_)
 apply List.ext_getElem
 ·rw[Eb,Eb,Ez,Ez]
 ·intro k h1 h2
  have hk:k<F.length:=by rw[Eb,Ez]at h1;exact h1
  obtain⟨u,hu,e,_⟩:=g1.fm k hk
  have q:(CQ p V s F i).getD u 0=(CQ p V s F j).getD u 0:=by rw[h]
  unfold CQ at q
  rw[Fe hu,Fe hu,g1.free hk e F.length (Nat.le_refl _),g2.free hk e F.length (Nat.le_refl _),if_pos hk,if_pos hk]at q
  have x1:=g1.xv k hk
  have x2:=g2.xv k hk
  rw[Int.emod_eq_of_lt x1.1 x1.2,Int.emod_eq_of_lt x2.1 x2.2,Ab h1,Ab h2]at q
  exact q
theorem FZ (h:DW a):AX a=some (if BT a then(if BV a.2.1.toNat (Ah a.1 a.2.2 a.2.1.toNat)then 0 else a.1^(Ai a.2.1.toNat (Ah a.1 a.2.2 a.2.1.toNat).2.1).length,true)else(0,false)):=by
 obtain⟨p,v,rows⟩:=a
 unfold AX
 rw[Bm h]
 cases hg:BT (p,v,rows)with
 |false=>rfl
 |true=>
  obtain⟨hp,V,hv,hV,hN,hr⟩:=DB hg
  dsimp only at hp hv hN hr
  subst hv
  have hs:=Bs hp hr V (by omega)
  unfold Am
  have e1:=CN hp (show V<=V+1 by omega) (by omega) hr (by omega)
  simp only[e1,Option.bind_some,Bool.not_true,Bool.false_eq_true,if_false,if_true,Int.toNat_natCast]
  generalize Ah p rows V=s at hs
  have e4:=EB hs (by omega) (by omega)
  have e6:=CB (p:=p) (V:=V) (s:=s) (by omega)
  have hpb:2<=p/\p<=7:=by unfold pr4 at hp;omega
  have hfl:(Ai V s.2.1).length<=V:=BJ
  simp only[e4,Option.bind_some]
  cases BV V s with
  |true=>rfl
  |false=>
   simp only[Bool.false_eq_true,if_false,e6,Option.bind_some,DM (show 0<=p by omega) (show p<=8 by omega) (show(Ai V s.2.1).length<=20 by omega)]
end
end T
open Go Go.Va
namespace T
section
variable {a:Lin} {p:Int} {W N V:Nat} {s:ES} {F:List Int}
theorem Dq (l:List (List Int)):(Zn cmpL l).Perm l:=List.mergeSort_perm l _
theorem FD {l:List (List Int)} (hn:l.Nodup):Dx (Zn cmpL l)=true:=by
 rw[Eg]
 have hs:(Zn cmpL l).Pairwise λx y=>(!decide (cmpL y x<0))=true:=by
  unfold Zn
  refine List.pairwise_mergeSort (λa b c h1 h2=>?_) (λa b=>?_) l
  ·simp only[Bool.not_eq_true',decide_eq_false_iff_not]at*
   intro h3
   have q1:=cmpL_symm a b
   have q2:=cmpL_symm b c
   by_cases e:cmpL a b=0
   ·rw[cmpL_eq.1 e]at h3;exact h2 h3
   ·exact h2 (cmpL_trans h3 (by omega))
  ·simp only[Bool.or_eq_true,Bool.not_eq_true',decide_eq_false_iff_not]
   have q1:=cmpL_symm a b
   omega
 have hn':(Zn cmpL l).Nodup:=(Dq l).nodup_iff.2 hn
 refine(hs.and hn').imp ?_
 intro x y h
 obtain⟨h1,h2⟩:=h
 simp only[Bool.not_eq_true',decide_eq_false_iff_not]at h1
 have q1:=cmpL_symm x y
 have q2:cmpL x y≠0:=λe=>h2 (cmpL_eq.1 e)
 omega
theorem GL {l:List (List Int)} {t:List Int} {k:Nat} (hl:l.length<=1000000) (hk:k<=1000000) (hv: ∀u∈l,u.length=k) (ht:t.length=k) (hn:l.Nodup) (hm:t∉l):Dd (Zn cmpL l) t=some (Zn cmpL (l++ [t])):=by
 have hp:=Dq l
 obtain⟨out,e,h1,_,h3⟩:=EP (list:=Zn cmpL l) (t:=t) (k:=k) (by rw[hp.length_eq];exact hl) hk (λu hu=>hv u (hp.mem_iff.1 hu)) ht (FD hn)
 rw[e]
 have h4:=h3 (λh=>hm (hp.mem_iff.1 h))
 rw[GN h1 (h4.trans ((List.Perm.cons t hp).trans (List.perm_append_comm (l₁:= [t]))))]
theorem E9 (i:Nat):(CQ p V s F i).length=V:=Ew
theorem EX (hp:pr4 p) (hs:ESok p W N V s) (hV:V<W) (hW:W<=1000) (hN:N<=100000) (hF:F=Ai V s.2.1) (l:Lin) (hl:l.1=p) {M:Nat} (hM:M<=600):
  AE Aa (l,(M:Int),Ce p V s,(F.length:Int),[],0)=some ((List.range M).map (CQ p V s F)):=by
 have hpb:2<=p/\p<=7:=by unfold pr4 at hp;omega
 have hFV:F.length<=V:=by rw[hF];exact BJ
 have:=BW M (λm o i=>AE m (l,(M:Int),Ce p V s,(F.length:Int),o,i)) (λk=>(List.range k).map (CQ p V s F)) (r:=some ((List.range M).map (CQ p V s F))) (λm k hk=>?_) (λm=>?_) (n:=Aa) (by unfold Aa;omega)
 ·exact this
 ·have g:=E5 hp hs hV hW hN hF k
  have h1:=EC (b:=p.toNat) (k:=F.length) (i:=k) (by omega) (by omega) (by omega)
  rw[show((p.toNat:Nat):Int)=p by omega]at h1
  simp only[AE,hl,h1,g.sol,Option.bind_some,List.range_succ,List.map_append,List.map_cons,List.map_nil,Ac (show k<4611686018427387904 by omega)]
  rw[if_pos (by simp;omega),if_pos (by simp;unfold lim;omega),←hl]
  rfl
 ·simp only[AE]
  rw[if_neg (by simp)]
theorem Gg (hp:pr4 p) (hs:ESok p W N V s) (hV:V<W) (hW:W<=1000) (hN:N<=100000) (hF:F=Ai V s.2.1) (l:Lin) (hl:l.1=p) {M:Nat} (hM:M<=600) (hMp:M=p.toNat^F.length):
  Ao Aa (l,[],(M:Int),CD V s,true,B6 p V s,0)=some (Zn cmpL ((List.range M).map (CQ p V s F))):=by
 have hpb:2<=p/\p<=7:=by unfold pr4 at hp;omega
 have hFV:F.length<=V:=by rw[hF];exact BJ
 have hkl:(B6 p V s).length=F.length:=by unfold B6;rw[List.length_map,hF]
 have hnd: ∀k,k<=M->((List.range k).map (CQ p V s F)).Nodup:=λk hk=>by
  rw[List.nodup_iff_pairwise_ne,List.pairwise_map]
  refine(List.nodup_range (n:=k)).imp_of_mem ?_
  intro i j hi hj hij e
  have hi:=List.mem_range.1 hi
  have hj:=List.mem_range.1 hj
  exact hij (FX hp hs hV hW hN hF (by omega) (by omega) e)
 have:=BW M (λm o i=>Ao m (l,o,(M:Int),CD V s,true,B6 p V s,i)) (λk=>Zn cmpL ((List.range k).map (CQ p V s F))) (r:=some (Zn cmpL ((List.range M).map (CQ p V s F)))) (λm k hk=>?_) (λm=>?_) (n:=Aa) (by unfold Aa;omega)
 ·have e0:Zn cmpL ((List.range 0).map (CQ p V s F))= []:=by simp[Zn]
  rw[e0]at this
  exact this
 ·have g:=E5 hp hs hV hW hN hF k
  have h1:=EH (b:=p.toNat) (k:=F.length) (i:=k) (by omega) (by omega) (by omega)
  rw[show((p.toNat:Nat):Int)=p by omega]at h1
  have h2:=DP (l:=CD V s) (by simp[CD];omega)
  have h3:=g.L12 l hl (Zn cmpL ((List.range k).map (CQ p V s F))) (M:Int) (CD V s) true (k:Int)
  have h3':AA Aa ((l.1,(l.2.1,l.2.2)),Zn cmpL ((List.range k).map (CQ p V s F)),(M:Int),CD V s,true,B6 p V s,(k:Int),CD V s,cI (dg p.toNat F.length k),0)=_:=h3
  have h4:Dd (Zn cmpL ((List.range k).map (CQ p V s F))) (Dn p V s F (cI (dg p.toNat F.length k)) F.length)=some (Zn cmpL ((List.range (k+1)).map (CQ p V s F))):=by
   rw[List.range_succ,List.map_append]
   refine GL (k:=V) (by simp;omega) (by omega) (λu hu=>?_) Ew (hnd k (by omega)) (λh=>?_)
   ·obtain⟨i,_,rfl⟩:=List.mem_map.1 hu;exact E9 i
   ·obtain⟨i,hi,e⟩:=List.mem_map.1 h
    have hi:=List.mem_range.1 hi
    have:=FX (i:=i) (j:=k) hp hs hV hW hN hF (by omega) (by omega) e
    omega
  simp only[Ao,if_true,h2,hkl,hl,h1,Option.bind_some]
  rw[if_pos (by simp;omega)]
  rw[hl]at h3'
  rw[h3']
  simp only[Option.bind_some,h4,Ac (show k<4611686018427387904 by omega)]
 ·simp only[Ao]
  rw[if_neg (by simp)]
end
end T
open Go Go.Va
namespace T
section
variable {a:Nat} {ts:List (List Int)} {c:List Int} {q:Int}
def HI (ts:List (List Int)) (c:List Int):Bool:=ts.all λt=>c.any (HX t)
def wo (c:List Int) (k:Nat):List Int:=c.take k++c.drop (k+1)
def pk (ts:List (List Int)) (c:List Int) (k:Nat):Bool:=HI ts c&&(List.range k).all λi=>!HI ts (wo c i)
end
end T
open Go Go.Va
namespace T
section
variable {a:Nat} {ts:List (List Int)} {c:List Int} {q:Int}
def HB (T ts:List (List Int)):List (List Int):=T.filter λc=>pk ts c c.length
end
end T
open Go Go.Va
namespace T
section
variable {p:Int} {V W N:Nat} {s:ES}
theorem ET {b:List Int}: ∀ {v w:Nat},v<=w->CL v b=(CL w b).take (CL v b).length:=by
  intro v w h
  induction w with
  | zero => have : v = 0 := by omega
            subst this;rw[List.take_length]
  |succ w ih=>
    by_cases e:v=w+1
    · subst e;rw[List.take_length]
    · have h1:=ih (by omega)
      have h2:(CL v b).length<=(CL w b).length:=by
        have:=congrArg List.length h1
        rw[List.length_take]at this;omega
      rw[Dl,List.take_append_of_le_length h2]
      exact h1
theorem Gj {b:List Int} {v:Nat} {x:Int}:x∈CL v b↔x∈b/\ ∃u:Nat,u<v/\x=(u:Int):=by
 unfold CL
 constructor
 ·intro h
  obtain⟨u,hu,rfl⟩:=List.mem_map.1 h
  have:=List.mem_filter.1 hu
  exact⟨by simpa using this.2,u,List.mem_range.1 this.1,rfl⟩
 ·rintro ⟨h,u,hu,rfl⟩
  exact List.mem_map.2 ⟨u,List.mem_filter.2 ⟨List.mem_range.2 hu,by simpa using h⟩,rfl⟩
theorem HO (hp:pr4 p):CM p 1=1:=by
 have: ∀q:Fin 8,(q.val=2∨q.val=3∨q.val=5∨q.val=7)->CM (q.val:Int) 1=1:=by decide+kernel
 unfold pr4 at hp
 have:=this ⟨p.toNat,by omega⟩ (by simp;omega)
 simpa[Int.toNat_of_nonneg (show 0<=p by omega)]using this
theorem Ha {r:List Int} (h:Ak p W r):Au p 1 r=r:=by
 unfold Au
 apply List.ext_getElem
 ·simp
 ·intro i h1 h2
  rw[List.getElem_map,List.getElem_range,Ab h2,Int.mul_one]
  have:=h.2 _ (List.getElem_mem h2)
  exact Int.tmod_eq_of_lt this.1 this.2
theorem Fz (hp:pr4 p) (hs:ESok p W N V s) (h:RR p V s) (hVW:V<=W) {Z:List (List Int)} (hZ: ∀r∈Z,Ak p W r/\ ∀u,u<V->r.getD u 0=0):
  ∀v,v<=V->Ah p (s.1++Z) v=(s.1.take (CL v s.2.1).length,CL v s.2.1,s.1.drop (CL v s.2.1).length++Z):=by
 intro v
 induction v with
 |zero=>intro _;simp[Ah,CL]
 |succ v ih=>
  intro hv
  have hnx:Ah p (s.1++Z) (v+1)=B7 p (Ah p (s.1++Z) v) v:=by unfold Ah;rw[Cz]
  rw[hnx,ih (by omega)]
  have hbl:=hs.bl
  have htk:=ET (b:=s.2.1) (show v<=V by omega)
  rw[h.bnd]at htk
  obtain⟨j,hj⟩: ∃j,j=(CL v s.2.1).length:=⟨_,rfl⟩
  have hjb:j<=s.2.1.length:=by have:=congrArg List.length htk;rw[List.length_take]at this;omega
  have hzt: ∀i,i<s.1.length-> ∀r,r=s.1.getD i []->Ak p W r:=λi hi r e=>by rw[e];exact hs.t _ (B8 hi)
  by_cases hm:(v:Int)∈s.2.1
  ·
   have htk1:=ET (b:=s.2.1) hv
   rw[h.bnd]at htk1
   have e1:CL (v+1) s.2.1=CL v s.2.1++ [(v:Int)]:=by rw[Dl,if_pos hm]
   have l1:(CL (v+1) s.2.1).length=j+1:=by rw[e1,List.length_append,←hj];rfl
   rw[l1]at htk1
   have hjlt:j<s.2.1.length:=by
    have:=congrArg List.length htk1
    rw[l1,List.length_take]at this;omega
   have hbj:s.2.1.getD j 0=(v:Int):=by
    have h1:(CL (v+1) s.2.1).getD j 0=(v:Int):=by rw[e1,hj,Ef]
    rw[htk1,List.getD_eq_getElem?_getD,List.getElem?_take_of_lt (by omega),←List.getD_eq_getElem?_getD]at h1
    exact h1
   rw[←hj]
   have hj1:j<s.1.length:=by omega
   have hpj: ∀i,i<s.1.length->(s.1.getD i []).getD v 0=if i=j then 1 else 0:=λi hi=>by
    have:=h.piv i hi j hj1
    rw[hbj,Int.toNat_natCast]at this;exact this
   obtain⟨P,hP⟩: ∃P,P=s.1.getD j []:=⟨_,rfl⟩
   have hPok:=hzt j hj1 P hP
   have hP1:P.getD v 0=1:=by rw[hP,hpj j hj1,if_pos rfl]
   have hdr:s.1.drop j++Z=P::(s.1.drop (j+1)++Z):=by
    rw[List.drop_eq_getElem_cons hj1,hP,Ab hj1];rfl
   have hfi:(s.1.drop j++Z).findIdx (nzB v)=0:=by
    rw[hdr,List.findIdx_cons]
    have:nzB v P=true:=by unfold nzB;rw[hP1];rfl
    rw[this];rfl
   have hsame: ∀r,Ak p W r->r.getD v 0=0->Av p P v r=r:=λr hr h0=>E0 hp hr hPok h0
   have hpv:D6 p (s.1.take j,CL v s.2.1,s.1.drop j++Z) v=P:=by
    unfold D6
    dsimp only
    rw[hfi,hdr]
    show Au p (CM p (P.getD v 0)) P=P
    rw[hP1,HO hp,Ha hPok]
   rw[Ee (by dsimp only;rw[hfi,hdr];simp),hpv]
   dsimp only
   rw[hfi,hdr,l1,e1]
   have m1:(s.1.take j).map (Av p P v)=s.1.take j:=by
    rw[List.map_congr_left (g:=id) λr hr=>?_,List.map_id]
    obtain⟨i,hi,rfl⟩:=List.mem_iff_getElem.1 hr
    rw[List.length_take]at hi
    rw[List.getElem_take]
    have:=hpj i (by omega)
    rw[Ab (show i<s.1.length by omega),if_neg (by omega)]at this
    exact hsame _ (hs.t _ (List.getElem_mem _)) this
   have m2:((P::(s.1.drop (j+1)++Z)).eraseIdx 0).map (Av p P v)=s.1.drop (j+1)++Z:=by
    rw[List.eraseIdx_cons_zero,List.map_congr_left (g:=id) λr hr=>?_,List.map_id]
    rcases List.mem_append.1 hr with hr|hr
    ·obtain⟨i,hi,rfl⟩:=List.mem_iff_getElem.1 hr
     rw[List.length_drop]at hi
     rw[List.getElem_drop]
     have:=hpj (j+1+i) (by omega)
     rw[Ab (show j+1+i<s.1.length by omega),if_neg (by omega)]at this
     exact hsame _ (hs.t _ (List.getElem_mem _)) this
    ·exact hsame r (hZ r hr).1 ((hZ r hr).2 v (by omega))
   rw[m1,m2]
   have m3:s.1.take j++ [P]=s.1.take (j+1):=by rw[List.take_succ_eq_append_getElem hj1,hP,Ab hj1]
   rw[m3]
  ·have e1:CL (v+1) s.2.1=CL v s.2.1:=by rw[Dl,if_neg hm,List.append_nil]
   rw[e1,Ed]
   dsimp only
   rw[←hj]
   have:(s.1.drop j++Z).findIdx (nzB v)=(s.1.drop j++Z).length:=by
    rw[List.findIdx_eq_length]
    intro r hr
    unfold nzB
    rcases List.mem_append.1 hr with hr|hr
    ·obtain⟨i,hi,rfl⟩:=List.mem_iff_getElem.1 hr
     rw[List.length_drop]at hi
     rw[List.getElem_drop]
     have hji:j+i<s.2.1.length:=by omega
     have hbm:=List.getElem_mem hji
     have hb2:=hs.bv _ hbm
     have hnot: ¬s.2.1[j+i]<(v:Int):=λhlt=>by
      have hin:s.2.1[j+i]∈CL v s.2.1:=Gj.2 ⟨hbm,s.2.1[j+i].toNat,by omega,by omega⟩
      rw[htk,←hj]at hin
      obtain⟨q,hq,e⟩:=List.mem_iff_getElem.1 hin
      rw[List.length_take]at hq
      rw[List.getElem_take]at e
      have:=(List.getElem_inj hs.bn).1 e
      omega
     have hne:s.2.1[j+i]≠(v:Int):=λe=>hm (e▸hbm)
     have:=h.low (j+i) (by omega) v (by rw[Ab hji];omega)
     rw[Ab (show j+i<s.1.length by omega)]at this
     rw[this];rfl
    ·rw[(hZ r hr).2 v (by omega)];rfl
   omega
theorem FA (hp:pr4 p) (hs:ESok p W N V s) (h:RR p V s) (hVW:V<=W) {Z:List (List Int)} (hZ: ∀r∈Z,Ak p W r/\ ∀u,u<V->r.getD u 0=0):
  Ah p (s.1++Z) V=(s.1,s.2.1,Z):=by
 have:=Fz hp hs h hVW hZ V (Nat.le_refl _)
 rw[h.bnd,hs.bl,List.take_length,List.drop_length,List.nil_append]at this
 exact this
theorem Gz (hp:pr4 p) (hs:ESok p (V+1) N V s) (h:RR p V s) {f:Nat} (hf:f<V) (hfb:(f:Int)∉s.2.1):
  ∀r∈s.1++s.2.2,cg p (Bu V λi=>r.getD i 0*CP p s f i) 0:=by
 intro r hr
 rcases List.mem_append.1 hr with hr|hr
 ·obtain⟨i,hi,rfl⟩:=List.mem_iff_getElem.1 hr
  have hbl:=hs.bl
  have hb:i<s.2.1.length:=by omega
  have hbv:=hs.bv _ (List.getElem_mem hb)
  have hbn:s.2.1[i]=(((s.2.1[i]).toNat:Nat):Int):=by omega
  obtain⟨b,hbe⟩: ∃b,b=(s.2.1[i]).toNat:=⟨_,rfl⟩
  rw[←hbe]at hbn
  have hbV:b<V:=by omega
  have hpos:=DI hs.bn hb hbn
  have hbf:b≠f:=λe=>hfb (by rw[←e,←hbn];exact List.getElem_mem hb)
  have hk1:CP p s f b=Int.tmod (p-(s.1[i]).getD f 0) p:=by
   unfold CP;rw[hpos,if_neg (by omega),Int.toNat_natCast,Ab hi]
  have hk2:CP p s f f=1:=by unfold CP;rw[if_pos (Bt.2 hfb),if_pos rfl]
  have hr1:(s.1[i]).getD b 0=1:=by
   have:=h.piv i hi i hi
   rw[Ab hi,Ab hb,if_pos rfl,←hbe]at this;exact this
  have hrok:=hs.t _ (List.getElem_mem hi)
  have hrf:=Be hrok (show f<V+1 by omega)
  have hz: ∀u,u<V->u≠b->u≠f->(s.1[i]).getD u 0*CP p s f u=0:=λu hu h1 h2=>by
   by_cases hm:(u:Int)∈s.2.1
   ·obtain⟨j,hj,hj1,hj2⟩:=Cs hm
    have hji:i≠j:=λe=>by subst e;rw[hj2]at hbn;omega
    have:=h.piv i hi j (by omega)
    rw[Ab hi,Ab hj,if_neg hji,hj2,Int.toNat_natCast]at this
    rw[this];simp
   ·have:CP p s f u=0:=by unfold CP;rw[if_pos (Bt.2 hm),if_neg h2]
    rw[this];simp
  have e:(Bu V λu=>(s.1[i]).getD u 0*CP p s f u)=(Bu V λu=>if u=b then CP p s f b else 0)+1*(Bu V λu=>if u=f then(s.1[i]).getD f 0 else 0):=by
   rw[←EK]
   refine CR λu hu=>?_
   by_cases h1:u=b
   ·subst h1;rw[if_pos rfl,if_neg hbf,hr1];simp
   ·by_cases h2:u=f
    ·subst h2;rw[if_neg h1,if_pos rfl,hk2];simp
    ·rw[if_neg h1,if_neg h2,hz u hu h1 h2];simp
  rw[e,EL (m:=b) hbV (λj _ hj=>if_neg hj),EL (m:=f) hf (λj _ hj=>if_neg hj),if_pos rfl,if_pos rfl,hk1]
  have h1:=E3 (p:=p) (x:=p-(s.1[i]).getD f 0) (by omega)
  obtain⟨k,h1⟩:=h1
  exact⟨k+1,by grind⟩
 ·have hz:=h.zl r hr
  exact DK λj hj=>by rw[hz j hj];exact C0 (by simp)
theorem Hc {A:List (List Int)} {c f:Nat->Int} (h: ∀r∈A,cg p (Bu V λi=>r.getD i 0*c i) 0) (hf:Sp p V A f):cg p (Bu V λi=>f i*c i) 0:=by
 induction hf with
 |zero=>exact DK λj _=>C0 (by simp)
 |add r d hr _ ih=>
  rename_i f' _
  have e:(Bu V λi=>(f' i+d*r.getD i 0)*c i)=(Bu V λi=>f' i*c i)+d*Bu V λi=>r.getD i 0*c i:=by
   rw[←EK];exact CR λi _=>by grind
  rw[e]
  have:=Ec ih (Fy d (h r hr))
  exact C1 this (C0 (by simp))
 |cgr _ h2 ih=>exact C1 (FY λi hi=>FG _ (h2 i hi)) ih
theorem F9 (hp:pr4 p) {A:List (List Int)} (hA: ∀r∈A,Ak p (V+1) r) {f:Nat} (hf:f<V) (hfb:(f:Int)∉(Ah p A V).2.1) {r:List Int} (hr:r∈A):
  cg p (Bu V λi=>r.getD i 0*CP p (Ah p A V) f i) 0:=by
 have hs:=Bs hp hA V (by omega)
 have hrr:=E4 hp hA V (by omega)
 have hsp:=FM hp hA (V:=V) (by omega) V (by omega)
 exact Hc (Gz hp hs hrr hf hfb) ((hsp _).1 (Sp.mem hr))
end
end T
set_option linter.unusedVariables false
open Go Go.Va
namespace T
def CA (code:List Int):Option ((Int×(Int×(List (List Int))))):=
 (Dg code).bind λr1=>
 some (r1.1,(r1.2.1,r1.2.2))
def Cn:Nat->((List (List Int))×(List (List Int))×Int)->Option ((Unit)⊕(Bool))
 |0,_=>none
 |n+1,(a,b,i)=>
 if decide (i<(a.length:Int))then
 if inb i a then
 if inb i b then
 (Cm (gd a i []) (gd b i [])).bind λr1=>
 if !r1 then
 some (.inr false)
 else
 Cn n (a,b,w64 (i+1))
 else none
 else none
 else
 some (.inl ())
def BP (a:List (List Int)) (b:List (List Int)):Option (Bool):=
 if(a.length:Int) !=(b.length:Int)then
  some false
 else
  (Cn Aa (a,b,0)).bind λs1=>
   match s1 with
   | .inl s2=>
    some true
   | .inr s3=>
    some s3
def CH (l:Int×Int×(List (List Int))) (m:Int×Int×(List (List Int))):Option (Bool):=
 if l.1==m.1 then
 if l.2.1==m.2.1 then
 (BP l.2.2 m.2.2).bind λr1=>
 some r1
 else
 some false
 else
 some false
def C3:Nat->((List (List Int))×(List Int)×Int)->Option ((Unit)⊕(Bool))
 |0,_=>none
 |n+1,(lists,l,i)=>
 if decide (i<(lists.length:Int))then
 if inb i lists then
 (Cm (gd lists i []) l).bind λr1=>
 if r1 then
 some (.inr true)
 else
 C3 n (lists,l,w64 (i+1))
 else none
 else
 some (.inl ())
def Da (lists:List (List Int)) (l:List Int):Option (Bool):=
 (C3 Aa (lists,l,0)).bind λs1=>
  match s1 with
  | .inl s2=>
   some false
  | .inr s3=>
   some s3
def Bf:Nat->((Int×Int×(List (List Int)))×(List Int)×Bool×(List Int)×(List (List Int))×Int×Int×Int)->Option ((Int×Int×(List (List Int)))×(List Int)×Bool×(List (List Int))×Int×Int)
 |0,_=>none
 |n+1,(t3,t8,t9,t12,t16,t20,t28,t29)=>
 if decide (t29<(t12.length:Int))then
 Bf n ((t3.1,(t3.2.1,t3.2.2)),t8,t9,t12,t16,t20,w64 (t28*t3.1),w64 (t29+1))
 else
 some ((t3.1,(t3.2.1,t3.2.2)),t8,t9,t16,t20,t28)
def Bg:Nat->((Int×Int×(List (List Int)))×(List Int)×Bool×(List (List Int))×Int×Int×Int×Int)->Option ((Int×Int×(List (List Int)))×(List Int)×Bool×(List (List Int))×Int×Int×Int)
 |0,_=>none
 |n+1,(t3,t8,t9,t16,t20,t30,t31,t32)=>
 if decide (t32<(t8.length:Int))then
 if inb t30 t3.2.2 then
 if inb t32 (gd t3.2.2 t30 [])then
 if inb t32 t8 then
 Bg n ((t3.1,(t3.2.1,t3.2.2)),t8,t9,t16,t20,t30,w64 (t31+(w64 ((gd (gd t3.2.2 t30 []) t32 0)*(gd t8 t32 0)))),w64 (t32+1))
 else none
 else none
 else none
 else
 some ((t3.1,(t3.2.1,t3.2.2)),t8,t9,t16,t20,t30,t31)
def Bh:Nat->((Int×Int×(List (List Int)))×(List Int)×Bool×(List (List Int))×Int×Int×Int×Int×Int)->Option ((Int×Int×(List (List Int)))×(List Int)×Bool×(List (List Int))×Int×Int×Int×Int)
 |0,_=>none
 |n+1,(t3,t8,t9,t16,t20,t30,t31,t33,t34)=>
 if inb t33 t16 then
 if decide (t34<((gd t16 t33 []).length:Int))then
 if inb t30 t3.2.2 then
 if inb t34 (gd t3.2.2 t30 [])then
 if inb t33 t16 then
 if inb t34 (gd t16 t33 [])then
 Bh n ((t3.1,(t3.2.1,t3.2.2)),t8,t9,t16,t20,t30,w64 (t31+(w64 ((gd (gd t3.2.2 t30 []) t34 0)*(gd (gd t16 t33 []) t34 0)))),t33,w64 (t34+1))
 else none
 else none
 else none
 else none
 else
 some ((t3.1,(t3.2.1,t3.2.2)),t8,t9,t16,t20,t30,t31,t33)
 else none
def AZ:Nat->((Int×Int×(List (List Int)))×(List Int)×Bool×(List (List Int))×Int×Int×Int)->Option (((Int×Int×(List (List Int)))×(List Int)×Bool×(List (List Int))×Int×Int)⊕(Bool))
 |0,_=>none
 |n+1,(t3,t8,t9,t16,t20,t30,t33)=>
 if decide (t33<(t16.length:Int))then
 (Bh Aa ((t3.1,(t3.2.1,t3.2.2)),t8,t9,t16,t20,t30,0,t33,0)).bind λs24=>
 if s24.1.1≠0 then
 if(Int.tmod s24.2.2.2.2.2.2.1 s24.1.1) !=0 then
 some (.inr false)
 else
 AZ n ((s24.1.1,(s24.1.2.1,s24.1.2.2)),s24.2.1,s24.2.2.1,s24.2.2.2.1,s24.2.2.2.2.1,s24.2.2.2.2.2.1,w64 (s24.2.2.2.2.2.2.2+1))
 else none
 else
 some (.inl ((t3.1,(t3.2.1,t3.2.2)),t8,t9,t16,t20,t30))
def Ay:Nat->((Int×Int×(List (List Int)))×(List Int)×Bool×(List (List Int))×Int×Int)->Option (((Int×Int×(List (List Int)))×(List Int)×Bool×Int)⊕(Bool))
 |0,_=>none
 |n+1,(t3,t8,t9,t16,t20,t30)=>
  if decide (t30<(t3.2.2.length:Int))then
   (Bg Aa ((t3.1,(t3.2.1,t3.2.2)),t8,t9,t16,t20,t30,0,0)).bind λs23=>
    if s23.2.2.1 then
     if s23.1.1≠0 then
      if inb s23.2.2.2.2.2.1 s23.1.2.2 then
       if inb s23.1.2.1 (gd s23.1.2.2 s23.2.2.2.2.2.1 [])then
        if(Int.tmod s23.2.2.2.2.2.2 s23.1.1) !=(gd (gd s23.1.2.2 s23.2.2.2.2.2.1 []) s23.1.2.1 0)then
         some (.inr false)
        else
         (AZ Aa ((s23.1.1,(s23.1.2.1,s23.1.2.2)),s23.2.1,s23.2.2.1,s23.2.2.2.1,s23.2.2.2.2.1,s23.2.2.2.2.2.1,0)).bind λs24=>
          match s24 with
          | .inl s25=>
           Ay n ((s25.1.1,(s25.1.2.1,s25.1.2.2)),s25.2.1,s25.2.2.1,s25.2.2.2.1,s25.2.2.2.2.1,w64 (s25.2.2.2.2.2+1))
          | .inr s26=>
           some (.inr s26)
       else none
      else none
     else none
    else
     (AZ Aa ((s23.1.1,(s23.1.2.1,s23.1.2.2)),s23.2.1,s23.2.2.1,s23.2.2.2.1,s23.2.2.2.2.1,s23.2.2.2.2.2.1,0)).bind λs27=>
      match s27 with
      | .inl s28=>
       Ay n ((s28.1.1,(s28.1.2.1,s28.1.2.2)),s28.2.1,s28.2.2.1,s28.2.2.2.1,s28.2.2.2.2.1,w64 (s28.2.2.2.2.2+1))
      | .inr s29=>
       some (.inr s29)
  else
   some (.inl ((t3.1,(t3.2.1,t3.2.2)),t8,t9,t20))
def DN (t0:List Int):Option (Bool):=
 (EZ t0).bind λr1=>
  if r1 then
   some true
  else
   (CA t0).bind λr2=>
    (BX (r2.1,(r2.2.1,r2.2.2))).bind λr3=>
     (CJ (r2.1,(r2.2.1,r2.2.2))).bind λr4=>
      if r3.2 !=r4.2 then
       some false
      else
       (Bp (r2.1,(r2.2.1,r2.2.2))).bind λr5=>
        if r3.2 !=r5 then
         some false
        else
         (CH (r3.1.1,(r3.1.2.1,r3.1.2.2)) (r4.1.1,(r4.1.2.1,r4.1.2.2))).bind λr6=>
          if !r6 then
           some false
          else
           (BG (r2.1,(r2.2.1,r2.2.2))).bind λr7=>
            (Ct (r2.1,(r2.2.1,r2.2.2))).bind λr8=>
             if r7.2 !=r8.2 then
              some false
             else
              (Cm r7.1 r8.1).bind λr9=>
               if !r9 then
                some false
               else
                (CS (r2.1,(r2.2.1,r2.2.2))).bind λr10=>
                 (CU (r2.1,(r2.2.1,r2.2.2))).bind λr11=>
                  if r10.2 !=r11.2 then
                   some false
                  else
                   if r10.2 !=r3.2 then
                    some false
                   else
                    (Cm r10.1 r11.1).bind λr12=>
                     if !r12 then
                      some false
                     else
                      (Cd (r2.1,(r2.2.1,r2.2.2))).bind λr13=>
                       (Cg (r2.1,(r2.2.1,r2.2.2))).bind λr14=>
                        if r13.2 !=r14.2 then
                         some false
                        else
                         if r13.2 !=r3.2 then
                          some false
                         else
                          (BP r13.1 r14.1).bind λr15=>
                           if !r15 then
                            some false
                           else
                            (AX (r2.1,(r2.2.1,r2.2.2))).bind λr16=>
                             (Bn (r2.1,(r2.2.1,r2.2.2))).bind λr17=>
                              if r16.1 !=r17.1 then
                               some false
                              else
                               if r16.2 !=r17.2 then
                                some false
                               else
                                if r16.2 !=r3.2 then
                                 some false
                                else
                                 if !r3.2 then
                                  some (!r7.2)
                                 else
                                  (BX (r3.1.1,(r3.1.2.1,r3.1.2.2))).bind λr18=>
                                   (BG (r3.1.1,(r3.1.2.1,r3.1.2.2))).bind λr19=>
                                    if !r18.2 then
                                     some false
                                    else
                                     (CH (r18.1.1,(r18.1.2.1,r18.1.2.2)) (r3.1.1,(r3.1.2.1,r3.1.2.2))).bind λr20=>
                                      if !r20 then
                                       some false
                                      else
                                       if r19.2 !=r7.2 then
                                        some false
                                       else
                                        (Cm r7.1 r19.1).bind λr21=>
                                         if !r21 then
                                          some false
                                         else
                                          if(r13.1.length:Int) !=(r10.1.length:Int)then
                                           some false
                                          else
                                           (Bf Aa ((r2.1,(r2.2.1,r2.2.2)),r7.1,r7.2,r10.1,r13.1,r16.1,1,0)).bind λs22=>
                                            if s22.2.2.1 then
                                             if s22.2.2.2.2.1 !=s22.2.2.2.2.2 then
                                              some false
                                             else
                                              if !s22.2.2.1 then
                                               if s22.2.2.2.2.1 !=0 then
                                                some false
                                               else
                                                (Ay Aa ((s22.1.1,(s22.1.2.1,s22.1.2.2)),s22.2.1,s22.2.2.1,s22.2.2.2.1,s22.2.2.2.2.1,0)).bind λs23=>
                                                 match s23 with
                                                 | .inl s24=>
                                                  (AP (s24.1.1,(s24.1.2.1,s24.1.2.2))).bind λr26=>
                                                   (AT (s24.1.1,(s24.1.2.1,s24.1.2.2))).bind λr27=>
                                                    if r26.2 !=r27.2 then
                                                     some false
                                                    else
                                                     (BP r26.1 r27.1).bind λr28=>
                                                      if !r28 then
                                                       some false
                                                      else
                                                       if !r26.2 then
                                                        some true
                                                       else
                                                        if(r26.1.length:Int)==s24.2.2.2 then
                                                         if !s24.2.2.1 then
                                                          some true
                                                         else
                                                          (Da r26.1 s24.2.1).bind λr29=>
                                                           some r29
                                                        else
                                                         some false
                                                 | .inr s25=>
                                                  some s25
                                              else
                                               (Ay Aa ((s22.1.1,(s22.1.2.1,s22.1.2.2)),s22.2.1,s22.2.2.1,s22.2.2.2.1,s22.2.2.2.2.1,0)).bind λs30=>
                                                match s30 with
                                                | .inl s31=>
                                                 (AP (s31.1.1,(s31.1.2.1,s31.1.2.2))).bind λr33=>
                                                  (AT (s31.1.1,(s31.1.2.1,s31.1.2.2))).bind λr34=>
                                                   if r33.2 !=r34.2 then
                                                    some false
                                                   else
                                                    (BP r33.1 r34.1).bind λr35=>
                                                     if !r35 then
                                                      some false
                                                     else
                                                      if !r33.2 then
                                                       some true
                                                      else
                                                       if(r33.1.length:Int)==s31.2.2.2 then
                                                        if !s31.2.2.1 then
                                                         some true
                                                        else
                                                         (Da r33.1 s31.2.1).bind λr36=>
                                                          some r36
                                                       else
                                                        some false
                                                | .inr s32=>
                                                 some s32
                                            else
                                             if !s22.2.2.1 then
                                              if s22.2.2.2.2.1 !=0 then
                                               some false
                                              else
                                               (Ay Aa ((s22.1.1,(s22.1.2.1,s22.1.2.2)),s22.2.1,s22.2.2.1,s22.2.2.2.1,s22.2.2.2.2.1,0)).bind λs37=>
                                                match s37 with
                                                | .inl s38=>
                                                 (AP (s38.1.1,(s38.1.2.1,s38.1.2.2))).bind λr40=>
                                                  (AT (s38.1.1,(s38.1.2.1,s38.1.2.2))).bind λr41=>
                                                   if r40.2 !=r41.2 then
                                                    some false
                                                   else
                                                    (BP r40.1 r41.1).bind λr42=>
                                                     if !r42 then
                                                      some false
                                                     else
                                                      if !r40.2 then
                                                       some true
                                                      else
                                                       if(r40.1.length:Int)==s38.2.2.2 then
                                                        if !s38.2.2.1 then
                                                         some true
                                                        else
                                                         (Da r40.1 s38.2.1).bind λr43=>
                                                          some r43
                                                       else
                                                        some false
                                                | .inr s39=>
                                                 some s39
                                             else
                                              (Ay Aa ((s22.1.1,(s22.1.2.1,s22.1.2.2)),s22.2.1,s22.2.2.1,s22.2.2.2.1,s22.2.2.2.2.1,0)).bind λs44=>
                                               match s44 with
                                               | .inl s45=>
                                                (AP (s45.1.1,(s45.1.2.1,s45.1.2.2))).bind λr47=>
                                                 (AT (s45.1.1,(s45.1.2.1,s45.1.2.2))).bind λr48=>
                                                  if r47.2 !=r48.2 then
                                                   some false
                                                  else
                                                   (BP r47.1 r48.1).bind λr49=>
                                                    if !r49 then
                                                     some false
                                                    else
                                                     if !r47.2 then
                                                      some true
                                                     else
                                                      if(r47.1.length:Int)==s45.2.2.2 then
                                                       if !s45.2.2.1 then
                                                        some true
                                                       else
                                                        (Da r47.1 s45.2.1).bind λr50=>
                                                         some r50
                                                      else
                                                       some false
                                               | .inr s46=>
                                                some s46
end T
open Go Go.Va
namespace T
section
variable {a:Lin} {p:Int} {V W N:Nat} {s:ES}
def esA (a:Lin):ES:=Ah a.1 a.2.2 a.2.1.toNat
def elR (a:Lin):Lin×Bool:=if BT a then((a.1,(a.2.1,(esA a).1++(esA a).2.2.filter (nzB a.2.1.toNat))),true)else((0,(0,[])),false)
def frR (a:Lin):List Int×Bool:=if BT a then(Ai a.2.1.toNat (esA a).2.1,true)else([],false)
def keR (a:Lin):List (List Int)×Bool:=if BT a then(B6 a.1 a.2.1.toNat (esA a),true)else([],false)
def coR (a:Lin):Int×Bool:=if BT a then(if BV a.2.1.toNat (esA a)then 0 else a.1^(Ai a.2.1.toNat (esA a).2.1).length,true)else(0,false)
def liR (a:Lin):List (List Int)×Bool:=
 if BT a then
  if BV a.2.1.toNat (esA a)then([],true)else
   if a.1^(Ai a.2.1.toNat (esA a).2.1).length>600 then([],false)else(Zn cmpL ((List.range (a.1.toNat^(Ai a.2.1.toNat (esA a).2.1).length)).map (CQ a.1 a.2.1.toNat (esA a) (Ai a.2.1.toNat (esA a).2.1))),true)
 else([],false)
theorem Fg (h:DW a):BX a=some (elR a)/\CJ a=some (elR a):=by
 obtain⟨p,v,rows⟩:=a
 unfold BX CJ elR esA
 rw[Bm h,Ca h]
 cases hg:BT (p,v,rows)with
 |false=>exact⟨rfl,rfl⟩
 |true=>
  obtain⟨hp,V,hv,hV,hN,hr⟩:=DB hg
  dsimp only at hp hv hN hr
  subst hv
  have hs:=Bs hp hr V (by omega)
  unfold Am BS
  have e1:=CN hp (show V<=V+1 by omega) (by omega) hr (by omega)
  have e2:=Bz hp (show V<=V+1 by omega) (by omega) hr (by omega)
  simp only[e1,e2,Option.bind_some,Bool.not_true,Bool.false_eq_true,if_false,if_true,Int.toNat_natCast]
  generalize Ah p rows V=s at hs
  have e3:=Fl hs (by omega) (by omega) (by omega)
  have e4:=Fa hs (by omega) (by omega) rows
  simp only[e3,e4,Option.bind_some]
  exact⟨trivial,trivial⟩
theorem Gh (h:DW a):CS a=some (frR a)/\CU a=some (frR a):=by
 obtain⟨p,v,rows⟩:=a
 unfold CS CU frR esA
 rw[Bm h,Ca h]
 cases hg:BT (p,v,rows)with
 |false=>exact⟨rfl,rfl⟩
 |true=>
  obtain⟨hp,V,hv,hV,hN,hr⟩:=DB hg
  dsimp only at hp hv hN hr
  subst hv
  have hs:=Bs hp hr V (by omega)
  unfold Am BS
  have e1:=CN hp (show V<=V+1 by omega) (by omega) hr (by omega)
  have e2:=Bz hp (show V<=V+1 by omega) (by omega) hr (by omega)
  simp only[e1,e2,Option.bind_some,Bool.not_true,Bool.false_eq_true,if_false,if_true,Int.toNat_natCast]
  generalize Ah p rows V=s at hs
  have e5:=FN hs (by omega) (by omega)
  have e5:Cu (s.1,(s.2.1,s.2.2)) (V:Int)=_:=e5
  have e6:=CB (p:=p) (V:=V) (s:=s) (by omega)
  simp only[e5,e6,Option.bind_some]
  exact⟨trivial,trivial⟩
theorem GU (h:DW a):Cd a=some (keR a)/\Cg a=some (keR a):=by
 obtain⟨p,v,rows⟩:=a
 unfold Cd Cg keR esA
 rw[Bm h,Ca h]
 cases hg:BT (p,v,rows)with
 |false=>exact⟨rfl,rfl⟩
 |true=>
  obtain⟨hp,V,hv,hV,hN,hr⟩:=DB hg
  dsimp only at hp hv hN hr
  subst hv
  have hs:=Bs hp hr V (by omega)
  unfold CG BS
  have e1:Cr p (V:Int) rows=some (DS p V (Ah p rows V)):=Hs (CN hp (show V<=V+1 by omega) (by omega) hr (by omega))
  have e2:=Bz hp (show V<=V+1 by omega) (by omega) hr (by omega)
  simp only[e1,e2,Option.bind_some,Bool.not_true,Bool.false_eq_true,if_false,if_true,Int.toNat_natCast]
  generalize Ah p rows V=s at hs
  have e3:=Hz hp hs (by omega) (by omega) (by omega)
  have e4:=El hp hs (by omega) (by omega) (by omega)
  have e4:B3 (s.1,(s.2.1,s.2.2)) p (V:Int)=_:=e4
  have e3:BF ((DS p V s).1,((DS p V s).2.1,((DS p V s).2.2.1,((DS p V s).2.2.2.1,(DS p V s).2.2.2.2))))=_:=e3
  simp only[e3,e4,Option.bind_some]
  exact⟨trivial,trivial⟩
theorem Ey (h:DW a):AX a=some (coR a)/\Bn a=some (coR a):=by
 obtain⟨R,c1,c2⟩:=Ex h
 have cv:=FZ h
 rw[cv]at c1
 obtain rfl:=Option.some.inj c1
 exact⟨cv,c2⟩
theorem Fv (h:DW a):AP a=some (liR a)/\AT a=some (liR a):=by
 obtain⟨cv,c2⟩:=Ey h
 obtain⟨p,v,rows⟩:=a
 have cv:AX (p,(v,rows))=_:=cv
 have c2:Bn (p,(v,rows))=_:=c2
 unfold AP AT
 dsimp only
 rw[cv,c2]
 unfold coR liR esA
 simp only[Option.bind_some]
 cases hg:BT (p,v,rows)with
 |false=>exact⟨rfl,rfl⟩
 |true=>
  obtain⟨hp,V,hv,hV,hN,hr⟩:=DB hg
  dsimp only at hp hv hN hr
  subst hv
  have hs:=Bs hp hr V (by omega)
  have hpb:2<=p/\p<=7:=by unfold pr4 at hp;omega
  have e1:=CN hp (show V<=V+1 by omega) (by omega) hr (by omega)
  have e2:=Bz hp (show V<=V+1 by omega) (by omega) hr (by omega)
  have e3:=Fq hp (V:=V) (W:=V+1) (by omega) (by omega) hr (by omega)
  unfold Am BS
  simp only[e1,e2,e3,Option.bind_some,Bool.not_true,Bool.false_eq_true,if_false,if_true,Int.toNat_natCast]
  generalize Ah p rows V=s at hs
  obtain⟨F,hF⟩: ∃F,F=Ai V s.2.1:=⟨_,rfl⟩
  have e6:Aj (Ce p V s)=some F:=by rw[hF];exact CB (by omega)
  have e7:=El hp hs (by omega) (by omega) (by omega)
  have e7:B3 (s.1,(s.2.1,s.2.2)) p (V:Int)=_:=e7
  have hFV:F.length<=V:=by rw[hF];exact BJ
  rw[←hF]
  have hlim:lim=1099511627776:=rfl
  cases BV V s with
  |true=>
   have i1:=EX (M:=0) hp hs (show V<V+1 by omega) (by omega) (by omega) hF (p,((V:Int),rows)) rfl (by omega)
   have i1:AE Aa ((p,((V:Int),rows)),(0:Int),Ce p V s,(F.length:Int),[],0)=some []:=i1
   have i2:Ao Aa ((p,((V:Int),rows)),[],(0:Int),[],false,B6 p V s,0)=some []:=by
    have:=BW 0 (λm (_:Unit) i=>Ao m ((p,((V:Int),rows)),[],(0:Int),[],false,B6 p V s,i)) (λ_=>()) (r:=some []) (λm k hk=>by omega) (λm=>by simp only[Ao];rw[if_neg (by simp)]) (n:=Aa) (by unfold Aa;omega)
    exact this
   have i3:AC [] ()=some []:=by
    unfold AC
    rw[if_pos (by simp)];simp[Zn]
   simp only[if_true]
   rw[if_neg (by simp),if_neg (by simp)]
   simp only[e6,e7,i1,i2,i3,Option.bind_some]
   exact⟨trivial,trivial⟩
  |false=>
   simp only[Bool.false_eq_true,if_false]
   obtain⟨M,hM⟩: ∃M:Nat,M=p.toNat^F.length:=⟨_,rfl⟩
   have hMp:p^F.length=(M:Int):=by rw[hM,Int.natCast_pow];congr 1;omega
   rw[hMp,←hM]
   by_cases hbig:(M:Int)>600
   ·rw[if_pos (by simpa using hbig),if_pos hbig,if_pos (by simpa using hbig)]
    exact⟨rfl,rfl⟩
   ·rw[if_neg (by simpa using hbig),if_neg hbig,if_neg (by simpa using hbig)]
    have i1:=EX (M:=M) hp hs (show V<V+1 by omega) (by omega) (by omega) hF (p,((V:Int),rows)) rfl (by omega)
    have i2:=Gg (M:=M) hp hs (show V<V+1 by omega) (by omega) (by omega) hF (p,((V:Int),rows)) rfl (by omega) hM
    have i3:AC ((List.range M).map (CQ p V s F)) ()=some (Zn cmpL ((List.range M).map (CQ p V s F))):=by
     unfold AC
     rw[if_pos]
     refine⟨by simp;omega,?_⟩
     rw[List.all_eq_true]
     intro r hr
     obtain⟨i,_,rfl⟩:=List.mem_map.1 hr
     rw[decide_eq_true_iff,E9];omega
    simp only[e6,e7,i1,i2,i3,Option.bind_some]
    exact⟨trivial,trivial⟩
end
theorem E2 {x y:List (List Int)} (h:x.length<=1048576) (hr: ∀r∈x,r.length<=1048576):BP x y=some (decide (x=y)):=by
 unfold BP
 by_cases hl:x.length=y.length
 ·rw[if_neg (by simp[hl]),eqX x y hl (λn i=>Cn n (x,y,i)) ?_ ?_ (by unfold Aa;omega)]
  ·by_cases h:x=y<;>simp[h]
  ·intro n k h1 h2
   simp only[Cn,Ae,AJ h1,AJ h2,Ac (show k<4611686018427387904 by omega),EM (hr _ (List.getElem_mem h1))]
   by_cases h:x[k]=y[k]<;>simp[h1,h2,h]
  ·intro n
   simp[Cn]
 ·rw[if_pos (by simp;omega),decide_eq_false (λe=>hl (by rw[e]))]
theorem Fb {a:Lin} (h:DW a):CH a a=some true:=by
 unfold CH
 rw[if_pos (by simp),if_pos (by simp),E2 h.1 h.2]
 simp
theorem HE {l:List (List Int)} {t:List Int} (h:l.length<=1048576) (hr: ∀r∈l,r.length<=1048576):Da l t=some (decide (t∈l)):=by
 unfold Da
 have:=Fh l (λn i=>C3 n (l,t,i)) (λr=>!decide (r=t)) (.inr true) (.inl ()) (λn k hk=>by
  simp only[C3,Ae,AJ hk,Ac (show k<4611686018427387904 by omega),EM (hr _ (List.getElem_mem hk))]
  by_cases e:l[k]=t<;>simp[e,hk]) (λn=>by simp[C3]) (n:=Aa) (by unfold Aa;omega)
 rw[this]
 by_cases hm:t∈l
 ·have:l.all (λr=>!decide (r=t))=false:=by
   rw[List.all_eq_false];exact⟨t,hm,by simp⟩
  rw[this];simp[hm]
 ·have:l.all (λr=>!decide (r=t))=true:=by
   rw[List.all_eq_true];intro r hr;simp;exact λe=>hm (e▸hr)
  rw[this];simp[hm]
end T
open Go Go.Va
namespace T
section
variable {a:Lin} {p:Int} {V N:Nat} {s:ES} {A:List (List Int)}
theorem FR (h0:0<=p) (h1:p<=7): ∀k:Nat,0<=p^k/\p^k<=(7^k:Nat)
 |0=>by simp
 |k+1=>by
  have ih:=FR h0 h1 k
  rw[Int.pow_succ,Nat.pow_succ]
  refine⟨Int.mul_nonneg ih.1 h0,?_⟩
  have h2:p^k*p<=p^k*7:=Int.mul_le_mul_of_nonneg_left h1 ih.1
  have h3:p^k*7<=(7^k:Nat)*7:=Int.mul_le_mul_of_nonneg_right ih.2 (by decide)
  rw[Int.natCast_mul]
  exact Int.le_trans h2 h3
theorem GM {k:Nat} (h:k<=8):7^k<=5764801:=Nat.le_trans (Nat.pow_le_pow_right (by decide) h) (by decide)
theorem Ht {l:Lin} (h0:0<=l.1) (h1:l.1<=7) {x F:List Int} {b:Bool} {K:List (List Int)} {n:Int} (hF:F.length<=8):Bf Aa (l,x,b,F,K,n,1,0)=some (l,x,b,K,n,l.1^F.length):=by
 have:=BW F.length (λf o i=>Bf f (l,x,b,F,K,n,o,i)) (λk=>l.1^k) (r:=some (l,x,b,K,n,l.1^F.length)) (λf k hk=>?_) (λf=>?_) (n:=Aa) (by unfold Aa;omega)
 ·rw[Int.pow_zero]at this;exact this
 ·have e1:=FR h0 h1 (k+1)
  have e2:=GM (k:=k+1) (by omega)
  simp only[Bf,Ac (show k<4611686018427387904 by omega)]
  have e3:l.1^k*l.1=l.1^(k+1):=(Int.pow_succ l.1 k).symm
  rw[if_pos (by simp;omega),e3,A8 (by omega) (by omega)]
 ·simp only[Bf]
  rw[if_neg (by simp)]
theorem E8 {x y:Int} (hp:p<=7) (hx:0<=x/\x<p) (hy:0<=y/\y<p):0<=x*y/\x*y<=49:=by
 have:=Ev hx.1 (show x<=8 by omega) hy.1 (show y<=8 by omega)
 refine⟨this.1,?_⟩
 have h1:x*y<=x*6:=Int.mul_le_mul_of_nonneg_left (by omega) hx.1
 omega
theorem Hv {l:Lin} (hp:l.1<=7) {x:List Int} {b:Bool} {K:List (List Int)} {n:Int} {i:Nat} (hi:i<l.2.2.length) (hV:x.length<=8) (hr:x.length<(l.2.2[i]).length) (h1: ∀y∈l.2.2[i],0<=y/\y<l.1) (h2: ∀y∈x,0<=y/\y<l.1):
  Bg Aa (l,x,b,K,n,(i:Int),0,0)=some (l,x,b,K,n,(i:Int),Bu x.length λv=>(l.2.2[i]).getD v 0*x.getD v 0):=by
 have hb: ∀v,v<x.length->0<=(l.2.2[i]).getD v 0*x.getD v 0/\(l.2.2[i]).getD v 0*x.getD v 0<=49:=λv hv=>by
  rw[Ab (show v<(l.2.2[i]).length by omega),Ab hv]
  exact E8 hp (h1 _ (List.getElem_mem _)) (h2 _ (List.getElem_mem _))
 have:=BW x.length (λf o v=>Bg f (l,x,b,K,n,(i:Int),o,v)) (λk=>Bu k λv=>(l.2.2[i]).getD v 0*x.getD v 0) (r:=some (l,x,b,K,n,(i:Int),Bu x.length λv=>(l.2.2[i]).getD v 0*x.getD v 0)) (λf k hk=>?_) (λf=>?_) (n:=Aa) (by unfold Aa;omega)
 ·exact this
 ·have e1:=hb k hk
  have e2:=Dh (n:=k) (h:=λv=>(l.2.2[i]).getD v 0*x.getD v 0) (M:=49) λj hj=>hb j (by omega)
  simp only[Bg,Ae,AJ hi,hi,if_true,BR,Ac (show k<4611686018427387904 by omega),hk,show k<(l.2.2[i]).length by omega]
  rw[if_pos (by simp;omega),B5,A8 (x:=(l.2.2[i]).getD k 0*x.getD k 0) (by omega) (by omega),A8 (by omega) (by omega)]
 ·simp only[Bg]
  rw[if_neg (by simp)]
theorem Hx {l:Lin} (hp:l.1<=7) {x:List Int} {b:Bool} {K:List (List Int)} {n:Int} {i j:Nat} (hi:i<l.2.2.length) (hj:j<K.length) (hV:(K[j]).length<=8) (hr:(K[j]).length<(l.2.2[i]).length) (h1: ∀y∈l.2.2[i],0<=y/\y<l.1) (h2: ∀y∈K[j],0<=y/\y<l.1):
  Bh Aa (l,x,b,K,n,(i:Int),0,(j:Int),0)=some (l,x,b,K,n,(i:Int),(Bu (K[j]).length λv=>(l.2.2[i]).getD v 0*(K[j]).getD v 0),(j:Int)):=by
 have hb: ∀v,v<(K[j]).length->0<=(l.2.2[i]).getD v 0*(K[j]).getD v 0/\(l.2.2[i]).getD v 0*(K[j]).getD v 0<=49:=λv hv=>by
  rw[Ab (show v<(l.2.2[i]).length by omega),Ab hv]
  exact E8 hp (h1 _ (List.getElem_mem _)) (h2 _ (List.getElem_mem _))
 have:=BW (K[j]).length (λf o v=>Bh f (l,x,b,K,n,(i:Int),o,(j:Int),v)) (λk=>Bu k λv=>(l.2.2[i]).getD v 0*(K[j]).getD v 0) (r:=some (l,x,b,K,n,(i:Int),(Bu (K[j]).length λv=>(l.2.2[i]).getD v 0*(K[j]).getD v 0),(j:Int))) (λf k hk=>?_) (λf=>?_) (n:=Aa) (by unfold Aa;omega)
 ·exact this
 ·have e1:=hb k hk
  have e2:=Dh (n:=k) (h:=λv=>(l.2.2[i]).getD v 0*(K[j]).getD v 0) (M:=49) λj hj=>hb j (by omega)
  simp only[Bh,Ae,AJ hi,hi,AJ hj,hj,if_true,BR,Ac (show k<4611686018427387904 by omega),hk,show k<(l.2.2[i]).length by omega]
  rw[if_pos (by simp;omega),B5,A8 (x:=(l.2.2[i]).getD k 0*(K[j]).getD k 0) (by omega) (by omega),A8 (by omega) (by omega)]
 ·simp only[Bh,Ae,AJ hj,hj,if_true]
  rw[if_neg (by simp)]
theorem FU (hp:2<=p) {S y:Int} (h0:0<=S) (hy:0<=y/\y<p) (h:cg p S y):Int.tmod S p=y:=by
 have h1:=E3 (p:=p) h0
 rw[Int.tmod_eq_emod_of_nonneg h0]at h1⊢
 exact HJ (C1 h1 h) ⟨Int.emod_nonneg _ (by omega),Int.emod_lt_of_pos _ (by omega)⟩ hy
theorem Hw {l:Lin} (hp:2<=l.1/\l.1<=7) {x:List Int} {b:Bool} {K:List (List Int)} {n:Int} {i V:Nat} (hi:i<l.2.2.length) (hK:K.length<=8) (hV:V<=8) (hr:V<(l.2.2[i]).length) (h1: ∀y∈l.2.2[i],0<=y/\y<l.1)
  (h2: ∀k∈K,k.length=V/\(∀y∈k,0<=y/\y<l.1)/\cg l.1 (Bu V λv=>(l.2.2[i]).getD v 0*k.getD v 0) 0):
  AZ Aa (l,x,b,K,n,(i:Int),0)=some (.inl (l,x,b,K,n,(i:Int))):=by
 have:=BW K.length (λf (_:Unit) v=>AZ f (l,x,b,K,n,(i:Int),v)) (λk=>()) (r:=some (.inl (l,x,b,K,n,(i:Int)))) (λf k hk=>?_) (λf=>?_) (n:=Aa) (by unfold Aa;omega)
 ·exact this
 ·obtain⟨g1,g2,g3⟩:=h2 _ (List.getElem_mem hk)
  have e1:=Hx (x:=x) (b:=b) (n:=n) hp.2 hi hk (by omega) (by omega) h1 g2
  have e1:Bh Aa ((l.1,(l.2.1,l.2.2)),x,b,K,n,(i:Int),0,(k:Int),0)=_:=e1
  rw[g1]at e1
  have hS:0<=Bu V λv=>(l.2.2[i]).getD v 0*(K[k]).getD v 0:=(Dh (M:=49) λj hj=>by
   rw[Ab (show j<(l.2.2[i]).length by omega),Ab (show j<(K[k]).length by omega)]
   exact E8 hp.2 (h1 _ (List.getElem_mem _)) (g2 _ (List.getElem_mem _))).1
  have e2:=FU hp.1 hS (show 0<=(0:Int)/\0<l.1 by omega) g3
  simp only[AZ,e1,Option.bind_some,e2,Ac (show k<4611686018427387904 by omega)]
  rw[if_pos (by simp;omega),if_pos (by omega),if_neg (by simp)]
 ·simp only[AZ]
  rw[if_neg (by simp)]
theorem Hu {l:Lin} {V:Nat} (hp:2<=l.1/\l.1<=7) (hv:l.2.1=(V:Int)) (hV:V<=8) (hN:l.2.2.length<=8) (hr: ∀r∈l.2.2,Ak l.1 (V+1) r) {x:List Int} {b:Bool} {K:List (List Int)} {n:Int} (hK:K.length<=8)
  (hx:x.length<=V/\ ∀y∈x,0<=y/\y<l.1) (hb:b=true->x.length=V/\ ∀r∈l.2.2,cg l.1 (Bu V λv=>r.getD v 0*x.getD v 0) (r.getD V 0))
  (h2: ∀k∈K,k.length=V/\(∀y∈k,0<=y/\y<l.1)/\ ∀r∈l.2.2,cg l.1 (Bu V λv=>r.getD v 0*k.getD v 0) 0):
  Ay Aa (l,x,b,K,n,0)=some (.inl (l,x,b,n)):=by
 have:=BW l.2.2.length (λf (_:Unit) v=>Ay f (l,x,b,K,n,v)) (λk=>()) (r:=some (.inl (l,x,b,n))) (λf i hi=>?_) (λf=>?_) (n:=Aa) (by unfold Aa;omega)
 ·exact this
 ·have hrow:=hr _ (List.getElem_mem hi)
  have hrl:=hrow.1
  have e1:=Hv (b:=b) (K:=K) (n:=n) hp.2 hi (by omega) (by omega) hrow.2 hx.2
  have e1:Bg Aa ((l.1,(l.2.1,l.2.2)),x,b,K,n,(i:Int),0,0)=_:=e1
  have e2:=Hw (x:=x) (b:=b) (n:=n) hp hi hK hV (by omega) hrow.2 λk hk=>⟨(h2 k hk).1,(h2 k hk).2.1,(h2 k hk).2.2 _ (List.getElem_mem hi)⟩
  have e2:AZ Aa ((l.1,(l.2.1,l.2.2)),x,b,K,n,(i:Int),0)=_:=e2
  simp only[Ay,e1,Option.bind_some,Ac (show i<4611686018427387904 by omega)]
  rw[if_pos (by simp;omega)]
  cases b with
  |true=>
   obtain⟨h3,h4⟩:=hb rfl
   have h5:=h4 _ (List.getElem_mem hi)
   have hS:0<=Bu V λv=>(l.2.2[i]).getD v 0*x.getD v 0:=(Dh (M:=49) λj hj=>by
    rw[Ab (show j<(l.2.2[i]).length by omega),Ab (show j<x.length by omega)]
    exact E8 hp.2 (hrow.2 _ (List.getElem_mem _)) (hx.2 _ (List.getElem_mem _))).1
   have e3:=FU hp.1 hS (Be hrow (show V<V+1 by omega)) h5
   simp only[if_true,Ae,hi,AJ hi,hv,show V<(l.2.2[i]).length by omega,BR,h3,e3]
   rw[if_pos (by omega),if_neg (by simp)]
   simp only[hv]at e2
   simp only[e2,Option.bind_some,Ac (show i<4611686018427387904 by omega)]
  |false=>
   simp only[Bool.false_eq_true,if_false,e2,Option.bind_some,Ac (show i<4611686018427387904 by omega)]
 ·simp only[Ay]
  rw[if_neg (by simp)]
end
end T
open Go Go.Va
namespace T
section
variable {a:Lin} {p:Int} {V N:Nat} {s:ES} {A:List (List Int)}
theorem FW (hp:pr4 p) (hs:ESok p (V+1) N V s) (i:Nat):0<=CE V s i/\CE V s i<p:=by
 unfold CE
 split
 ·unfold pr4 at hp;omega
 ·rename_i h0
  have hm:(i:Int)∈s.2.1:=by
   by_cases hm:(i:Int)∈s.2.1
   ·exact hm
   ·exact absurd (Bt.2 hm) h0
  obtain⟨j,hj,h1,_⟩:=Cs hm
  rw[h1,Int.toNat_natCast]
  have hjt:j<s.1.length:=by have:=hs.bl;omega
  exact Be (hs.t _ (B8 hjt)) (by omega)
theorem GF (hp:pr4 p) (hV:V<=8) (hA:A.length<=8) (hr: ∀r∈A,Ak p (V+1) r):BT (p,((V:Int),A))=true:=by
 unfold BT
 simp only[Bool.and_eq_true,decide_eq_true_eq,List.all_eq_true]
 refine⟨⟨⟨?_,by omega,by omega⟩,hA⟩,λr h=>⟨by rw[(hr r h).1];rfl,?_⟩⟩
 ·unfold Db;unfold pr4 at hp;simp;omega
 ·unfold Cv;rw[List.all_eq_true];intro x hx;simpa using (hr r h).2 x hx
theorem Ft {F x:List Int} (h: ∀k,x.getD k 0=0) (u:Nat): ∀k,CF p V s F x u k=CE V s u
 |0=>rfl
 |k+1=>by rw[CF,Ft h u k,h k,Int.mul_zero,Int.add_zero]
theorem Gf (hp:pr4 p) (hs:ESok p (V+1) N V s) {F:List Int}:CQ p V s F 0=CD V s:=by
 unfold CQ Dn CD
 refine List.map_congr_left λu _=>?_
 rw[Ft λk=>?_]
 ·have:=FW hp hs u
  exact Int.emod_eq_of_lt this.1 this.2
 ·rcases Nat.lt_or_ge k (cI (dg p.toNat F.length 0)).length with h|h
  ·have hm:=B8 (d:=0) h
   unfold cI at hm
   obtain⟨y,hy,e⟩:=List.mem_map.1 hm
   rw[FI]at hy
   have:=List.eq_of_mem_replicate hy
   unfold cI
   rw[←e,this];rfl
  ·rw[List.getD_eq_getElem?_getD,List.getElem?_eq_none h];rfl
theorem Fi (hg:BT a=true):DW (elR a).1/\elR (elR a).1=elR a/\B9 (elR a).1=B9 a:=by
 obtain⟨hp,hv,hV,hN,hr⟩:=DT hg
 have hs:=Bs hp hr a.2.1.toNat (by omega)
 have hrr:=E4 hp hr a.2.1.toNat (by omega)
 have e0:(elR a)=((a.1,(a.2.1,(esA a).1++(esA a).2.2.filter (nzB a.2.1.toNat))),true):=by unfold elR;rw[hg];rfl
 have es:esA a=Ah a.1 a.2.2 a.2.1.toNat:=rfl
 rw[e0,es]
 have esol:B9 a=if BV a.2.1.toNat (Ah a.1 a.2.2 a.2.1.toNat)then([],false)else(CD a.2.1.toNat (Ah a.1 a.2.2 a.2.1.toNat),true):=by unfold B9;rw[hg];rfl
 rw[esol]
 generalize Ah a.1 a.2.2 a.2.1.toNat=s at*
 obtain⟨Z,hZ⟩: ∃Z,Z=s.2.2.filter (nzB a.2.1.toNat):=⟨_,rfl⟩
 have hZm: ∀r∈Z,Ak a.1 (a.2.1.toNat+1) r/\ ∀u,u<a.2.1.toNat->r.getD u 0=0:=λr h=>by
  rw[hZ]at h
  have:=(List.mem_filter.1 h).1
  exact⟨hs.l r this,hrr.zl r this⟩
 have hZl:Z.length<=s.2.2.length:=by rw[hZ];exact List.length_filter_le _ _
 have hR: ∀r∈s.1++Z,Ak a.1 (a.2.1.toNat+1) r:=λr h=>(List.mem_append.1 h).elim (hs.t r) λh=>(hZm r h).1
 have hn:=hs.n
 have hl:(s.1++Z).length<=8:=by rw[List.length_append];omega
 have hgm:BT (a.1,(a.2.1,s.1++Z))=true:=by rw[←hv];exact GF hp hV hl hR
 have ea:Ah a.1 (s.1++Z) a.2.1.toNat=(s.1,s.2.1,Z):=FA hp hs hrr (by omega) hZm
 have hZZ:Z.filter (nzB a.2.1.toNat)=Z:=by rw[hZ,List.filter_filter];simp
 rw[←hZ]
 dsimp only
 refine⟨⟨by dsimp only;omega,λr h=>by have:=(hR r h).1;omega⟩,?_,?_⟩
 ·unfold elR esA
  rw[hgm]
  dsimp only
  rw[ea,if_pos rfl]
  dsimp only
  rw[hZZ]
 ·unfold B9
  rw[hgm]
  dsimp only
  rw[ea,if_pos rfl]
  have ef:BV a.2.1.toNat (s.1,s.2.1,Z)=BV a.2.1.toNat s:=by
   unfold BV
   dsimp only
   rw[hZ,Bool.eq_iff_iff,List.any_eq_true,List.any_eq_true]
   exact⟨λ⟨r,h1,h2⟩=>⟨r,(List.mem_filter.1 h1).1,h2⟩,λ⟨r,h1,h2⟩=>⟨r,List.mem_filter.2 ⟨h1,h2⟩,h2⟩⟩
  rw[ef]
  rfl
theorem D1 {x:List Int} (h:x.length<=1048576):Cm x x=some true:=by rw[EM h];simp
theorem Eo {x:List (List Int)} (h:x.length<=1048576) (hr: ∀r∈x,r.length<=1048576):BP x x=some true:=by rw[E2 h hr];simp
theorem Ea {code:List Int} (h1:code.length<=65536) (h2: ∀x∈code,0<=x/\x<256): ∃l,CA code=some l/\DW l:=by
 obtain⟨c',l,e,_,l1,l2,_⟩:=Gb (k:=0) (c:=(code,(0,0))) ⟨h1,h2,by simp,by simp⟩ (by omega)
 refine⟨l,?_,⟨by omega,λr hr=>by have:=l2 r hr;omega⟩⟩
 unfold CA Dg
 simp only[e,Option.bind_some]
theorem FnLinear_law {code:List Int} (h:wfT (.slice (.num .u8)) code):DN code=some true:=by
 unfold DN EZ
 simp only[Option.bind_some]
 by_cases hb:(code.length:Int)>65536
 ·rw[if_pos (decide_eq_true hb)]
 ·rw[if_neg (by simpa using hb)]
  have h1:code.length<=65536:=by omega
  have h2: ∀x∈code,0<=x/\x<256:=λx hx=>by
   have:IntKind.u8.min<=x/\x<=IntKind.u8.max:=h.2 x hx
   have e1:IntKind.u8.min=0:=by decide
   have e2:IntKind.u8.max=255:=by decide
   omega
  obtain⟨l,el,hl⟩:=Ea h1 h2
  obtain⟨x1,x2⟩:=Fg hl
  obtain⟨y1,y2⟩:=Du hl
  obtain⟨z1,z2⟩:=Gh hl
  obtain⟨k1,k2⟩:=GU hl
  obtain⟨c1,c2⟩:=Ey hl
  obtain⟨s1,s2⟩:=Fv hl
  have i1:=Bm hl
  have x1:BX (l.1,(l.2.1,l.2.2))=_:=x1
  have x2:CJ (l.1,(l.2.1,l.2.2))=_:=x2
  have y1:BG (l.1,(l.2.1,l.2.2))=_:=y1
  have y2:Ct (l.1,(l.2.1,l.2.2))=_:=y2
  have z1:CS (l.1,(l.2.1,l.2.2))=_:=z1
  have z2:CU (l.1,(l.2.1,l.2.2))=_:=z2
  have k1:Cd (l.1,(l.2.1,l.2.2))=_:=k1
  have k2:Cg (l.1,(l.2.1,l.2.2))=_:=k2
  have c1:AX (l.1,(l.2.1,l.2.2))=_:=c1
  have c2:Bn (l.1,(l.2.1,l.2.2))=_:=c2
  have s1:AP (l.1,(l.2.1,l.2.2))=_:=s1
  have s2:AT (l.1,(l.2.1,l.2.2))=_:=s2
  have i1:Bp (l.1,(l.2.1,l.2.2))=_:=i1
  have hbe: ∀b:Bool,(b !=b)=false:=λb=>by cases b<;>rfl
  have hne: ∀n:Int,(n !=n)=false:=λn=>by simp
  have hse:DW (elR l).1/\(B9 l).1.length<=1048576/\(frR l).1.length<=1048576/\((keR l).1.length<=1048576/\ ∀r∈(keR l).1,r.length<=1048576)/\((liR l).1.length<=1048576/\ ∀r∈(liR l).1,r.length<=1048576):=by
   cases hg:BT l with
   |false=>
    have e1:elR l=((0,(0,[])),false):=by unfold elR;rw[hg];rfl
    have e2:B9 l=([],false):=by unfold B9;rw[hg];rfl
    have e3:frR l=([],false):=by unfold frR;rw[hg];rfl
    have e4:keR l=([],false):=by unfold keR;rw[hg];rfl
    have e5:liR l=([],false):=by unfold liR;rw[hg];rfl
    rw[e1,e2,e3,e4,e5]
    exact⟨⟨by simp,by simp⟩,by simp,by simp,⟨by simp,by simp⟩,⟨by simp,by simp⟩⟩
   |true=>
    obtain⟨hp,hv,hV,hN,hr⟩:=DT hg
    refine⟨(Fi hg).1,?_,?_,⟨?_,?_⟩,?_⟩
    ·unfold B9;rw[hg];simp only[if_true];split
     ·simp
     ·simp[CD];omega
    ·unfold frR;rw[hg]
     have:=BJ (N:=l.2.1.toNat) (b:=(esA l).2.1)
     simp only[if_true];omega
    ·unfold keR;rw[hg]
     have:=BJ (N:=l.2.1.toNat) (b:=(esA l).2.1)
     simp only[if_true,B6,List.length_map];omega
    ·unfold keR;rw[hg]
     intro r hr
     obtain⟨f,_,rfl⟩:=List.mem_map.1 hr
     simp[C2];omega
    ·unfold liR;rw[hg]
     simp only[if_true]
     split
     ·simp
     ·split
      ·simp
      ·rename_i hbig
       have hpb:2<=l.1/\l.1<=7:=by unfold pr4 at hp;omega
       have e:((l.1.toNat^(Ai l.2.1.toNat (esA l).2.1).length:Nat):Int)=l.1^(Ai l.2.1.toNat (esA l).2.1).length:=by rw[Int.natCast_pow];congr 1;omega
       have hp':=Dq ((List.range (l.1.toNat^(Ai l.2.1.toNat (esA l).2.1).length)).map (CQ l.1 l.2.1.toNat (esA l) (Ai l.2.1.toNat (esA l).2.1)))
       refine⟨by dsimp only;rw[hp'.length_eq];simp;omega,λr hr=>?_⟩
       obtain⟨i,_,rfl⟩:=List.mem_map.1 (hp'.mem_iff.1 hr)
       rw[E9];omega
  obtain⟨h3,h4,h5,h6,h7⟩:=hse
  have v1:CH ((elR l).1.1,((elR l).1.2.1,(elR l).1.2.2)) ((elR l).1.1,((elR l).1.2.1,(elR l).1.2.2))=_:=Fb h3
  simp only[el,x1,x2,y1,y2,z1,z2,k1,k2,c1,c2,s1,s2,i1,v1,D1 h4,D1 h5,Eo h6.1 h6.2,hbe,hne,Option.bind_some,Bool.false_eq_true,if_false,Bool.not_true]
  cases hg:BT l with
  |false=>
   have e1:elR l=((0,(0,[])),false):=by unfold elR;rw[hg];rfl
   have e2:B9 l=([],false):=by unfold B9;rw[hg];rfl
   have e3:frR l=([],false):=by unfold frR;rw[hg];rfl
   have e4:keR l=([],false):=by unfold keR;rw[hg];rfl
   have e5:coR l=(0,false):=by unfold coR;rw[hg];rfl
   rw[e1,e2,e3,e4,e5]
   simp
  |true=>
   obtain⟨hp,hv,hV,hN,hr⟩:=DT hg
   have hpb:2<=l.1/\l.1<=7:=by unfold pr4 at hp;omega
   obtain⟨_,g2,g3⟩:=Fi hg
   have w1:=(Fg h3).1
   have w2:=(Du h3).1
   rw[g2]at w1
   rw[g3]at w2
   have w1:BX ((elR l).1.1,((elR l).1.2.1,(elR l).1.2.2))=_:=w1
   have w2:BG ((elR l).1.1,((elR l).1.2.1,(elR l).1.2.2))=_:=w2
   have f1:(elR l).2=true:=by unfold elR;rw[hg];rfl
   have f2:(frR l).2=true:=by unfold frR;rw[hg];rfl
   have f3:(keR l).2=true:=by unfold keR;rw[hg];rfl
   have f4:(coR l).2=true:=by unfold coR;rw[hg];rfl
   have f5:(keR l).1.length=(frR l).1.length:=by unfold keR frR;rw[hg];simp[B6]
   have f6:(frR l).1=Ai l.2.1.toNat (esA l).2.1:=by unfold frR;rw[hg];rfl
   have f7:(keR l).1=B6 l.1 l.2.1.toNat (esA l):=by unfold keR;rw[hg];rfl
   have hFl:(frR l).1.length<=8:=by rw[f6];have:=BJ (N:=l.2.1.toNat) (b:=(esA l).2.1);omega
   have l32:=Ht (l:=l) (by omega) hpb.2 (x:=(B9 l).1) (b:=(B9 l).2) (K:=(keR l).1) (n:=(coR l).1) hFl
   have l32:Bf Aa ((l.1,(l.2.1,l.2.2)),(B9 l).1,(B9 l).2,(frR l).1,(keR l).1,(coR l).1,1,0)=_:=l32
   have hs:=Bs hp hr l.2.1.toNat (by omega)
   have hs:ESok l.1 (l.2.1.toNat+1) l.2.2.length l.2.1.toNat (esA l):=hs
   have hsl:(B9 l).1.length<=l.2.1.toNat/\ ∀y∈(B9 l).1,0<=y/\y<l.1:=by
    unfold B9;rw[hg];simp only[if_true];split
    ·simp
    ·refine⟨by simp[CD],λy hy=>?_⟩
     obtain⟨i,_,rfl⟩:=List.mem_map.1 hy
     exact FW hp hs i
   have hsb:(B9 l).2=true->(B9 l).1.length=l.2.1.toNat/\ ∀r∈l.2.2,cg l.1 (Bu l.2.1.toNat λv=>r.getD v 0*(B9 l).1.getD v 0) (r.getD l.2.1.toNat 0):=by
    intro ht
    cases hf:BV l.2.1.toNat (Ah l.1 l.2.2 l.2.1.toNat)with
    |true=>unfold B9 at ht;rw[hg,hf]at ht;simp at ht
    |false=>
     have e:(B9 l).1=CD l.2.1.toNat (Ah l.1 l.2.2 l.2.1.toNat):=by unfold B9;rw[hg,hf];rfl
     rw[e]
     refine⟨by simp[CD],λr hrm=>?_⟩
     have:=GR hp hr hf r hrm
     have ec:(Bu l.2.1.toNat λv=>r.getD v 0*(CD l.2.1.toNat (Ah l.1 l.2.2 l.2.1.toNat)).getD v 0)=Bu l.2.1.toNat λv=>r.getD v 0*CE l.2.1.toNat (Ah l.1 l.2.2 l.2.1.toNat) v:=CR λi hi=>by
      rw[Ab (show i<(CD l.2.1.toNat (Ah l.1 l.2.2 l.2.1.toNat)).length by simp[CD];omega)];simp[CD]
     rw[ec]
     exact this
   have hke: ∀k∈(keR l).1,k.length=l.2.1.toNat/\(∀y∈k,0<=y/\y<l.1)/\ ∀r∈l.2.2,cg l.1 (Bu l.2.1.toNat λv=>r.getD v 0*k.getD v 0) 0:=by
    rw[f7]
    intro k hk
    have hkr:=G7 hp hs hk
    refine⟨hkr.1,hkr.2,λr hrm=>?_⟩
    obtain⟨f,hf,rfl⟩:=List.mem_map.1 hk
    obtain⟨u,hu,rfl⟩:=C8 hf
    have:=F9 hp hr hu (EU hf) hrm
    have ec:(Bu l.2.1.toNat λv=>r.getD v 0*(C2 l.1 l.2.1.toNat (esA l) ((u:Int)).toNat).getD v 0)=Bu l.2.1.toNat λv=>r.getD v 0*CP l.1 (esA l) u v:=CR λi hi=>by
     rw[Ab (show i<(C2 l.1 l.2.1.toNat (esA l) ((u:Int)).toNat).length by simp[C2];omega)];simp[C2]
    rw[ec]
    exact this
   have l38:=Hu (n:=(coR l).1) hpb hv.symm hV hN hr (b:=(B9 l).2) (K:=(keR l).1) (by omega) hsl hsb hke
   have l38:Ay Aa ((l.1,(l.2.1,l.2.2)),(B9 l).1,(B9 l).2,(keR l).1,(coR l).1,0)=_:=l38
   have hcf:(B9 l).2=!BV l.2.1.toNat (esA l):=by unfold B9 esA;rw[hg];simp only[if_true];split<;>simp_all
   have hvi:(liR l).2=true->((liR l).1.length:Int)=(coR l).1/\((B9 l).2=true->Da (liR l).1 (B9 l).1=some true):=by
    intro ht
    have e1:coR l=(if BV l.2.1.toNat (esA l)then 0 else l.1^(Ai l.2.1.toNat (esA l).2.1).length,true):=by unfold coR;rw[hg];rfl
    cases hf:BV l.2.1.toNat (esA l)with
    |true=>
     have e2:liR l=([],true):=by unfold liR;rw[hg,hf];rfl
     rw[e1,e2,hf]
     refine⟨rfl,λh=>?_⟩
     rw[hcf,hf]at h;simp at h
    |false=>
     have hbig: ¬l.1^(Ai l.2.1.toNat (esA l).2.1).length>600:=λhbig=>by unfold liR at ht;rw[hg,hf,if_pos hbig]at ht;simp at ht
     have e2:liR l=(Zn cmpL ((List.range (l.1.toNat^(Ai l.2.1.toNat (esA l).2.1).length)).map (CQ l.1 l.2.1.toNat (esA l) (Ai l.2.1.toNat (esA l).2.1))),true):=by unfold liR;rw[hg,hf,if_neg hbig];rfl
     have e:((l.1.toNat^(Ai l.2.1.toNat (esA l).2.1).length:Nat):Int)=l.1^(Ai l.2.1.toNat (esA l).2.1).length:=by rw[Int.natCast_pow];congr 1;omega
     have hp':=Dq ((List.range (l.1.toNat^(Ai l.2.1.toNat (esA l).2.1).length)).map (CQ l.1 l.2.1.toNat (esA l) (Ai l.2.1.toNat (esA l).2.1)))
     refine⟨?_,λ_=>?_⟩
     ·rw[e1,e2,hf]
      dsimp only
      rw[hp'.length_eq,List.length_map,List.length_range,e];simp
     ·rw[HE h7.1 h7.2,e2]
      have es:(B9 l).1=CD l.2.1.toNat (esA l):=by unfold B9;rw[hg];simp only[if_true];rw[show BV l.2.1.toNat (Ah l.1 l.2.2 l.2.1.toNat)=false from hf];rfl
      rw[es]
      have hm:CD l.2.1.toNat (esA l)∈Zn cmpL ((List.range (l.1.toNat^(Ai l.2.1.toNat (esA l).2.1).length)).map (CQ l.1 l.2.1.toNat (esA l) (Ai l.2.1.toNat (esA l).2.1))):=by
       rw[hp'.mem_iff,←Gf hp hs (F:=Ai l.2.1.toNat (esA l).2.1)]
       refine List.mem_map_of_mem (List.mem_range.2 (Nat.pow_pos (by omega)))
      simp[hm]
   have hco:(coR l).1=if(B9 l).2 then l.1^(frR l).1.length else 0:=by
    rw[hcf,f6]
    unfold coR;rw[hg];simp only[if_true]
    cases BV l.2.1.toNat (esA l)<;>rfl
   simp only[w1,w2,f1,f2,f3,f4,f5,v1,D1 h4,l32,l38,hbe,hne,s1,s2,Eo h7.1 h7.2,Option.bind_some,Bool.not_true,Bool.false_eq_true,if_false]
   cases hsol:(B9 l).2 with
   |true=>
    rw[hsol]at hco hvi
    simp only[if_true]at hco
    rw[hco]
    simp only[hne,if_true,Bool.not_true,Bool.false_eq_true,if_false]
    cases hfl:(liR l).2 with
    |false=>rfl
    |true=>
     obtain⟨q1,q2⟩:=hvi hfl
     rw[hco]at q1
     simp[q1,q2 rfl]
   |false=>
    rw[hsol]at hco hvi
    simp only[Bool.false_eq_true,if_false]at hco
    rw[hco]
    simp only[hne,Bool.not_false,if_true,Bool.false_eq_true,if_false]
    cases hfl:(liR l).2 with
    |false=>rfl
    |true=>
     obtain⟨q1,q2⟩:=hvi hfl
     rw[hco]at q1
     simp[q1]
end
end T
open Go Go.Va
namespace T
section
variable {n:Int} {k:Nat} {ts:List (List Int)}
def G9 (ts:List (List Int)) (i j:Nat):List Int:=(ts.getD j []).take i
def Hh (ts:List (List Int)) (i j:Nat):Int:=(ts.getD j []).getD i 0
end
end T
open Go Go.Va
namespace T
section
variable {n:Int} {k:Nat} {ts:List (List Int)}
def Hj (ts:List (List Int)) (i:Nat) (x y:Int) (a b:Nat):Bool:=Hh ts i a==x&&(Hh ts i b==y&&decide (G9 ts i a=G9 ts i b))
def bO (ts:List (List Int)) (i:Nat) (x y:Int) (a:Nat):Option Nat:=(List.range ts.length).find? (Hj ts i x y a)
def GH (ts:List (List Int)) (i:Nat) (x y:Int):Option (Nat×Nat):=(List.range ts.length).findSome? λa=>(bO ts i x y a).map λb=>(a,b)
theorem FF {i:Nat} {x y:Int} {a b:Nat} (h:GH ts i x y=some (a,b)):a<ts.length/\b<ts.length/\Hh ts i a=x/\Hh ts i b=y/\G9 ts i a=G9 ts i b:=by
 unfold GH at h
 obtain⟨a',ha,h⟩:=List.exists_of_findSome?_eq_some h
 obtain⟨b',hb,h⟩:=Option.map_eq_some_iff.1 h
 obtain⟨rfl,rfl⟩:=Prod.mk.inj h
 have h1:=List.find?_some hb
 have h2:=List.mem_of_find?_eq_some hb
 unfold Hj at h1
 simp only[Bool.and_eq_true,beq_iff_eq,decide_eq_true_eq]at h1
 exact⟨List.mem_range.1 ha,List.mem_range.1 h2,h1.1,h1.2.1,h1.2.2⟩
end
end T
open Go Go.Va
namespace T
def rowsB (R W:Nat) (l:List (List Int)):Prop:=l.length<=R/\ ∀r∈l,r.length<=W
theorem rowsB.mono {R W R' W':Nat} {l:List (List Int)} (h:rowsB R W l) (h1:R<=R') (h2:W<=W'):rowsB R' W' l:=⟨by have:=h.1;omega,λr hr=>by have:=h.2 r hr;omega⟩
end T
open Go Go.Va
namespace T
section
variable {n:Nat} {t:List Int}
def GX (n:Nat) (t:List Int) (x y:Nat):Nat:=(t.getD (x*n+y) 0).toNat
structure TabOk (n:Nat) (t:List Int):Prop where
 hn:1<=n/\n<=4
 len:t.length=n*n
 val: ∀x∈t,0<=x/\x<(n:Int)
theorem ix2 (hn:n<=4) {x y:Nat} (hx:x<n) (hy:y<n):w64 (w64 ((x:Int)*(n:Int))+(y:Int))=((x*n+y:Nat):Int)/\x*n+y<n*n:=by
 have h1:x*n+y<n*n:=by
  calc x*n+y<x*n+n:=by omega
   _=(x+1)*n:=by rw[Nat.succ_mul]
   _<=n*n:=Nat.mul_le_mul_right _ hx
 have h2:n*n<=4*4:=Nat.mul_le_mul hn hn
 have e:(x:Int)*(n:Int)=((x*n:Nat):Int):=by simp
 have a1:w64 ((x*n:Nat):Int)=((x*n:Nat):Int):=A8 (by omega) (by omega)
 rw[e,a1,A8 (by omega) (by omega)]
 exact⟨by omega,h1⟩
theorem TabOk.at (h:TabOk n t) {x y:Nat} (hx:x<n) (hy:y<n):w64 (w64 ((x:Int)*(n:Int))+(y:Int))=((x*n+y:Nat):Int)/\inb ((x*n+y:Nat):Int) t/\gd t ((x*n+y:Nat):Int) 0=((GX n t x y:Nat):Int)/\GX n t x y<n:=by
 obtain⟨h1,h2⟩:=ix2 h.hn.2 hx hy
 have hl:x*n+y<t.length:=by rw[h.len];exact h2
 have hv:=h.val _ (List.getElem_mem hl)
 refine⟨h1,by rw[Ae];exact hl,?_,?_⟩
 ·rw[AJ hl];unfold GX;rw[Ab hl];omega
 ·unfold GX;rw[Ab hl];omega
end
end T
open Go Go.Va
namespace T
def conD (W:Nat) (c:Con):Prop:=c.1.length<=W/\rowsB 601 3 c.2.2
theorem conD.mono {W W':Nat} {c:Con} (h:W<=W'):conD W c->conD W' c:=λ⟨a,b⟩=>⟨by omega,b⟩
end T
open Go Go.Va
namespace T
section
variable {a:Net} {K:Nat} {c:Con} {i p n:Nat} {st:ASt}
def GT (d:Dom) (V:Nat) (t:List Int):Prop:= ∀u,u<V->d2 d u (t.getD u 0).toNat=true
end
end T
open Go Go.Va
namespace T
section
variable {a:Net} {n s:Nat} {t:T4} {u:T3}
def HH (a:Net) (i j k x y z:Nat):Prop:= ∀c∈a.2.2,(∀v∈c.1,v=(i:Int)∨v=(j:Int)∨v=(k:Int))-> ∀vs:List Int,Hg vs (i:Int)=(x:Int)->Hg vs (j:Int)=(y:Int)->Hg vs (k:Int)=(z:Int)->HK vs c=true
structure Fam (a:Net) (n s:Nat) (S:Nat->Nat->Nat->Nat->Prop):Prop where
 sym: ∀i j x y,S i j x y->S j i y x
 first: ∀i j x y,i<j->j<n->x<s->y<s->S i j x y->fB a n i j x y=true
 path: ∀i j k x y,i<n->j<n->k<n->i≠j->k≠i->k≠j->x<s->y<s->S i j x y-> ∃z,z<s/\S i k x z/\S j k y z/\HH a i j k x y z
structure MinP (a:Net) (n s:Nat) (t:T4) (u:T3):Prop where
 rel:Rel34 n s t u
 sym: ∀i j x y,i<n->j<n->i≠j->x<s->y<s->r4 t i j x y=r4 t j i y x
 first: ∀i j x y,i<n->j<n->i≠j->x<s->y<s->r4 t i j x y=true->fB a n i j x y=true
 path: ∀i j k x y,i<n->j<n->k<n->i≠j->k≠i->k≠j->x<s->y<s->r4 t i j x y=true-> ∃z,z<s/\r4 t i k x z=true/\r4 t j k y z=true/\HH a i j k x y z
 all: ∀S,Fam a n s S-> ∀i j x y,i<n->j<n->i≠j->x<s->y<s->S i j x y->r4 t i j x y=true
end
end T
open Go Go.Va
namespace T
section
variable {a:Net} {n s:Nat} {t:T4} {u:T3} {F:Nat->Nat->Nat->Nat}
theorem DO (hM:MinP a n s t u) {w w' v x y:Nat} (hw:w<n) (hw':w'<n) (hv:v<n) (h1:w≠w') (h2:w≠v) (h3:w'≠v) (hx:x<s) (hy:y<s) (h:r4 t w' v y x=true): ∃z,z<s/\r4 t w v z x=true:=by
 obtain⟨z,hz,_,q,_⟩:=hM.path w' v w y x hw' hv hw h3 h1 h2 hy hx h
 exact⟨z,hz,by rw[hM.sym w v z x hw hv h2 hz hx];exact q⟩
theorem HU (p q:Nat): ∃w,w<3/\w≠p/\w≠q:=by
 by_cases h0:0≠p/\0≠q
 ·exact⟨0,by omega,h0.1,h0.2⟩
 ·by_cases h1:1≠p/\1≠q
  ·exact⟨1,by omega,h1.1,h1.2⟩
  ·exact⟨2,by omega,by omega,by omega⟩
end
end T
open Go Go.Va
namespace T
def Hq (n k:Nat) (T:List Int) (x y z:List Int):List Int:=(List.range k).map λj=>T.getD (((x.getD j 0).toNat*n+(y.getD j 0).toNat)*n+(z.getD j 0).toNat) 0
inductive Clo (n k:Nat) (T:List Int) (gens:List (List Int)):List Int->Prop
 |gen {t:List Int}:t∈gens->Clo n k T gens t
 |app {x y z:List Int}:Clo n k T gens x->Clo n k T gens y->Clo n k T gens z->Clo n k T gens (Hq n k T x y z)
section
variable {n k:Nat} {T:List Int} {gens:List (List Int)}
def Closd (n k:Nat) (T:List Int) (L:List (List Int)):Prop:= ∀x∈L,∀y∈L,∀z∈L,Hq n k T x y z∈L
theorem Closd.mem {L:List (List Int)} (hg: ∀t∈gens,t∈L) (hc:Closd n k T L) {t:List Int} (c:Clo n k T gens t):t∈L:=by
 induction c with
 |gen h=>exact hg _ h
 |app _ _ _ i1 i2 i3=>exact hc _ i1 _ i2 _ i3
end
end T
open Go Go.Va
namespace T
section
variable {n k:Nat} {T:List Int} {gens:List (List Int)}
def HV (n k:Nat) (T:List Int) (p:List (List Int)):List Int:=Hq n k T (p.getD 0 []) (p.getD 1 []) (p.getD 2 [])
def Need (n k:Nat) (T:List Int) (L0:List (List Int)) (old many:Nat):Nat->List (List Int)->Bool->List (List Int)->Prop
 |0,p,fr,M=>fr=true->HV n k T p∈M
 |r+1,p,fr,M=> ∀i,i<many->Need n k T L0 old many r (p++ [L0.getD i []]) (fr||decide (old<=i)) M
theorem Need.mono {L0:List (List Int)} {old many:Nat}: ∀(r:Nat) (p:List (List Int)) (fr:Bool) {M M':List (List Int)},(∀t∈M,t∈M')->Need n k T L0 old many r p fr M->Need n k T L0 old many r p fr M'
 |0,p,fr,M,M',hs,h=>λe=>hs _ (h e)
 |r+1,p,fr,M,M',hs,h=>λi hi=>Need.mono r _ _ hs (h i hi)
end
end T
open Go Go.Va
namespace T
section
variable {n:Int} {k:Nat} {ts W:List (List Int)}
def WitOf (ts:List (List Int)) (k:Nat) (W:List (List Int)):Prop:= ∀w,w∈W↔ ∃(i:Nat) (x y:Int) (p q:Nat),i<k/\GH ts i x y=some (p,q)/\(w=ts.getD p []∨w=ts.getD q [])
theorem WitOf.sub (h:WitOf ts k W) {w:List Int} (hw:w∈W):w∈ts:=by
 obtain⟨i,x,y,p,q,_,h2,h3⟩:=(h w).1 hw
 obtain⟨g1,g2,_⟩:=FF h2
 rcases h3 with rfl|rfl
 ·exact B8 g1
 ·exact B8 g2
theorem WitOf.set {N:Int} {kk:Int} (h:WitOf ts kk.toNat W) (hs:HC N kk ts=true) (hi:Dx W=true):HC N kk W=true:=by
 unfold HC at hs⊢
 simp only[Bool.and_eq_true,List.all_eq_true]at hs⊢
 exact⟨⟨hs.1.1,λw hw=>hs.1.2 w (h.sub hw)⟩,hi⟩
end
end T
