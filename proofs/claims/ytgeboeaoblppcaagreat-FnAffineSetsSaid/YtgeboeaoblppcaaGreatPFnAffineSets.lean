/- Plain lemmas on the typed functions of the program, and the plain law of FnAffineSets; no conditions. -/
import Derived.Test.YtgeboeaoblppcaaGreatV1
import Derived.Test.YtgeboeaoblppcaaGreatV5
import Derived.KernelRfl
import Derived.Test.YtgeboeaoblppcaaGreatOFnAffineSets
set_option linter.all false
open Go Go.Va
namespace T
section
variable {p:Int} {V W N:Nat} {A B:List (List Int)} {f g:Nat->Int}
def DJ (N:Nat) (b:List Int):List Int:=((List.range N).filter λv:Nat=>decide ((v:Int)∈b)).map λv:Nat=>(v:Int)
theorem E8 {N:Nat} {b:List Int}:DJ (N+1) b=DJ N b++(if(N:Int)∈b then [(N:Int)]else []):=by
 unfold DJ
 rw[List.range_succ,List.filter_append,List.map_append]
 congr 1
 by_cases h:(N:Int)∈b<;>simp[h]
theorem JB {N:Nat} {b:List Int} {x:Int} (h:(N:Int)<=x):DJ N (b++ [x])=DJ N b:=by
 unfold DJ
 congr 1
 refine List.filter_congr λu hu=>?_
 have:=List.mem_range.1 hu
 have e:((u:Int)∈b++ [x])↔(u:Int)∈b:=by
  rw[List.mem_append,List.mem_singleton]
  exact⟨λh=>h.resolve_right (by omega),Or.inl⟩
 simp only[e]
structure RR (p:Int) (v:Nat) (s:ES):Prop where
 piv: ∀i,i<s.1.length-> ∀j,j<s.1.length->(s.1.getD i []).getD (s.2.1.getD j 0).toNat 0=if i=j then 1 else 0
 low: ∀i,i<s.1.length-> ∀u:Nat,(u:Int)<s.2.1.getD i 0->(s.1.getD i []).getD u 0=0
 zl: ∀r∈s.2.2,∀u:Nat,u<v->r.getD u 0=0
 bnd:DJ v s.2.1=s.2.1
theorem JI {α β:Type} {l:List α} {h:α->β} {i:Nat} {d:α} {e:β} (hi:i<l.length):(l.map h).getD i e=h (l.getD i d):=by
 rw[Ab (by simpa using hi),Ab hi,List.getElem_map]
theorem DW {α:Type} {l m:List α} {i:Nat} {d:α} (hi:i<l.length):(l++m).getD i d=l.getD i d:=by
 rw[Ab (by rw[List.length_append];omega),Ab hi,List.getElem_append_left hi]
theorem Fa {α:Type} {l:List α} {x d:α}:(l++ [x]).getD l.length d=x:=by
 rw[Ab (by simp)];simp
theorem AF {α:Type} {l:List α} {i:Nat} {d:α} (hi:i<l.length):l.getD i d∈l:=by rw[Ab hi];exact List.getElem_mem hi
theorem LD (hp:pr4 p) {s:ES} {v:Nat} (hs:ESok p W N v s) (hv:v<W) (h:RR p v s):RR p (v+1) (CV p s v):=by
 have hp0:2<=p/\p<=7:=by unfold pr4 at hp;omega
 have hbl:=hs.bl
 by_cases hc:s.2.2.findIdx (nzB v)<s.2.2.length
 ·obtain⟨o1,o2,_,x,hx,b,hb0,hb1,o4,o5,o6⟩:=KM hp hs hv hc
  rw[GM hc]
  generalize hP:Gz p s v=P at*
  have hPz: ∀u,u<v->P.getD u 0=0:=λu hu=>by
   rw[o4,GT (by rw[o5.1];omega),h.zl x hx u hu];simp
  have hsame: ∀r,Aj p W r-> ∀u,u<v->(AJ p P v r).getD u 0=r.getD u 0:=λr hr u hu=>by
   have:=BB hr (show u<W by omega)
   rw[Hq (by rw[hr.1];omega),hPz u hu,Int.mul_zero,Int.add_zero,Int.tmod_eq_of_lt this.1 this.2]
  have hat: ∀r,Aj p W r->(AJ p P v r).getD v 0=0:=λr hr=>by
   rw[Hq (by rw[hr.1];omega),o2,Int.mul_one,show r.getD v 0+(p-r.getD v 0)=p by omega,Int.tmod_self]
  have hbv: ∀j,j<s.1.length->0<=s.2.1.getD j 0/\s.2.1.getD j 0<(v:Int):=λj hj=>hs.bv _ (AF (by omega))
  have hbn:(s.2.1++ [(v:Int)]).getD s.1.length 0=(v:Int):=by rw[←hbl,Fa]
  have htn:(s.1.map (AJ p P v)++ [P]).getD s.1.length []=P:=by
   have:=Fa (l:=s.1.map (AJ p P v)) (x:=P) (d:= [])
   rw[List.length_map]at this;exact this
  have hti: ∀i,i<s.1.length->(s.1.map (AJ p P v)++ [P]).getD i []=AJ p P v (s.1.getD i []):=λi hi=>by
   rw[DW (by simpa using hi),JI (d:= []) hi]
  have hbi: ∀j,j<s.1.length->(s.2.1++ [(v:Int)]).getD j 0=s.2.1.getD j 0:=λj hj=>DW (by omega)
  have hlen:(s.1.map (AJ p P v)++ [P]).length=s.1.length+1:=by simp
  refine⟨λi hi j hj=>?_,λi hi u hu=>?_,λr hr u hu=>?_,?_⟩
  ·dsimp only at hi hj⊢
   rw[hlen]at hi hj
   by_cases ci:i=s.1.length
   ·subst ci
    rw[htn]
    by_cases cj:j=s.1.length
    ·subst cj;rw[hbn,Int.toNat_natCast,o2,if_pos rfl]
    ·have hj2:j<s.1.length:=by omega
     have:=hbv j hj2
     rw[hbi j hj2,hPz _ (by omega),if_neg (by omega)]
   ·have hi2:i<s.1.length:=by omega
    have hok:=hs.t _ (AF (d:= []) hi2)
    rw[hti i hi2]
    by_cases cj:j=s.1.length
    ·subst cj;rw[hbn,Int.toNat_natCast,hat _ hok,if_neg ci]
    ·have hj2:j<s.1.length:=by omega
     have:=hbv j hj2
     rw[hbi j hj2,hsame _ hok _ (by omega),h.piv i hi2 j hj2]
  ·dsimp only at hi hu⊢
   rw[hlen]at hi
   by_cases ci:i=s.1.length
   ·subst ci
    rw[hbn]at hu
    rw[htn,hPz u (by omega)]
   ·have hi2:i<s.1.length:=by omega
    have hok:=hs.t _ (AF (d:= []) hi2)
    rw[hbi i hi2]at hu
    have:=hbv i hi2
    rw[hti i hi2,hsame _ hok u (by omega),h.low i hi2 u hu]
  ·dsimp only at hr
   obtain⟨q,hq,rfl⟩:=List.mem_map.1 hr
   have hq2:=List.mem_of_mem_eraseIdx hq
   by_cases e:u=v
   ·subst e;exact hat q (hs.l q hq2)
   ·rw[hsame q (hs.l q hq2) u (by omega)];exact h.zl q hq2 u (by omega)
  ·dsimp only
   rw[E8,if_pos (by simp),JB (by omega),h.bnd]
 ·rw[GL hc]
  have hnm:(v:Int)∉s.2.1:=λhm=>by have:=hs.bv _ hm;omega
  refine⟨h.piv,h.low,λr hr u hu=>?_,?_⟩
  ·by_cases e:u=v
   ·subst e
    have h1:=List.findIdx_eq_length.1 (show s.2.2.findIdx (nzB u)=s.2.2.length by have:=List.findIdx_le_length (xs:=s.2.2) (p:=nzB u);omega) r hr
    unfold nzB at h1
    simpa using h1
   ·exact h.zl r hr u (by omega)
  ·rw[E8,if_neg hnm,h.bnd,List.append_nil]
theorem DL (hp:pr4 p) (hr: ∀r∈A,Aj p W r): ∀v,v<=W->RR p v (Ad p A v):=by
 intro v
 induction v with
 |zero=>intro _;exact⟨λi hi=>by simp[Ad]at hi,λi hi=>by simp[Ad]at hi,λr _ u hu=>by omega,by simp[Ad,DJ]⟩
 |succ v ih=>
  intro hv
  have hok:=AK hp hr v (by omega)
  have hnx:Ad p A (v+1)=CV p (Ad p A v) v:=by unfold Ad;rw[DG]
  rw[hnx]
  exact LD hp hok (by omega) (ih (by omega))
def AZ (n:Nat) (h:Nat->Int):Int:=((List.range n).map h).sum
theorem Ct {n:Nat} {h:Nat->Int}:AZ (n+1) h=AZ n h+h n:=by
 unfold AZ;rw[List.range_succ,List.map_append,List.sum_append];simp
theorem Ej {n:Nat} {h k:Nat->Int} {c:Int}:AZ n (λj=>h j+c*k j)=AZ n h+c*AZ n k:=by
 induction n with
 |zero=>simp[AZ]
 |succ n ih=>rw[Ct,Ct,Ct,ih];grind
theorem CE {n:Nat} {h k:Nat->Int} (e: ∀j,j<n->h j=k j):AZ n h=AZ n k:=by
 unfold AZ;congr 1;exact List.map_congr_left λj hj=>e j (List.mem_range.1 hj)
theorem FZ {n:Nat} {h k:Nat->Int} (e: ∀j,j<n->cg p (h j) (k j)):cg p (AZ n h) (AZ n k):=by
 induction n with
 |zero=>exact BC rfl
 |succ n ih=>rw[Ct,Ct];exact DD (ih λj hj=>e j (by omega)) (e n (by omega))
theorem Ek {n m:Nat} {h:Nat->Int} (hm:m<n) (e: ∀j,j<n->j≠m->h j=0):AZ n h=h m:=by
 induction n with
 |zero=>omega
 |succ n ih=>
  rw[Ct]
  by_cases c:m=n
  ·subst c
   have:AZ m h=0:=by
    have:=CE (n:=m) (h:=h) (k:=λ_=>0) λj hj=>e j (by omega) (by omega)
    rw[this]
    clear this e ih hm
    induction m with
    |zero=>rfl
    |succ m ih=>rw[Ct,ih];rfl
   omega
  ·rw[ih (by omega) λj hj hjm=>e j (by omega) hjm,e n (by omega) (by omega)];omega
theorem D6 {n:Nat} {h:Nat->Int} (e: ∀j,j<n->cg p (h j) 0):cg p (AZ n h) 0:=by
 induction n with
 |zero=>exact BC rfl
 |succ n ih=>rw[Ct];exact AQ (DD (ih λj hj=>e j (by omega)) (e n (by omega))) (BC rfl)
theorem Jv {s:ES} (hs:ESok p W N V s) (h:RR p V s) (hf:Sp p V (s.1++s.2.2) f): ∀i,i<V->cg p (f i) (AZ s.1.length λj=>f (s.2.1.getD j 0).toNat*(s.1.getD j []).getD i 0):=by
 have hbl:=hs.bl
 have hb: ∀j,j<s.1.length->(s.2.1.getD j 0).toNat<V:=λj hj=>by have:=hs.bv _ (AF (l:=s.2.1) (i:=j) (d:=0) (by omega));omega
 induction hf with
 |zero=>
  intro i hi
  refine Dy (D6 λj hj=>BC (by simp))
 |add r c hr _ ih=>
  intro i hi
  rename_i f0 _
  dsimp only
  rcases List.mem_append.1 hr with hr|hr
  ·obtain⟨m,hm,rfl⟩:=List.getElem_of_mem hr
   have e1:(s.1[m]'hm)=s.1.getD m []:=(Ab hm).symm
   have e2:AZ s.1.length (λj=>(f0 (s.2.1.getD j 0).toNat+c*(s.1.getD m []).getD (s.2.1.getD j 0).toNat 0)*(s.1.getD j []).getD i 0)=AZ s.1.length (λj=>f0 (s.2.1.getD j 0).toNat*(s.1.getD j []).getD i 0)+c*(s.1.getD m []).getD i 0:=by
    have e3:AZ s.1.length (λj=>(s.1.getD m []).getD (s.2.1.getD j 0).toNat 0*(s.1.getD j []).getD i 0)=(s.1.getD m []).getD i 0:=by
     rw[Ek hm λj hj hjm=>by rw[h.piv m hm j hj,if_neg (λe=>hjm e.symm),Int.zero_mul]]
     rw[h.piv m hm m hm,if_pos rfl,Int.one_mul]
    rw[←e3,←Ej]
    exact CE λj _=>by grind
   rw[e1,e2]
   exact DD (ih i hi) (BC rfl)
  ·have e1:r.getD i 0=0:=h.zl r hr i hi
   have e2:AZ s.1.length (λj=>(f0 (s.2.1.getD j 0).toNat+c*r.getD (s.2.1.getD j 0).toNat 0)*(s.1.getD j []).getD i 0)=AZ s.1.length (λj=>f0 (s.2.1.getD j 0).toNat*(s.1.getD j []).getD i 0):=CE λj hj=>by
    rw[h.zl r hr _ (hb j hj)];simp
   rw[e1,e2,Int.mul_zero,Int.add_zero]
   exact ih i hi
 |cgr _ hc ih=>
  intro i hi
  refine AQ (hc i hi) (AQ (ih i hi) (Dy (FZ λj hj=>FW _ (hc _ (hb j hj)))))
theorem Jp {s:ES} (hp:pr4 p) (hs:ESok p W N V s) (h:RR p V s) {u:Nat} (hu:u<V):(u:Int)∈s.2.1↔ ∃f,Sp p V (s.1++s.2.2) f/\ ¬cg p (f u) 0/\ ∀w,w<u->cg p (f w) 0:=by
 have hp0:2<=p/\p<=7:=by unfold pr4 at hp;omega
 have hbl:=hs.bl
 constructor
 ·intro hm
  obtain⟨i,hi,e⟩:=List.getElem_of_mem hm
  have hit:i<s.1.length:=by omega
  have hbi:s.2.1.getD i 0=(u:Int):=by rw[Ab hi,e]
  refine⟨λk=>(s.1.getD i []).getD k 0,Sp.mem (List.mem_append_left _ (AF hit)),λhc=>?_,λw hw=>BC (h.low i hit w (by omega))⟩
  have:=h.piv i hit i hit
  rw[hbi,Int.toNat_natCast,if_pos rfl]at this
  dsimp only at hc
  rw[this]at hc
  have:=Je hc ⟨by omega,by omega⟩ ⟨by omega,by omega⟩
  omega
 ·rintro ⟨f,hf,h1,h2⟩
  by_cases hm:(u:Int)∈s.2.1
  ·exact hm
  ·exfalso
   refine h1 (AQ (Jv hs h hf u hu) (D6 λj hj=>?_))
   have hjb:j<s.2.1.length:=by omega
   have hbv:=hs.bv _ (AF (d:=0) hjb)
   have hne:s.2.1.getD j 0≠(u:Int):=λe=>hm (by rw[←e];exact AF hjb)
   by_cases c:s.2.1.getD j 0<(u:Int)
   ·exact AQ (FW _ (h2 _ (by omega))) (BC (by simp))
   ·rw[h.low j hj u (by omega)];exact BC (by simp)
theorem JU {s s':ES} {N':Nat} (hp:pr4 p) (hVW:V<=W) (hs:ESok p W N V s) (h:RR p V s) (hs':ESok p W N' V s') (h':RR p V s') (he:eqSp p V (s.1++s.2.2) (s'.1++s'.2.2)):
  s.2.1=s'.2.1/\ ∀i,i<s.1.length-> ∀u,u<V->(s.1.getD i []).getD u 0=(s'.1.getD i []).getD u 0:=by
 have hb:s.2.1=s'.2.1:=by
  rw[←h.bnd,←h'.bnd]
  unfold DJ
  congr 1
  refine List.filter_congr λu hu=>?_
  have hu:=List.mem_range.1 hu
  have e:(u:Int)∈s.2.1↔(u:Int)∈s'.2.1:=by
   rw[Jp hp hs h hu,Jp hp hs' h' hu]
   exact⟨λ⟨f,a,b⟩=>⟨f,(he f).1 a,b⟩,λ⟨f,a,b⟩=>⟨f,(he f).2 a,b⟩⟩
  simp only[e]
 refine⟨hb,λi hi u hu=>?_⟩
 have hbl:=hs.bl
 have hbl':=hs'.bl
 have hi':i<s'.1.length:=by rw[←hbl',←hb,hbl];exact hi
 have hf:Sp p V (s.1++s.2.2) λk=>(s.1.getD i []).getD k 0:=Sp.mem (List.mem_append_left _ (AF hi))
 have h1:=Jv hs' h' ((he _).1 hf) u hu
 have e1:AZ s'.1.length (λj=>(s.1.getD i []).getD (s'.2.1.getD j 0).toNat 0*(s'.1.getD j []).getD u 0)=(s'.1.getD i []).getD u 0:=by
  rw[←hb]
  rw[Ek hi' λj hj hji=>by rw[h.piv i hi j (by rw[←hbl,hb,hbl'];exact hj),if_neg (λe=>hji e.symm),Int.zero_mul]]
  rw[h.piv i hi i hi,if_pos rfl,Int.one_mul]
 rw[e1]at h1
 exact Je h1 (BB (hs.t _ (AF hi)) (by omega)) (BB (hs'.t _ (AF hi')) (by omega))
theorem KA {s s':ES} {N':Nat} (hp:pr4 p) (hVW:V<=W) (hs:ESok p W N V s) (h:RR p V s) (hs':ESok p W N' V s') (h':RR p V s') (he:eqSp p V (s.1++s.2.2) (s'.1++s'.2.2)):Bu p V s=Bu p V s':=by
 obtain⟨hb,hrow⟩:=JU hp hVW hs h hs' h' he
 have hbl:=hs.bl
 unfold Bu
 rw[←hb]
 refine List.map_congr_left λf hf=>?_
 obtain⟨w,hw,rfl⟩:=EF hf
 unfold Ds
 refine List.map_congr_left λu _=>?_
 unfold CL
 rw[←hb]
 by_cases c:B6 s.2.1 u<0
 ·rw[if_pos c,if_pos c]
 ·rw[if_neg c,if_neg c]
  have hm:(u:Int)∈s.2.1:=by
   by_cases hm:(u:Int)∈s.2.1
   ·exact hm
   ·rw[Dm hm]at c;omega
  obtain⟨i,hi,g1,_⟩:=DA hm
  rw[g1,Int.toNat_natCast,Int.toNat_natCast,hrow i (by omega) w hw]
end
end T
open Go Go.Va
namespace T
section
variable {p:Int} {V W N:Nat} {A B C D:List (List Int)} {f g:Nat->Int}
theorem eqSp.symm (h:eqSp p V A B):eqSp p V B A:=λf=>(h f).symm
theorem eqSp.trans (h:eqSp p V A B) (g:eqSp p V B C):eqSp p V A C:=λf=>(h f).trans (g f)
theorem eqSp.app (h:eqSp p V A B):eqSp p V (A++C) (B++C):=by
 have key: ∀ {A B:List (List Int)},eqSp p V A B-> ∀r∈A++C,Sp p V (B++C) λi=>r.getD i 0:=fun {A B} h r hr=>by
  rcases List.mem_append.1 hr with hr|hr
  ·exact Sp.sub (λq hq=>Sp.mem (List.mem_append_left _ hq)) ((h _).1 (Sp.mem hr))
  ·exact Sp.mem (List.mem_append_right _ hr)
 exact G6 (key h) (key h.symm)
theorem HH (h: ∀r∈B,∀i,i<V->r.getD i 0=0):eqSp p V (A++B) A:=by
 refine G6 (λr hr=>?_) λr hr=>Sp.mem (List.mem_append_left _ hr)
 rcases List.mem_append.1 hr with hr|hr
 ·exact Sp.mem hr
 ·exact Sp.zero.cgr λi hi=>BC (h r hr i hi)
theorem JF {r:List Int} (h: ∀i,i<V->r.getD i 0=0):eqSp p V (r::A) A:=by
 refine G6 (λq hq=>?_) λr hr=>Sp.mem (List.mem_cons_of_mem _ hr)
 rcases List.mem_cons.1 hq with hq|hq
 ·rw[hq];exact Sp.zero.cgr λi hi=>BC (h i hi)
 ·exact Sp.mem hq
theorem IC (hp:pr4 p) (hr: ∀r∈A,Aj p W r) (hVW:V<=W):eqSp p V A (Ad p A V).1:=(Fu hp hr hVW V hVW).trans (HH (DL hp hr V hVW).zl)
theorem GW (hp:pr4 p) (hr: ∀r∈A,Aj p W r) (hVW:V<=W):(Ad p A V).1.length<=V:=by
 have h1:=(DL hp hr V hVW).bnd
 have h2:=(AK hp hr V hVW).bl
 rw[←h2,←h1]
 unfold DJ
 rw[List.length_map]
 have:=List.length_filter_le (λv:Nat=>decide ((v:Int)∈(Ad p A V).2.1)) (List.range V)
 rw[List.length_range]at this
 exact this
def Fi (p:Int) (V:Nat) (D:List (List Int)):List (List Int):=D.foldl (λrows d=>(Ad p (rows++ [d]) V).1) []
theorem GD (hp:pr4 p) (hVW:V<=W): ∀(D R:List (List Int)),(∀r∈D,Aj p W r)->(∀r∈R,Aj p W r)->R.length<=V->
  eqSp p V (R++D) (D.foldl (λrows d=>(Ad p (rows++ [d]) V).1) R)/\(∀r∈D.foldl (λrows d=>(Ad p (rows++ [d]) V).1) R,Aj p W r)/\(D.foldl (λrows d=>(Ad p (rows++ [d]) V).1) R).length<=V
 | [],R,_,hR,hl=>by rw[List.append_nil];exact⟨λ_=>Iff.rfl,hR,hl⟩
 |d::D,R,hD,hR,hl=>by
  have hRd: ∀r∈R++ [d],Aj p W r:=λr hr=>by
   rcases List.mem_append.1 hr with hr|hr
   ·exact hR r hr
   ·rw[List.mem_singleton.1 hr];exact hD d (by simp)
  have ih:=GD hp hVW D (Ad p (R++ [d]) V).1 (λr hr=>hD r (List.mem_cons_of_mem _ hr)) (AK hp hRd V hVW).t (GW hp hRd hVW)
  rw[List.foldl_cons]
  refine⟨?_,ih.2⟩
  have h1:=(IC hp hRd hVW).app (C:=D)
  rw[List.append_assoc,List.singleton_append]at h1
  exact h1.trans ih.1
theorem Kz (hp:pr4 p) (hVW:V<=W) (hD: ∀r∈D,Aj p W r) {z:List Int} (hz:Aj p W z) (h0: ∀i,i<V->z.getD i 0=0):Bu p V (Ad p (z::D) V)=Bu p V (Ad p (Fi p V D) V):=by
 obtain⟨e1,e2,_⟩:=GD hp hVW D [] hD (λr h=>by cases h) (by simp)
 have hzD: ∀r∈z::D,Aj p W r:=λr hr=>by
  rcases List.mem_cons.1 hr with hr|hr
  ·rw[hr];exact hz
  ·exact hD r hr
 refine KA hp hVW (AK hp hzD V hVW) (DL hp hzD V hVW) (AK hp e2 V hVW) (DL hp e2 V hVW) ?_
 exact((Fu hp hzD hVW V hVW).symm.trans ((JF h0).trans e1)).trans (Fu hp e2 hVW V hVW)
end
end T
open Go Go.Va
namespace T
section
variable {p:Int} {V W N k:Nat} {A B C D:List (List Int)} {f g:Nat->Int}
theorem If {c:Nat->Int} (h: ∀r∈A,cg p (AZ k λi=>r.getD i 0*c i) (r.getD k 0)) (hf:Sp p (k+1) A f):cg p (AZ k λi=>f i*c i) (f k):=by
 induction hf with
 |zero=>exact D6 λj _=>BC (by simp)
 |add r d hr _ ih=>
  rename_i f0 _
  dsimp only
  have e:AZ k (λi=>(f0 i+d*r.getD i 0)*c i)=AZ k (λi=>f0 i*c i)+d*AZ k (λi=>r.getD i 0*c i):=by
   rw[←Ej];exact CE λj _=>by grind
  rw[e]
  exact DD ih (FK d (h r hr))
 |cgr _ hc ih=>
  refine AQ (FZ λj hj=>FW _ (hc j (by omega))) (AQ ih (Dy (hc k (by omega))))
theorem HO (hp:pr4 p) (hA: ∀r∈A,Aj p (k+1) r) {c:Nat->Int} (h: ∀r∈A,cg p (AZ k λi=>r.getD i 0*c i) (r.getD k 0)):(Ad p A k).2.2.filter (nzB k)= []:=by
 have hs:=AK hp hA k (by omega)
 have hz:=(DL hp hA k (by omega)).zl
 rw[List.filter_eq_nil_iff]
 intro r hr
 have h1:Sp p (k+1) A λi=>r.getD i 0:=((Fu hp hA (V:=k+1) (Nat.le_refl _) k (by omega)) _).2 (Sp.mem (List.mem_append_right _ hr))
 have h2:=If h h1
 have h3:cg p (r.getD k 0) 0:=AQ (Dy h2) (D6 λj hj=>by rw[hz r hr j hj];exact BC (by simp))
 have h4:=BB (hs.l r hr) (show k<k+1 by omega)
 have h5:=Je h3 h4 ⟨by omega,by unfold pr4 at hp;omega⟩
 unfold nzB
 rw[h5];simp
def Am (p:Int) (k:Nat) (base t:List Int):List Int:=((List.range k).map λi=>(t.getD i 0+(p-1)*base.getD i 0)%p)++ [0]
theorem D7 (hp:pr4 p) {base t:List Int}:Aj p (k+1) (Am p k base t):=by
 unfold pr4 at hp
 refine⟨by simp[Am],λx hx=>?_⟩
 unfold Am at hx
 rcases List.mem_append.1 hx with hx|hx
 ·obtain⟨i,_,rfl⟩:=List.mem_map.1 hx
  exact⟨Int.emod_nonneg _ (by omega),Int.emod_lt_of_pos _ (by omega)⟩
 ·rw[List.mem_singleton.1 hx];omega
theorem JE {base:List Int}: ∀i,i<k->(Am p k base base).getD i 0=0:=λi hi=>by
 unfold Am
 rw[DW (by simpa using hi),Ab (by simpa using hi)]
 simp only[List.getElem_map,List.getElem_range]
 have e:base.getD i 0+(p-1)*base.getD i 0=p*base.getD i 0:=by grind
 rw[e,Int.mul_emod_right]
theorem Le {x b:Int}:(x+(p-1)*b)%p=(x-b+p)%p:=by
 have e:x+(p-1)*b=(x-b+p)+p*(b-1):=by grind
 rw[e,Int.add_mul_emod_self_left]
def Io (k:Nat) (base w:List Int):Int:=AZ k λi=>w.getD i 0*base.getD i 0
def Em (p:Int) (k:Nat) (base w:List Int):List Int:=w++ [Int.tmod (Io k base w) p]
theorem IB {n:Nat} {h:Nat->Int} {M:Int} (e: ∀j,j<n->0<=h j/\h j<=M):0<=AZ n h/\AZ n h<=M*n:=by
 induction n with
 |zero=>simp[AZ]
 |succ n ih=>
  have h1:=ih λj hj=>e j (by omega)
  have h2:=e n (by omega)
  rw[Ct]
  have:M*((n+1:Nat):Int)=M*n+M:=by push_cast;grind
  omega
theorem Ln (hp:pr4 p) {s:ES} (hs:ESok p (k+1) N k s) {f u:Nat} (hf:f<k):0<=CL p s f u/\CL p s f u<p:=by
 have hpb:2<=p/\p<=7:=by unfold pr4 at hp;omega
 have hbl:=hs.bl
 unfold CL
 by_cases c:B6 s.2.1 u<0
 ·rw[if_pos c];split<;>omega
 ·rw[if_neg c]
  have hm:(u:Int)∈s.2.1:=by
   by_cases hm:(u:Int)∈s.2.1
   ·exact hm
   ·rw[Dm hm]at c;omega
  obtain⟨i,hi,g1,_⟩:=DA hm
  rw[g1,Int.toNat_natCast]
  have:=BB (hs.t _ (AF (l:=s.1) (i:=i) (d:= []) (by omega))) (show f<k+1 by omega)
  exact Hv hp (by omega)
theorem G9 (hp:pr4 p) {s:ES} (hs:ESok p (k+1) N k s) {w:List Int} (hw:w∈Bu p k s):w.length=k/\ ∀x∈w,0<=x/\x<p:=by
 unfold Bu at hw
 obtain⟨f,hf,rfl⟩:=List.mem_map.1 hw
 obtain⟨u,hu,rfl⟩:=EF hf
 rw[Int.toNat_natCast]
 refine⟨by simp[Ds],λx hx=>?_⟩
 unfold Ds at hx
 obtain⟨v,_,rfl⟩:=List.mem_map.1 hx
 exact Ln hp hs hu
theorem IQ (hp:pr4 p) {base w:List Int} (hb: ∀i,i<k->0<=base.getD i 0/\base.getD i 0<p) (hw:w.length=k/\ ∀x∈w,0<=x/\x<p): ∀j,j<=k->0<=AZ j (λi=>w.getD i 0*base.getD i 0)/\AZ j (λi=>w.getD i 0*base.getD i 0)<=64*j:=by
 intro j hj
 refine IB λi hi=>?_
 have h1:=hb i (by omega)
 have h2:=hw.2 _ (AF (l:=w) (i:=i) (d:=0) (by omega))
 unfold pr4 at hp
 exact FY (by omega) (by omega) (by omega) (by omega)
theorem Ko (hp:pr4 p) {base w:List Int} (hb: ∀i,i<k->0<=base.getD i 0/\base.getD i 0<p) (hw:w.length=k/\ ∀x∈w,0<=x/\x<p):
  Aj p (k+1) (Em p k base w)/\cg p (AZ k λi=>(Em p k base w).getD i 0*base.getD i 0) ((Em p k base w).getD k 0):=by
 have hd:=IQ hp hb hw k (Nat.le_refl _)
 refine⟨⟨by simp[Em,hw.1],λx hx=>?_⟩,?_⟩
 ·unfold Em at hx
  rcases List.mem_append.1 hx with hx|hx
  ·exact hw.2 x hx
  ·rw[List.mem_singleton.1 hx];exact Hv hp hd.1
 ·have e1:(Em p k base w).getD k 0=Int.tmod (Io k base w) p:=by
   unfold Em
   have:=Fa (l:=w) (x:=Int.tmod (Io k base w) p) (d:=0)
   rw[hw.1]at this;exact this
  have e2:AZ k (λi=>(Em p k base w).getD i 0*base.getD i 0)=Io k base w:=CE λj hj=>by
   unfold Em;rw[DW (by omega)]
  rw[e1,e2]
  exact Dy (H3 hd.1)
def DE (p:Int) (k:Nat) (base:List Int) (D:List (List Int)):List (List Int):=(Bu p k (Ad p D k)).map (Em p k base)
theorem G7 (hp:pr4 p) {base:List Int} (hb: ∀i,i<k->0<=base.getD i 0/\base.getD i 0<p) (hD: ∀r∈D,Aj p (k+1) r):
  (∀r∈DE p k base D,Aj p (k+1) r)/\(DE p k base D).length<=k/\(Ad p (DE p k base D) k).2.2.filter (nzB k)= []:=by
 have hs:=AK hp hD k (by omega)
 have h1: ∀r∈DE p k base D,Aj p (k+1) r/\cg p (AZ k λi=>r.getD i 0*base.getD i 0) (r.getD k 0):=λr hr=>by
  unfold DE at hr
  obtain⟨w,hw,rfl⟩:=List.mem_map.1 hr
  exact Ko hp hb (G9 hp hs hw)
 refine⟨λr hr=>(h1 r hr).1,?_,HO hp (λr hr=>(h1 r hr).1) λr hr=>(h1 r hr).2⟩
 unfold DE Bu
 rw[List.length_map,List.length_map];exact Cu
end
end T
set_option linter.unusedVariables false
open Go Go.Va
namespace T
def BJ:Nat->(Int×Int×(List (List Int))×(Int×(Int×(List (List Int))))×(List (List Int))×Int)->Option (Int×Int×(List (List Int))×(Int×(Int×(List (List Int))))×(List (List Int)))
 |0,_=>none
 |n+1,(t0,t1,t2,t6,t8,t9)=>
 if decide (t9<(t2.length:Int))then
 if inb t9 t2 then
 if inb 0 t2 then
 (Bk t0 (gd t2 t9 []) (gd t2 0 []) 1).bind λr4=>
 if r4.length+ [0].length<=lim then
 if t8.length+ [r4++ [0]].length<=lim then
 (Bj t0 t1 (t8++ [r4++ [0]])).bind λr5=>
 BJ n (t0,t1,t2,(t6.1,(t6.2.1,t6.2.2)),r5.1,w64 (t9+1))
 else none
 else none
 else none
 else none
 else
 some (t0,t1,t2,(t6.1,(t6.2.1,t6.2.2)),t8)
def Bw:Nat->(Int×Int×(List (List Int))×(Int×(Int×(List (List Int))))×(List (List Int))×(List (List Int))×Int×Int×Int)->Option (Int×Int×(List (List Int))×(Int×(Int×(List (List Int))))×(List (List Int))×(List (List Int))×Int×Int)
 |0,_=>none
 |n+1,(t0,t1,t2,t6,t10,t11,t12,t13,t14)=>
 if decide (t14<t1)then
 if inb t12 t10 then
 if inb t14 (gd t10 t12 [])then
 if inb 0 t2 then
 if inb t14 (gd t2 0 [])then
 if t0≠0 then
 Bw n (t0,t1,t2,(t6.1,(t6.2.1,t6.2.2)),t10,t11,t12,Int.tmod (w64 (t13+(w64 ((gd (gd t10 t12 []) t14 0)*(gd (gd t2 0 []) t14 0))))) t0,w64 (t14+1))
 else none
 else none
 else none
 else none
 else none
 else
 some (t0,t1,t2,(t6.1,(t6.2.1,t6.2.2)),t10,t11,t12,t13)
def Bv:Nat->(Int×Int×(List (List Int))×(Int×(Int×(List (List Int))))×(List (List Int))×(List (List Int))×Int)->Option (Int×Int×(Int×(Int×(List (List Int))))×(List (List Int)))
 |0,_=>none
 |n+1,(t0,t1,t2,t6,t10,t11,t12)=>
 if decide (t12<(t10.length:Int))then
 (Bw Aa (t0,t1,t2,(t6.1,(t6.2.1,t6.2.2)),t10,t11,t12,0,0)).bind λs9=>
 if inb s9.2.2.2.2.2.2.1 s9.2.2.2.2.1 then
 (De (gd s9.2.2.2.2.1 s9.2.2.2.2.2.2.1 [])).bind λr10=>
 if r10.length+ [s9.2.2.2.2.2.2.2].length<=lim then
 if s9.2.2.2.2.2.1.length+ [r10++ [s9.2.2.2.2.2.2.2]].length<=lim then
 Bv n (s9.1,s9.2.1,s9.2.2.1,(s9.2.2.2.1.1,(s9.2.2.2.1.2.1,s9.2.2.2.1.2.2)),s9.2.2.2.2.1,s9.2.2.2.2.2.1++ [r10++ [s9.2.2.2.2.2.2.2]],w64 (s9.2.2.2.2.2.2.1+1))
 else none
 else none
 else none
 else
 some (t0,t1,(t6.1,(t6.2.1,t6.2.2)),t11)
def Au (t0:Int) (t1:Int) (t2:List (List Int)):Option ((Int×(Int×(List (List Int))))×Bool):=
 (Dw t0).bind λr1=>
 if !r1 then
 some ((0,(0,[])),false)
 else
 (E0 t0 t1 t2).bind λr2=>
 if !r2 then
 some ((0,(0,[])),false)
 else
 if(t2.length:Int)==0 then
 some ((0,(0,[])),false)
 else
 (DQ t0 t2).bind λr3=>
 if !r3 then
 some ((0,(0,[])),false)
 else
 (BJ Aa (t0,t1,t2,(0,(0,[])),[],1)).bind λs4=>
 (Bj s4.1 s4.2.1 s4.2.2.2.2).bind λr5=>
 (CO (r5.1,(r5.2.1,r5.2.2)) s4.1 s4.2.1).bind λr6=>
 (Bv Aa (s4.1,s4.2.1,s4.2.2.1,(s4.2.2.2.1.1,(s4.2.2.2.1.2.1,s4.2.2.2.1.2.2)),r6,[],0)).bind λs7=>
 (Bj s7.1 s7.2.1 s7.2.2.2).bind λr8=>
 some ((s7.1,(s7.2.1,r8.1)),true)
def Bl:Nat->((Int×Int×(List (List Int))×Int×(List Int))×(Int×(Int×(List (List Int))))×(Int×(Int×(List (List Int))))×(List (List Int))×Int×Int)->Option ((Int×Int×(List (List Int))×Int×(List Int))×(Int×(Int×(List (List Int))))×(Int×(Int×(List (List Int)))))
 |0,_=>none
 |n+1,(e,t2,l,t33,t34,t35)=>
 if decide (t35<t34)then
 if inb t35 t33 then
 if inb e.2.1 (gd t33 t35 [])then
 if(gd (gd t33 t35 []) e.2.1 0) !=0 then
 (CT (gd t33 t35 [])).bind λr2=>
 if l.2.2.length+ [r2].length<=lim then
 Bl n ((e.1,(e.2.1,(e.2.2.1,(e.2.2.2.1,e.2.2.2.2)))),(t2.1,(t2.2.1,t2.2.2)),(l.1,(l.2.1,l.2.2++ [r2])),t33,t34,w64 (t35+1))
 else none
 else
 Bl n ((e.1,(e.2.1,(e.2.2.1,(e.2.2.2.1,e.2.2.2.2)))),(t2.1,(t2.2.1,t2.2.2)),(l.1,(l.2.1,l.2.2)),t33,t34,w64 (t35+1))
 else none
 else none
 else
 some ((e.1,(e.2.1,(e.2.2.1,(e.2.2.2.1,e.2.2.2.2)))),(t2.1,(t2.2.1,t2.2.2)),(l.1,(l.2.1,l.2.2)))
def Dz (e:Int×(Int×((List (List Int))×(Int×(List Int))))):Option ((Int×(Int×((List (List Int))×(Int×(List Int)))))×(Int×(Int×(List (List Int))))):=
 if(0:Int)<=0/\0<=e.2.2.2.1/\e.2.2.2.1<=(e.2.2.1.length:Int)then
 (BT ((e.2.2.1.take (Int.toNat e.2.2.2.1)).drop (Int.toNat 0))).bind λr1=>
 if(0:Int)<=e.2.2.2.1/\e.2.2.2.1<=(e.2.2.1.length:Int)/\(e.2.2.1.length:Int)<=(e.2.2.1.length:Int)then
 (Bl Aa ((e.1,(e.2.1,(e.2.2.1,(e.2.2.2.1,e.2.2.2.2)))),(0,(0,[])),(e.1,(e.2.1,r1)),(e.2.2.1.take (Int.toNat (e.2.2.1.length:Int))).drop (Int.toNat e.2.2.2.1),(((e.2.2.1.take (Int.toNat (e.2.2.1.length:Int))).drop (Int.toNat e.2.2.2.1)).length:Int),0)).bind λs2=>
 some ((s2.1.1,(s2.1.2.1,(s2.1.2.2.1,(s2.1.2.2.2.1,s2.1.2.2.2.2)))),(s2.2.2.1,(s2.2.2.2.1,s2.2.2.2.2)))
 else none
 else none
def BG:Nat->(Int×Int×(Int×(Int×(List (List Int))))×(List Int)×(List (List Int))×(List Int)×(List (List Int))×Int×Int×(List Int)×Int×Int)->Option (Int×Int×(Int×(Int×(List (List Int))))×(List Int)×(List (List Int))×(List Int)×(List (List Int))×Int×Int)
 |0,_=>none
 |n+1,(t0,t1,t6,t7,t8,t11,t24,t25,t26,t33,t34,t35)=>
 if decide (t35<t34)then
 if inb t35 t33 then
 if inb t35 t7 then
 if t0≠0 then
 if inb t35 t11 then
 BG n (t0,t1,(t6.1,(t6.2.1,t6.2.2)),t7,t8,stt t11 t35 (Int.tmod (w64 ((w64 ((gd t33 t35 0)-(gd t7 t35 0)))+t0)) t0),t24,t25,t26,t33,t34,w64 (t35+1))
 else none
 else none
 else none
 else none
 else
 some (t0,t1,(t6.1,(t6.2.1,t6.2.2)),t7,t8,t11,t24,t25,t26)
def BF:Nat->(Int×Int×(Int×(Int×(List (List Int))))×(List Int)×(List (List Int))×(List (List Int))×Int×Int)->Option (Int×Int×(Int×(Int×(List (List Int))))×(List Int)×(List (List Int)))
 |0,_=>none
 |n+1,(t0,t1,t6,t7,t8,t24,t25,t26)=>
 if decide (t26<t25)then
 if inb t26 t24 then
 if 0<=(w64 (t1+1))/\(w64 (t1+1))<=(w64 (t1+1))/\(w64 (t1+1))<=lim then
 (BG Aa (t0,t1,(t6.1,(t6.2.1,t6.2.2)),t7,t8,List.replicate (Int.toNat (w64 (t1+1))) (0:Int),t24,t25,t26,gd t24 t26 [],((gd t24 t26 []).length:Int),0)).bind λs1=>
 if s1.2.2.2.2.1.length+ [s1.2.2.2.2.2.1].length<=lim then
 BF n (s1.1,s1.2.1,(s1.2.2.1.1,(s1.2.2.1.2.1,s1.2.2.1.2.2)),s1.2.2.2.1,s1.2.2.2.2.1++ [s1.2.2.2.2.2.1],s1.2.2.2.2.2.2.1,s1.2.2.2.2.2.2.2.1,w64 (s1.2.2.2.2.2.2.2.2+1))
 else none
 else none
 else none
 else
 some (t0,t1,(t6.1,(t6.2.1,t6.2.2)),t7,t8)
def Bt:Nat->(Unit×Int×Int×(Int×(Int×(List (List Int))))×(List Int)×(List (List Int))×(List Int)×Int×((List (List Int))×Int)×Int×Int×Int×Int)->Option (Int×Int×(Int×(Int×(List (List Int))))×(List Int)×(List (List Int))×(List Int)×Int×((List (List Int))×Int)×Int×Int)
 |0,_=>none
 |n+1,(al70,t0,t1,t6,t7,t14,t16,t17,t64,t65,t66,t71,t72)=>
 if decide (t72<t71)then
 if inb t72 t16 then
 if inb t72 t7 then
 Bt n ((),t0,t1,(t6.1,(t6.2.1,t6.2.2)),t7,t14,t16,w64 (t17+(w64 ((gd t16 t72 0)*(gd t7 t72 0)))),(t64.1,-1-(-1-t64.2)),t65,t66,t71,w64 (t72+1))
 else none
 else none
 else
 some (t0,t1,(t6.1,(t6.2.1,t6.2.2)),t7,t14,t16,t17,(t64.1,-1-(-1-t64.2)),t65,t66)
def Bs:Nat->(Int×Int×(Int×(Int×(List (List Int))))×(List Int)×(List (List Int))×((List (List Int))×Int)×Int×Int)->Option (Int×Int×(Int×(Int×(List (List Int))))×(List (List Int)))
 |0,_=>none
 |n+1,(t0,t1,t6,t7,t14,t64,t65,t66)=>
 if decide (t66<t65)then
 if inb t66 t64.1 then
 if(-1-t64.2)<0/\ -1-(-1-t64.2)<=t66 then
 (Bt Aa ((),t0,t1,(t6.1,(t6.2.1,t6.2.2)),t7,t14,gd t64.1 t66 [],0,(t64.1,-1-(-1-(t66+1))),t65,t66,((gd t64.1 t66 []).length:Int),0)).bind λs5=>
 if s5.1≠0 then
 if s5.2.2.2.2.2.1.length+ [Int.tmod s5.2.2.2.2.2.2.1 s5.1].length<=lim then
 if s5.2.2.2.2.1.length+ [s5.2.2.2.2.2.1++ [Int.tmod s5.2.2.2.2.2.2.1 s5.1]].length<=lim then
 Bs n (s5.1,s5.2.1,(s5.2.2.1.1,(s5.2.2.1.2.1,s5.2.2.1.2.2)),s5.2.2.2.1,s5.2.2.2.2.1++ [s5.2.2.2.2.2.1++ [Int.tmod s5.2.2.2.2.2.2.1 s5.1]],(s5.2.2.2.2.2.2.2.1.1,-1-(-1-s5.2.2.2.2.2.2.2.1.2)),s5.2.2.2.2.2.2.2.2.1,w64 (s5.2.2.2.2.2.2.2.2.2+1))
 else none
 else none
 else none
 else none
 else none
 else
 some (t0,t1,(t6.1,(t6.2.1,t6.2.2)),t14)
def DY (t0:Int) (t1:Int) (t2:List (List Int)):Option ((Int×(Int×(List (List Int))))):=
 if inb 0 t2 then
 (BF Aa (t0,t1,(0,(0,[])),gd t2 0 [],[],t2,(t2.length:Int),0)).bind λs1=>
 (Ce s1.1 s1.2.1 s1.2.2.2.2).bind λr2=>
 (Cb (r2.1,(r2.2.1,(r2.2.2.1,(r2.2.2.2.1,r2.2.2.2.2))))).bind λr3=>
 (Bs Aa (s1.1,s1.2.1,(s1.2.2.1.1,(s1.2.2.1.2.1,s1.2.2.1.2.2)),s1.2.2.2.1,[],(r3.2,0),(r3.2.length:Int),0)).bind λs4=>
 (Ce s4.1 s4.2.1 s4.2.2.2).bind λr5=>
 (Dz (r5.1,(r5.2.1,(r5.2.2.1,(r5.2.2.2.1,r5.2.2.2.2))))).bind λr6=>
 some (r6.2.1,(r6.2.2.1,r6.2.2.2))
 else none
def Dj (p:Int) (k:Int) (tuples:List (List Int)):Option ((Int×(Int×(List (List Int))))×Bool):=
 (Dk p k tuples).bind λr1=>
 if !r1.1 then
 some ((0,(0,[])),false)
 else
 if(tuples.length:Int)==0 then
 some ((0,(0,[])),false)
 else
 (DY p k tuples).bind λr2=>
 some ((r2.1,(r2.2.1,r2.2.2)),true)
end T
open Go Go.Va
namespace T
section
variable {p:Int} {k W N V:Nat} {ts:List (List Int)}
theorem L5 (x:Int): -1-(-1-x)=x:=by omega
theorem I3 (h:Cp p=true):pr4 p:=by unfold Cp at h;simp at h;unfold pr4;omega
theorem Ft (h:SetOk p k ts) {b:List Int} (hb:b∈ts): ∀i,i<k->0<=b.getD i 0/\b.getD i 0<p:=λi hi=>(h.get hb hi).2
theorem Mk {s:ES} (hs:ESok p W N V s) (hV:V<W) (hN:N<=100000) (hW:W<=1000):Dz (DS p V s)=some (DS p V s,(p,((V:Int),s.1++s.2.2.filter (nzB V)))):=by
 obtain⟨t,b,l⟩:=s
 have hn:=hs.n
 dsimp only at hn
 have e1:(((t++l).take (Int.toNat ((t++l).length:Int))).drop (Int.toNat (t.length:Int)))=l:=by rw[Int.toNat_natCast,Int.toNat_natCast,List.take_length];simp
 have e2:(((t++l).take (Int.toNat (t.length:Int))).drop (Int.toNat 0))=t:=by simp
 have l3:=BL l.length (λf (o:List (List Int)) i=>Bl f (DS p V (t,b,l),(0,(0,[])),(p,((V:Int),o)),l,(l.length:Int),i)) (λk=>t++(l.take k).filter (nzB V)) (r:=some (DS p V (t,b,l),(0,(0,[])),(p,((V:Int),t++l.filter (nzB V))))) (λf k hk=>?_) (λf=>?_) (n:=Aa) (by unfold Aa;omega)
 ·rw[List.take_zero,List.filter_nil,List.append_nil]at l3
  unfold DS at l3⊢
  have l3:Bl Aa ((p,((V:Int),(t++l,((t.length:Int),BK V b)))),(0,(0,[])),(p,((V:Int),t)),l,(l.length:Int),0)=_:=l3
  unfold Dz
  dsimp only
  rw[e1,e2,if_pos ⟨by omega,by omega,by rw[List.length_append];omega⟩,Ey (by omega) λr h=>by have:=(hs.t r h).1;omega]
  simp only[Option.bind_some]
  rw[if_pos ⟨by omega,by rw[List.length_append];omega,by omega⟩,l3]
  rfl
 ·have hrk:=hs.l _ (List.getElem_mem hk)
  have hvl:V<l[k].length:=by rw[hrk.1];exact hV
  have hcl:CT l[k]=some l[k]:=by
   unfold CT
   rw[if_pos (by have:=hrk.1;simp;unfold lim;omega)];simp
  simp only[DS,Bl,Ae,hk,Ak hk,hvl,Co,hcl,Option.bind_some,if_true,List.take_succ_eq_append_getElem hk,FL,Ac (show k<4611686018427387904 by omega)]
  rw[if_pos (by simp;omega)]
  have hfl:=List.length_filter_le (nzB V) (l.take k)
  rw[List.length_take]at hfl
  have hnz:nzB V l[k]=(l[k].getD V 0 !=0):=rfl
  rw[hnz]
  by_cases hz:l[k].getD V 0=0
  ·rw[if_neg (by simpa using hz),if_neg (by simpa using hz),List.append_nil]
  ·rw[if_pos (by simpa using hz),if_pos (by simp only[List.length_append,List.length_singleton];unfold lim;omega),if_pos (by simpa using hz),List.append_assoc]
 ·simp only[DS,Bl,List.take_length]
  rw[if_neg (by simp)]
theorem Kh {base t:List Int} {i:Nat} (hi:i<k):(Am p k base t).getD i 0=(t.getD i 0+(p-1)*base.getD i 0)%p:=by
 unfold Am
 rw[DW (by simpa using hi),Ab (by simpa using hi)]
 simp
theorem JJ (hp:pr4 p) (h:SetOk p k ts) {base t:List Int} (hb:base∈ts) (ht:t∈ts) (a:Int×(Int×List (List Int))) (t8 t24:List (List Int)) (t25 t26:Int):
  BG Aa (p,(k:Int),(a.1,(a.2.1,a.2.2)),base,t8,List.replicate (k+1) (0:Int),t24,t25,t26,t,(t.length:Int),0)=some (p,(k:Int),(a.1,(a.2.1,a.2.2)),base,t8,Am p k base t,t24,t25,t26):=by
 have hp0:p≠0:=by unfold pr4 at hp;omega
 have hpb:2<=p/\p<=7:=by unfold pr4 at hp;omega
 have hk:=h.hk
 have htl:=h.len t ht
 have hbl:=h.len base hb
 have:=BL k (λf o i=>BG f (p,(k:Int),(a.1,(a.2.1,a.2.2)),base,t8,o,t24,t25,t26,t,(t.length:Int),i)) (λj=>mix (λi=>(Am p k base t).getD i 0) (λ_=>0) (k+1) j) (r:=some (p,(k:Int),(a.1,(a.2.1,a.2.2)),base,t8,Am p k base t,t24,t25,t26)) (λf j hj=>?_) (λf=>?_) (n:=Aa) (by unfold Aa;omega)
 ·have e0:mix (λi=>(Am p k base t).getD i 0) (λ_=>0) (k+1) 0=List.replicate (k+1) (0:Int):=by
   apply List.ext_getElem
   ·rw[CG];simp
   ·intro i _ _;simp[mix]
  rw[e0]at this;exact this
 ·have h1:=Ft h ht j hj
  have h2:=Ft h hb j hj
  have hjt:j<t.length:=by omega
  have hjb:j<base.length:=by omega
  have hjm:j<(mix (λi=>(Am p k base t).getD i 0) (λ_=>0) (k+1) j).length:=by rw[CG];omega
  have hst:=EA (nw:=λi=>(Am p k base t).getD i 0) (old:=λ_=>(0:Int)) (show j<k+1 by omega)
  rw[Kh hj]at hst
  simp only[BG,Ae,hjt,hjb,hjm,Co,BA,if_true,AC (x:=t.getD j 0-base.getD j 0) (by omega) (by omega),AC (x:=t.getD j 0-base.getD j 0+p) (by omega) (by omega),Ac (show j<4611686018427387904 by omega)]
  rw[if_pos (by simp;omega),if_pos hp0,Int.tmod_eq_emod_of_nonneg (by omega),←Le,hst]
 ·simp only[BG,htl]
  rw[if_neg (by simp)]
  congr 1
  refine congrArg (λo=>(p,(k:Int),(a.1,(a.2.1,a.2.2)),base,t8,o,t24,t25,t26)) ?_
  apply List.ext_getElem
  ·rw[CG];simp[Am]
  ·intro i h1 h2
   have hi:i<k+1:=by rw[CG]at h1;exact h1
   simp only[mix,List.getElem_map,List.getElem_range]
   by_cases c:i<k
   ·rw[if_pos c,Ab h2]
   ·have:i=k:=by omega
    subst this
    rw[if_neg (by omega),←Ab (d:=0) h2]
    unfold Am
    have:=Fa (l:=(List.range i).map λj=>(t.getD j 0+(p-1)*base.getD j 0)%p) (x:=(0:Int)) (d:=0)
    rw[List.length_map,List.length_range]at this
    exact this.symm
theorem IX (hp:pr4 p) (h:SetOk p k ts) (h0:0<ts.length):BF Aa (p,(k:Int),(0,(0,[])),ts[0],[],ts,(ts.length:Int),0)=some (p,(k:Int),((0:Int),((0:Int),([]:List (List Int)))),ts[0],ts.map (Am p k ts[0])):=by
 have hk:=h.hk
 have hc:=h.count
 have:=BL ts.length (λf o i=>BF f (p,(k:Int),(0,(0,[])),ts[0],o,ts,(ts.length:Int),i)) (λj=>(ts.take j).map (Am p k ts[0])) (r:=some (p,(k:Int),((0:Int),((0:Int),([]:List (List Int)))),ts[0],ts.map (Am p k ts[0]))) (λf j hj=>?_) (λf=>?_) (n:=Aa) (by unfold Aa;omega)
 ·exact this
 ·have h8:=JJ hp h (List.getElem_mem h0) (List.getElem_mem hj) (0,(0,[])) ((ts.take j).map (Am p k ts[0])) ts (ts.length:Int) (j:Int)
  have ek:w64 ((k:Int)+1)=((k+1:Nat):Int):=Ac (by omega)
  simp only[BF,Ae,hj,Ak hj,ek,Int.toNat_natCast,h8,Option.bind_some,if_true,List.take_succ_eq_append_getElem hj,List.map_append,List.map_cons,List.map_nil,Ac (show j<4611686018427387904 by omega)]
  rw[if_pos (by simp;omega),if_pos (by unfold lim;omega),if_pos (by simp;unfold lim;omega)]
 ·simp only[BF,List.take_length]
  rw[if_neg (by simp)]
theorem JK (hp:pr4 p) {base w:List Int} (hk:k<=4) (hbl:base.length=k) (hb: ∀i,i<k->0<=base.getD i 0/\base.getD i 0<p) (hw:w.length=k/\ ∀x∈w,0<=x/\x<p) (a:Int×(Int×List (List Int))) (t14 K:List (List Int)) (q t65 t66:Int):
  Bt Aa ((),p,(k:Int),(a.1,(a.2.1,a.2.2)),base,t14,w,0,(K,q),t65,t66,(w.length:Int),0)=some (p,(k:Int),(a.1,(a.2.1,a.2.2)),base,t14,w,Io k base w,(K,q),t65,t66):=by
 have:=BL k (λf o i=>Bt f ((),p,(k:Int),(a.1,(a.2.1,a.2.2)),base,t14,w,o,(K,q),t65,t66,(w.length:Int),i)) (λj=>AZ j λi=>w.getD i 0*base.getD i 0) (r:=some (p,(k:Int),(a.1,(a.2.1,a.2.2)),base,t14,w,Io k base w,(K,q),t65,t66)) (λf j hj=>?_) (λf=>?_) (n:=Aa) (by unfold Aa;omega)
 ·exact this
 ·have hd:=IQ hp hb hw j (by omega)
  have h1:=hb j hj
  have h2:=hw.2 _ (AF (l:=w) (i:=j) (d:=0) (by omega))
  have hpb:2<=p/\p<=7:=by unfold pr4 at hp;omega
  have h3:=FY (a:=w.getD j 0) (b:=base.getD j 0) (by omega) (by omega) (by omega) (by omega)
  have hjw:j<w.length:=by omega
  have hjb:j<base.length:=by omega
  simp only[Bt,Ae,hjw,hjb,Co,if_true,L5,AC (x:=w.getD j 0*base.getD j 0) (by omega) (by omega),Ct,Ac (show j<4611686018427387904 by omega)]
  rw[if_pos (by simp;omega),AC (by omega) (by omega)]
 ·simp only[Bt,hw.1,L5]
  rw[if_neg (by simp)];rfl
theorem JL (hp:pr4 p) {base:List Int} (hk:k<=4) (hbl:base.length=k) (hb: ∀i,i<k->0<=base.getD i 0/\base.getD i 0<p) {K:List (List Int)} (hK: ∀w∈K,w.length=k/\ ∀x∈w,0<=x/\x<p) (hKl:K.length<=k):
  Bs Aa (p,(k:Int),(0,(0,[])),base,[],(K,0),(K.length:Int),0)=some (p,(k:Int),(0,(0,[])),K.map (Em p k base)):=by
 have hp0:p≠0:=by unfold pr4 at hp;omega
 have:=BL K.length (λf (s:List (List Int)×Int) i=>Bs f (p,(k:Int),(0,(0,[])),base,s.1,(K,s.2),(K.length:Int),i)) (λj=>((K.take j).map (Em p k base),(j:Int))) (r:=some (p,(k:Int),(0,(0,[])),K.map (Em p k base))) (λf j hj=>?_) (λf=>?_) (n:=Aa) (by unfold Aa;omega)
 ·exact this
 ·have hw:=hK _ (List.getElem_mem hj)
  have h20:=JK hp hk hbl hb hw (0,(0,[])) ((K.take j).map (Em p k base)) K ((j:Int)+1) (K.length:Int) (j:Int)
  have e:((j+1:Nat):Int)=(j:Int)+1:=by push_cast;rfl
  simp only[Bs,L5,Ae,hj,Ak hj,h20,Option.bind_some,if_true,List.take_succ_eq_append_getElem hj,List.map_append,List.map_cons,List.map_nil,Ac (show j<4611686018427387904 by omega)]
  rw[if_pos (by simp;omega),if_pos (by omega),if_pos hp0,if_pos (by simp;unfold lim;omega),if_pos (by simp;unfold lim;omega)]
  rfl
 ·simp only[Bs,List.take_length]
  rw[if_neg (by simp)]
def eqF (p:Int) (k:Nat) (ts:List (List Int)):List (List Int):=(Ad p (DE p k (ts.headD []) (ts.map (Am p k (ts.headD [])))) k).1
theorem Is (hp:pr4 p) (h:SetOk p k ts) (h0:0<ts.length):DY p (k:Int) ts=some (p,((k:Int),eqF p k ts)):=by
 have hk:=h.hk
 have hc:=h.count
 have hh:ts.headD []=ts[0]:=by cases ts with|nil=>simp at h0|cons a l=>rfl
 have hm:ts[0]∈ts:=List.getElem_mem h0
 have hb:=Ft h hm
 have hbl:=h.len _ hm
 have hD: ∀r∈ts.map (Am p k ts[0]),Aj p (k+1) r:=λr hr=>by
  obtain⟨t,_,rfl⟩:=List.mem_map.1 hr
  exact D7 hp
 have hDl:(ts.map (Am p k ts[0])).length<=100000:=by simp;omega
 have hs:=AK hp hD k (by omega)
 have e1:=Kl (EE hp (show k<=k+1 by omega) (by omega) hD hDl)
 have e1:Ce p (k:Int) (ts.map (Am p k ts[0]))=some (DS p k (Ad p (ts.map (Am p k ts[0])) k)):=e1
 have e2:=LZ hp hs (by omega) hDl (by omega)
 have hK:=λw (hw:w∈Bu p k (Ad p (ts.map (Am p k ts[0])) k))=>G9 hp hs hw
 have hKl:(Bu p k (Ad p (ts.map (Am p k ts[0])) k)).length<=k:=by unfold Bu;rw[List.length_map];exact Cu
 have e3:=JL hp hk hbl hb hK hKl
 obtain⟨q1,q2,q3⟩:=G7 hp hb hD
 have hs2:=AK hp q1 k (by omega)
 have e4:=Kl (EE hp (show k<=k+1 by omega) (by omega) q1 (by omega))
 have e4:Ce p (k:Int) ((Bu p k (Ad p (ts.map (Am p k ts[0])) k)).map (Em p k ts[0]))=some (DS p k (Ad p (DE p k ts[0] (ts.map (Am p k ts[0]))) k)):=e4
 have e5:=Mk hs2 (by omega) (by omega) (by omega)
 rw[q3,List.append_nil]at e5
 unfold DY eqF
 rw[hh]
 have h00:inb (0:Int) ts:=by unfold inb;omega
 have g00:gd ts 0 []=ts[0]:=by have:=Ak (d:= []) h0;exact this
 rw[if_pos h00,g00,IX hp h h0]
 simp only[Option.bind_some,e1]
 generalize Ad p (ts.map (Am p k ts[0])) k=s at*
 have e2:Cb ((DS p k s).1,((DS p k s).2.1,((DS p k s).2.2.1,((DS p k s).2.2.2.1,(DS p k s).2.2.2.2))))=_:=e2
 simp only[e2,Option.bind_some,e3,e4]
 generalize Ad p (DE p k ts[0] (ts.map (Am p k ts[0]))) k=s2 at*
 have e5:Dz ((DS p k s2).1,((DS p k s2).2.1,((DS p k s2).2.2.1,((DS p k s2).2.2.2.1,(DS p k s2).2.2.2.2))))=_:=e5
 simp only[e5,Option.bind_some]
end
end T
open Go Go.Va
namespace T
section
variable {p:Int} {k W N V:Nat} {ts:List (List Int)}
theorem I4 {D:List (List Int)} {d:List Int}:Fi p k (D++ [d])=(Ad p (Fi p k D++ [d]) k).1:=by
 unfold Fi;rw[List.foldl_append];rfl
theorem J4 (hp:pr4 p) (h:SetOk p k ts) (h0:0<ts.length):BJ Aa (p,(k:Int),ts,((0:Int),((0:Int),([]:List (List Int)))),[],1)=some (p,(k:Int),ts,((0:Int),((0:Int),([]:List (List Int)))),Fi p k ((ts.drop 1).map (Am p k ts[0]))):=by
 have hk:=h.hk
 have hc:=h.count
 have hD: ∀r∈(ts.drop 1).map (Am p k ts[0]),Aj p (k+1) r:=λr hr=>by
  obtain⟨t,_,rfl⟩:=List.mem_map.1 hr
  exact D7 hp
 have hdl:(ts.drop 1).length=ts.length-1:=by simp
 have:=BL (ts.length-1) (λf o i=>BJ f (p,(k:Int),ts,((0:Int),((0:Int),([]:List (List Int)))),o,i+1)) (λj=>Fi p k (((ts.drop 1).take j).map (Am p k ts[0]))) (r:=some (p,(k:Int),ts,((0:Int),((0:Int),([]:List (List Int)))),Fi p k ((ts.drop 1).map (Am p k ts[0])))) (λf j hj=>?_) (λf=>?_) (n:=Aa) (by unfold Aa;omega)
 ·exact this
 ·have hj1:j+1<ts.length:=by omega
  have hjd:j<(ts.drop 1).length:=by omega
  have hin:inb ((j:Int)+1) ts:=by unfold inb;omega
  have hge:gd ts ((j:Int)+1) []=ts[j+1]:=by have:=Ak (d:= []) hj1;exact this
  have h00:inb (0:Int) ts:=by unfold inb;omega
  have g00:gd ts 0 []=ts[0]:=by have:=Ak (d:= []) h0;exact this
  have hls:=HR h (List.getElem_mem hj1) (List.getElem_mem h0)
  obtain⟨_,r2,r3⟩:=GD hp (show k<=k+1 by omega) (((ts.drop 1).take j).map (Am p k ts[0])) [] (λr hr=>by
   obtain⟨t,ht,rfl⟩:=List.mem_map.1 hr
   exact D7 hp) (λr h=>by cases h) (by simp)
  have r2: ∀r∈Fi p k (((ts.drop 1).take j).map (Am p k ts[0])),Aj p (k+1) r:=r2
  have r3:(Fi p k (((ts.drop 1).take j).map (Am p k ts[0]))).length<=k:=r3
  have hgd:(ts.drop 1)[j]=ts[j+1]:=by rw[List.getElem_drop];congr 1;omega
  have hdd:((List.range k).map (λi:Nat=>((ts[j+1].getD i 0+(p-(1:Int))*ts[0].getD i 0)%p:Int)):List Int)++ [(0:Int)]=Am p k ts[0] ts[j+1]:=rfl
  have hok: ∀r∈Fi p k (((ts.drop 1).take j).map (Am p k ts[0]))++ [Am p k ts[0] ts[j+1]],Aj p (k+1) r:=λr hr=>by
   rcases List.mem_append.1 hr with hr|hr
   ·exact r2 r hr
   ·rw[List.mem_singleton.1 hr];exact D7 hp
  have hel:=BE hp (show k<=k+1 by omega) (by omega) hok (by rw[List.length_append,List.length_singleton];omega)
  have ew:w64 ((j:Int)+1+1)=((j+1:Nat):Int)+1:=by rw[AC (by omega) (by omega)];push_cast;rfl
  simp only[BJ,hin,h00,hge,g00,hls,Option.bind_some,if_true,hdd,hel,ew,List.take_succ_eq_append_getElem hjd,List.map_append,List.map_cons,List.map_nil,I4,hgd]
  rw[if_pos (by simp;omega),if_pos (by simp;unfold lim;omega),if_pos (by simp only[List.length_append,List.length_singleton];unfold lim;omega)]
 ·have e1:(ts.drop 1).take (ts.length-1)=ts.drop 1:=by rw[←hdl,List.take_length]
  simp only[BJ,e1]
  rw[if_neg (by simp;omega)]
theorem J1 (hp:pr4 p) {base w:List Int} {K:List (List Int)} {j:Nat} (h00:inb (0:Int) ts) (g00:gd ts 0 []=base) (hj:j<K.length) (hKj:K[j]=w) (hk:k<=4) (hbl:base.length=k) (hb: ∀i,i<k->0<=base.getD i 0/\base.getD i 0<p) (hw:w.length=k/\ ∀x∈w,0<=x/\x<p) (a:Int×(Int×List (List Int))) (t11:List (List Int)):
  Bw Aa (p,(k:Int),ts,(a.1,(a.2.1,a.2.2)),K,t11,(j:Int),0,0)=some (p,(k:Int),ts,(a.1,(a.2.1,a.2.2)),K,t11,(j:Int),Int.tmod (Io k base w) p):=by
 have hp0:p≠0:=by unfold pr4 at hp;omega
 have hpb:2<=p/\p<=7:=by unfold pr4 at hp;omega
 have:=BL k (λf o i=>Bw f (p,(k:Int),ts,(a.1,(a.2.1,a.2.2)),K,t11,(j:Int),o,i)) (λi=>Int.tmod (AZ i λi=>w.getD i 0*base.getD i 0) p) (r:=some (p,(k:Int),ts,(a.1,(a.2.1,a.2.2)),K,t11,(j:Int),Int.tmod (Io k base w) p)) (λf i hi=>?_) (λf=>?_) (n:=Aa) (by unfold Aa;omega)
 ·have e0:Int.tmod (AZ 0 λi=>w.getD i 0*base.getD i 0) p=0:=by simp[AZ]
  rw[e0]at this;exact this
 ·have hd:=IQ hp hb hw i (by omega)
  have h1:=hb i hi
  have h2:=hw.2 _ (AF (l:=w) (i:=i) (d:=0) (by omega))
  have h3:=FY (a:=w.getD i 0) (b:=base.getD i 0) (by omega) (by omega) (by omega) (by omega)
  have hm:=Hv hp hd.1
  have hiw:i<w.length:=by omega
  have hib:i<base.length:=by omega
  have em:Int.tmod (Int.tmod (AZ i λi=>w.getD i 0*base.getD i 0) p+w.getD i 0*base.getD i 0) p=Int.tmod (AZ (i+1) λi=>w.getD i 0*base.getD i 0) p:=by
   rw[Ct,Int.tmod_eq_emod_of_nonneg (by omega),Int.tmod_eq_emod_of_nonneg hd.1,Int.tmod_eq_emod_of_nonneg (by omega),Int.emod_add_emod]
  simp only[Bw,Ae,hj,Ak hj,hKj,h00,g00,hiw,hib,Co,if_true,AC (x:=w.getD i 0*base.getD i 0) (by omega) (by omega),Ac (show i<4611686018427387904 by omega)]
  rw[if_pos (by simp;omega),if_pos hp0,AC (by omega) (by omega),em]
 ·simp only[Bw]
  rw[if_neg (by simp)];rfl
theorem J2 (hp:pr4 p) {base:List Int} (h00:inb (0:Int) ts) (g00:gd ts 0 []=base) (hk:k<=4) (hbl:base.length=k) (hb: ∀i,i<k->0<=base.getD i 0/\base.getD i 0<p) {K:List (List Int)} (hK: ∀w∈K,w.length=k/\ ∀x∈w,0<=x/\x<p) (hKl:K.length<=k):
  Bv Aa (p,(k:Int),ts,((0:Int),((0:Int),([]:List (List Int)))),K,[],0)=some (p,(k:Int),((0:Int),((0:Int),([]:List (List Int)))),K.map (Em p k base)):=by
 have:=BL K.length (λf o i=>Bv f (p,(k:Int),ts,((0:Int),((0:Int),([]:List (List Int)))),K,o,i)) (λj=>(K.take j).map (Em p k base)) (r:=some (p,(k:Int),((0:Int),((0:Int),([]:List (List Int)))),K.map (Em p k base))) (λf j hj=>?_) (λf=>?_) (n:=Aa) (by unfold Aa;omega)
 ·exact this
 ·have hw:=hK _ (List.getElem_mem hj)
  have hwl:=hw.1
  have h15:=J1 (ts:=ts) hp h00 g00 hj rfl hk hbl hb hw (0,(0,[])) ((K.take j).map (Em p k base))
  simp only[Bv,h15,Option.bind_some,Ae,hj,Ak hj,Dv (show K[j].length<=1099511627775 by omega),if_true,List.take_succ_eq_append_getElem hj,List.map_append,List.map_cons,List.map_nil,Ac (show j<4611686018427387904 by omega)]
  rw[if_pos (by simp;omega),if_pos (by simp;unfold lim;omega),if_pos (by simp;unfold lim;omega)]
  rfl
 ·simp only[Bv,List.take_length]
  rw[if_neg (by simp)]
theorem GZ {kk:Int} (hpr:Cp p=true) (hs:Es p kk ts=true) (h0:0<ts.length) (ha:El p ts=true) (hl:ts.length<=1099511627774) (hr: ∀t∈ts,t.length<=1099511627775):Au p kk ts=some ((p,(kk,eqF p kk.toNat ts)),true):=by
 have h:=Fj hpr hs
 have hp:=I3 hpr
 have hkk:(kk.toNat:Int)=kk:=by
  have:=h0
  unfold Es at hs
  simp only[Bool.and_eq_true,decide_eq_true_eq]at hs
  omega
 have hk:=h.hk
 have hc:=h.count
 unfold Au
 rw[AU,hpr]
 simp only[Option.bind_some,Bool.not_true,Bool.false_eq_true,if_false]
 rw[BV hl hr,hs]
 simp only[Option.bind_some,Bool.not_true,Bool.false_eq_true,if_false]
 rw[if_neg (by simp;intro e;rw[e]at h0;simp at h0),GF h,ha]
 simp only[Option.bind_some,Bool.not_true,Bool.false_eq_true,if_false]
 generalize kk.toNat=k at*
 subst hkk
 have hh:ts.headD []=ts[0]:=by cases ts with|nil=>simp at h0|cons a l=>rfl
 have hm:ts[0]∈ts:=List.getElem_mem h0
 have hb:=Ft h hm
 have hbl:=h.len _ hm
 have h00:inb (0:Int) ts:=by unfold inb;omega
 have g00:gd ts 0 []=ts[0]:=by have:=Ak (d:= []) h0;exact this
 have hD: ∀r∈(ts.drop 1).map (Am p k ts[0]),Aj p (k+1) r:=λr hr=>by
  obtain⟨t,_,rfl⟩:=List.mem_map.1 hr
  exact D7 hp
 obtain⟨_,r2,r3⟩:=GD hp (show k<=k+1 by omega) ((ts.drop 1).map (Am p k ts[0])) [] hD (λr h=>by cases h) (by simp)
 have r2: ∀r∈Fi p k ((ts.drop 1).map (Am p k ts[0])),Aj p (k+1) r:=r2
 have r3:(Fi p k ((ts.drop 1).map (Am p k ts[0]))).length<=k:=r3
 have hs1:=AK hp r2 k (by omega)
 have e1:=BE hp (show k<=k+1 by omega) (by omega) r2 (by omega)
 have e2:=G0 hp hs1 (by omega) (by omega) (by omega)
 have hker:=Kz hp (show k<=k+1 by omega) hD (D7 (p:=p) (k:=k) hp (base:=ts[0]) (t:=ts[0])) JE
 have hcons:Am p k ts[0] ts[0]::(ts.drop 1).map (Am p k ts[0])=ts.map (Am p k ts[0]):=by cases ts with|nil=>simp at h0|cons a l=>rfl
 rw[hcons]at hker
 have hD2: ∀r∈ts.map (Am p k ts[0]),Aj p (k+1) r:=λr hr=>by
  obtain⟨t,_,rfl⟩:=List.mem_map.1 hr
  exact D7 hp
 rw[←hker]at e2
 have hs2:=AK hp hD2 k (by omega)
 have hK:=λw (hw:w∈Bu p k (Ad p (ts.map (Am p k ts[0])) k))=>G9 hp hs2 hw
 have hKl:(Bu p k (Ad p (ts.map (Am p k ts[0])) k)).length<=k:=by unfold Bu;rw[List.length_map];exact Cu
 have e3:=J2 (ts:=ts) hp h00 g00 hk hbl hb hK hKl
 obtain⟨q1,q2,_⟩:=G7 hp hb hD2
 have e4:=BE hp (show k<=k+1 by omega) (by omega) q1 (by omega)
 have e4:Bj p (k:Int) ((Bu p k (Ad p (ts.map (Am p k ts[0])) k)).map (Em p k ts[0]))=_:=e4
 rw[J4 hp h h0]
 simp only[Option.bind_some,e1]
 generalize Ad p (Fi p k ((ts.drop 1).map (Am p k ts[0]))) k=s1 at*
 have e2:CO (s1.1,(s1.2.1,s1.2.2)) p (k:Int)=_:=e2
 simp only[e2,Option.bind_some,e3,e4]
 unfold eqF
 rw[hh]
theorem LR (hp:pr4 p) (h:SetOk p k ts) (h0:0<ts.length):(eqF p k ts).length<=16/\ ∀r∈eqF p k ts,r.length<=16:=by
 have hk:=h.hk
 have hh:ts.headD []=ts[0]:=by cases ts with|nil=>simp at h0|cons a l=>rfl
 have hb:=Ft h (List.getElem_mem h0)
 have hD2: ∀r∈ts.map (Am p k ts[0]),Aj p (k+1) r:=λr hr=>by
  obtain⟨t,_,rfl⟩:=List.mem_map.1 hr
  exact D7 hp
 obtain⟨q1,q2,_⟩:=G7 hp hb hD2
 have hs:=AK hp q1 k (by omega)
 have hl:=GW hp q1 (show k<=k+1 by omega)
 unfold eqF
 rw[hh]
 exact⟨by omega,λr hr=>by have:=(hs.t r hr).1;omega⟩
theorem Hd {kk:Int} (hl:ts.length<=1099511627774) (hr: ∀t∈ts,t.length<=1099511627775): ∃R:Lin×Bool,Dj p kk ts=some R/\Au p kk ts=some R/\R.1.2.2.length<=16/\ ∀r∈R.1.2.2,r.length<=16:=by
 unfold Dj
 rw[Ew hl hr]
 unfold Gw
 cases hp:Cp p with
 |false=>
  refine⟨((0,(0,[])),false),by simp,?_,by simp,by simp⟩
  unfold Au;rw[AU,hp];rfl
 |true=>
  cases hs:Es p kk ts with
  |false=>
   refine⟨((0,(0,[])),false),by simp,?_,by simp,by simp⟩
   unfold Au
   rw[AU,hp]
   simp only[Option.bind_some,Bool.not_true,Bool.false_eq_true,if_false]
   rw[BV hl hr,hs];rfl
  |true=>
   have h:=Fj hp hs
   have hp4:=I3 hp
   by_cases h0:0<ts.length
   ·cases ha:El p ts with
    |false=>
     refine⟨((0,(0,[])),false),by simp[ha],?_,by simp,by simp⟩
     unfold Au
     rw[AU,hp]
     simp only[Option.bind_some,Bool.not_true,Bool.false_eq_true,if_false]
     rw[BV hl hr,hs]
     simp only[Option.bind_some,Bool.not_true,Bool.false_eq_true,if_false]
     rw[if_neg (by simp;intro e;rw[e]at h0;simp at h0),GF h,ha];rfl
    |true=>
     have hkk:(kk.toNat:Int)=kk:=by
      unfold Es at hs
      simp only[Bool.and_eq_true,decide_eq_true_eq]at hs
      omega
     have e1:=Is hp4 h h0
     rw[hkk]at e1
     obtain⟨q1,q2⟩:=LR hp4 h h0
     refine⟨((p,(kk,eqF p kk.toNat ts)),true),?_,GZ hp hs h0 ha hl hr,q1,q2⟩
     simp only[Bool.and_self,if_true,Option.bind_some,Bool.not_true,Bool.false_eq_true,if_false,ha]
     rw[if_neg (by simp;intro e;rw[e]at h0;simp at h0),e1];rfl
   ·have:ts= []:=List.length_eq_zero_iff.1 (by omega)
    subst this
    refine⟨((0,(0,[])),false),?_,?_,by simp,by simp⟩
    ·simp[El]
    ·unfold Au
     rw[AU,hp]
     simp only[Option.bind_some,Bool.not_true,Bool.false_eq_true,if_false]
     rw[BV hl hr,hs]
     simp
end
end T
open Go Go.Va
namespace T
def i64 (x:Int):Prop:= -9223372036854775808<=x/\x<=9223372036854775807
section
variable {c:List Int} {ar:Int}
def Mx (t:List Int) (x:Int):Bool:=if x>0 then gd t (x-1) 0==1 else gd t (-x-1) 0==0
end
end T
open Go Go.Va
namespace T
abbrev NS:=Bool×Int×List (List (List Int))×List (List (List ByteArray))
abbrev NIn (σ:Type):=Int×List Int×σ×NS×List Int×Unit
abbrev K6 (σ:Type):=List Int×σ×NS×List Int×Bool
def hM {σ:Type}:Nat->(Int×List Int×σ×NS×List Int×Unit×Int×Bool×List (List Int)×Int×Int)->Option (Int×List Int×σ×NS×List Int×Unit×Int×Bool)
 |0,_=>none
 |n+1,(t0,t1,t2,t3,t4,t5,t8,t9,t50,t51,t52)=>
 if decide (t52<t51)then
 if inb t52 t50 then
 if t9 then
 if t3.1=true then
 if inb t0 t3.2.2.2 then
 if inb t52 (gd t3.2.2.2 t0 [])then
 (H7 (gd t50 t52 []) t1).bind λr2=>
 (EN r2).bind λr3=>
 hM n (t0,t1,t2,t3,t4,(),t8,Xs (gd (gd t3.2.2.2 t0 []) t52 []) r3,t50,t51,w64 (t52+1))
 else none
 else none
 else none
 else
 hM n (t0,t1,t2,t3,t4,(),t8,false,t50,t51,w64 (t52+1))
 else none
 else
 some (t0,t1,t2,t3,t4,(),t8,t9)
def hL {σ:Type} (rec:NIn σ->Option (K6 σ)):Nat->(Int×List Int×σ×NS×List Int×Unit×Int)->Option ((List Int×σ×NS×List Int×Unit)⊕(List Int×σ×NS×List Int×Unit×Bool))
 |0,_=>none
 |n+1,(t0,t1,t2,t3,t4,t5,t8)=>
 if t3.1=true then
 if decide (t8<t3.2.1)then
 if inb t0 t4 then
 if decide ((gd t4 t0 0)≥0)then
 if inb t0 t4 then
 if(gd t4 t0 0) !=t8 then
 hL rec n (t0,t1,t2,t3,t4,(),w64 (t8+1))
 else
 if inb t0 t1 then
 if t3.1=true then
 if inb t0 t3.2.2.1 then
 (hM Aa (t0,stt t1 t0 t8,t2,t3,t4,(),t8,true,gd t3.2.2.1 t0 [],((gd t3.2.2.1 t0 []).length:Int),0)).bind λs2=>
 if s2.2.2.2.2.2.2.2 then
 (rec (w64 (s2.1+1),s2.2.1,s2.2.2.1,s2.2.2.2.1,s2.2.2.2.2.1,())).bind λr3=>
 if !r3.2.2.2.2 then
 some (.inr (r3.1,r3.2.1,r3.2.2.1,r3.2.2.2.1,(),false))
 else
 hL rec n (s2.1,r3.1,r3.2.1,r3.2.2.1,r3.2.2.2.1,(),w64 (s2.2.2.2.2.2.2.1+1))
 else
 hL rec n (s2.1,s2.2.1,s2.2.2.1,s2.2.2.2.1,s2.2.2.2.2.1,(),w64 (s2.2.2.2.2.2.2.1+1))
 else none
 else none
 else none
 else none
 else
 if inb t0 t1 then
 if t3.1=true then
 if inb t0 t3.2.2.1 then
 (hM Aa (t0,stt t1 t0 t8,t2,t3,t4,(),t8,true,gd t3.2.2.1 t0 [],((gd t3.2.2.1 t0 []).length:Int),0)).bind λs4=>
 if s4.2.2.2.2.2.2.2 then
 (rec (w64 (s4.1+1),s4.2.1,s4.2.2.1,s4.2.2.2.1,s4.2.2.2.2.1,())).bind λr5=>
 if !r5.2.2.2.2 then
 some (.inr (r5.1,r5.2.1,r5.2.2.1,r5.2.2.2.1,(),false))
 else
 hL rec n (s4.1,r5.1,r5.2.1,r5.2.2.1,r5.2.2.2.1,(),w64 (s4.2.2.2.2.2.2.1+1))
 else
 hL rec n (s4.1,s4.2.1,s4.2.2.1,s4.2.2.2.1,s4.2.2.2.2.1,(),w64 (s4.2.2.2.2.2.2.1+1))
 else none
 else none
 else none
 else none
 else
 some (.inl (t1,t2,t3,t4,()))
 else none
def Mh {σ:Type} (cb:List Int->σ->Option (σ×Bool)) (rec:NIn σ->Option (K6 σ)) (x:NIn σ):Option (K6 σ):=
 if x.1==(x.2.1.length:Int)then
  (cb x.2.1 x.2.2.1).bind λr1=>some (x.2.1,r1.1,x.2.2.2.1,x.2.2.2.2.1,r1.2)
 else
  (hL rec Aa (x.1,x.2.1,x.2.2.1,x.2.2.2.1,x.2.2.2.2.1,(),0)).bind λs2=>
   match s2 with
   | .inl s3=>some (s3.1,s3.2.1,s3.2.2.1,s3.2.2.2.1,true)
   | .inr s4=>some (s4.1,s4.2.1,s4.2.2.1,s4.2.2.2.1,s4.2.2.2.2.2)
def hF {σ:Type} (cb:List Int->σ->Option (σ×Bool)):Nat->NIn σ->Option (K6 σ)
 |0,_=>none
 |d+1,x=>Mh cb (hF cb d) x
section
variable {V n:Nat} {cs:List Con} {given:List Int}
end
end T
set_option linter.unusedVariables false
open Go Go.Va
namespace T
def HN (code:List Int):Option (Bool):=
 some (decide ((code.length:Int)>65536))
def Cr (c:(List Int)×Int×Int):Option (((List Int)×Int×Int)×Int):=
 if decide (c.2.1<(c.1.length:Int))then
 if inb c.2.1 c.1 then
 if decide ((w64 (c.2.1+1))<=(c.1.length:Int))then
 some ((c.1,(w64 (c.2.1+1),IntKind.wrap .u64 ((IntKind.wrap .u64 ((IntKind.wrap .u64 (c.2.2*6364136223846793005))+(IntKind.wrap .u64 (w64 (gd c.1 c.2.1 0)))))+550289))),w64 (gd c.1 c.2.1 0))
 else
 if(0:Int)<=40 then
 some ((c.1,(w64 (c.2.1+1),IntKind.wrap .u64 ((IntKind.wrap .u64 ((IntKind.wrap .u64 (c.2.2*6364136223846793005))+(IntKind.wrap .u64 (w64 (gd c.1 c.2.1 0)))))+550289))),w64 (Yil .u64 (YiD .u64 (IntKind.wrap .u64 ((IntKind.wrap .u64 ((IntKind.wrap .u64 (c.2.2*6364136223846793005))+(IntKind.wrap .u64 (w64 (gd c.1 c.2.1 0)))))+550289)) 40) 255))
 else none
 else none
 else
 if decide ((w64 (c.2.1+1))<=(c.1.length:Int))then
 some ((c.1,(w64 (c.2.1+1),IntKind.wrap .u64 ((IntKind.wrap .u64 ((IntKind.wrap .u64 (c.2.2*6364136223846793005))+(IntKind.wrap .u64 (0))))+550289))),0)
 else
 if(0:Int)<=40 then
 some ((c.1,(w64 (c.2.1+1),IntKind.wrap .u64 ((IntKind.wrap .u64 ((IntKind.wrap .u64 (c.2.2*6364136223846793005))+(IntKind.wrap .u64 (0))))+550289))),w64 (Yil .u64 (YiD .u64 (IntKind.wrap .u64 ((IntKind.wrap .u64 ((IntKind.wrap .u64 (c.2.2*6364136223846793005))+(IntKind.wrap .u64 (0))))+550289)) 40) 255))
 else none
def Ag (c:(List Int)×Int×Int) (n_:Int):Option (((List Int)×Int×Int)×Int):=
 if decide (n_<=1)then
 some ((c.1,(c.2.1,c.2.2)),0)
 else
 (Cr (c.1,(c.2.1,c.2.2))).bind λr1=>
 if decide (n_>200)then
 (Cr (r1.1.1,(r1.1.2.1,r1.1.2.2))).bind λr2=>
 if n_≠0 then
 some ((r2.1.1,(r2.1.2.1,r2.1.2.2)),Int.tmod (w64 ((w64 (r1.2*256))+r2.2)) n_)
 else none
 else
 if n_≠0 then
 some ((r1.1.1,(r1.1.2.1,r1.1.2.2)),Int.tmod r1.2 n_)
 else none
def Af (c:(List Int)×Int×Int) (list:List Int):Option (((List Int)×Int×Int)×Int):=
 (Ag (c.1,(c.2.1,c.2.2)) (list.length:Int)).bind λr1=>
 if inb r1.2 list then
 some ((r1.1.1,(r1.1.2.1,r1.1.2.2)),gd list r1.2 0)
 else none
def Ck (c:(List Int)×Int×Int) (n_:Int):Option (((List Int)×Int×Int)×Bool):=
 (Ag (c.1,(c.2.1,c.2.2)) n_).bind λr1=>
 some ((r1.1.1,(r1.1.2.1,r1.1.2.2)),r1.2==0)
def Dt:Nat->((List Int)×(List Int)×Int)->Option ((Unit)⊕(Bool))
 |0,_=>none
 |n+1,(a,b,i)=>
 if decide (i<(a.length:Int))then
 if inb i a then
 if inb i b then
 if(gd a i 0) !=(gd b i 0)then
 some (.inr false)
 else
 Dt n (a,b,w64 (i+1))
 else none
 else none
 else
 some (.inl ())
def EO (a:List Int) (b:List Int):Option (Bool):=
 if(a.length:Int) !=(b.length:Int)then
  some false
 else
  (Dt Aa (a,b,0)).bind λs1=>
   match s1 with
   | .inl s2=>
    some true
   | .inr s3=>
    some s3
def Dn (a:Int) (b:Int):Option (Int):=
 if decide (a<b)then
 some a
 else
 some b
end T
open Go Go.Va
namespace T
section
variable {p:Int} {V W N k:Nat} {A B C D:List (List Int)} {f g:Nat->Int}
def My (p:Int) (k:Nat) (A:List (List Int)) (c:Nat->Int):Prop:= ∀r∈A,cg p (AZ k λi=>r.getD i 0*c i) (r.getD k 0)
theorem KZ (hp:pr4 p) (hA: ∀r∈A,Aj p (k+1) r) (hf:C2 k (Ad p A k)=false):My p k A (FI k (Ad p A k)):=by
 have hs:=AK hp hA k (by omega)
 have hrr:=DL hp hA k (by omega)
 have hsp:=Fu hp hA (V:=k+1) (Nat.le_refl _) k (by omega)
 generalize Ad p A k=s at*
 have h1: ∀r∈s.1++s.2.2,cg p (AZ k λi=>r.getD i 0*FI k s i) (r.getD k 0):=by
  intro r hr
  rcases List.mem_append.1 hr with hr|hr
  ·obtain⟨i,hi,rfl⟩:=List.mem_iff_getElem.1 hr
   have hb:i<s.2.1.length:=by have:=hs.bl;omega
   have hbv:=hs.bv _ (List.getElem_mem hb)
   have hbn:s.2.1[i]=(((s.2.1[i]).toNat:Nat):Int):=by omega
   have hpos:=FX hs.bn hb hbn
   have e1:FI k s (s.2.1[i]).toNat=(s.1[i]).getD k 0:=by
    unfold FI
    rw[hpos,if_neg (by omega),Int.toNat_natCast,Ab hi]
   have e2:(s.1[i]).getD (s.2.1[i]).toNat 0=1:=by
    have:=hrr.piv i hi i hi
    rw[Ab hi,Ab hb,if_pos rfl]at this
    exact this
   have e3:=Ek (n:=k) (m:=(s.2.1[i]).toNat) (h:=λu=>(s.1[i]).getD u 0*FI k s u) (by omega) λu hu hne=>by
    by_cases hm:(u:Int)∈s.2.1
    ·obtain⟨j,hj,hj1,hj2⟩:=DA hm
     have hji:j≠i:=λe=>by subst e;rw[hj2]at hne;exact hne (by omega)
     have:=hrr.piv i hi j (by have:=hs.bl;omega)
     rw[Ab hi,Ab hj,if_neg (λe=>hji e.symm),hj2,Int.toNat_natCast]at this
     rw[this];simp
    ·have:FI k s u=0:=by unfold FI;rw[if_pos (Ca.2 hm)]
     rw[this];simp
   rw[e3]
   exact BC (by rw[e1,e2];simp)
  ·have hz:=hrr.zl r hr
   have h0:nzB k r=false:=by
    unfold C2 at hf
    rw[List.any_eq_false]at hf
    simpa using hf r hr
   have h0:r.getD k 0=0:=by unfold nzB at h0;simpa using h0
   rw[h0]
   exact D6 λj hj=>by rw[hz j hj];exact BC (by simp)
 intro r hr
 exact If h1 ((hsp _).1 (Sp.mem hr))
end
end T
open Go Go.Va
namespace T
abbrev F4:=List Int×Int×Int
def Cur (k:Nat) (c:F4):Prop:=c.1.length<=65536/\(∀x∈c.1,0<=x/\x<256)/\0<=c.2.1/\c.2.1<=(k:Int)
theorem LP (x:Int):0<=w64 (Yil .u64 x 255)/\w64 (Yil .u64 x 255)<256:=by
 have h1:(BitVec.ofInt 64 x&&&BitVec.ofInt 64 255).toNat<=255:=by
  rw[BitVec.toNat_and]
  have:(BitVec.ofInt 64 255).toNat=255:=by decide
  rw[this]
  exact Nat.and_le_right
 have h2:Yil .u64 x 255=((BitVec.ofInt 64 x&&&BitVec.ofInt 64 255).toNat:Int):=by
  unfold Yil
  have e: ∀n:Nat,n<=255->IntKind.wrap .u64 (n:Int)=(n:Int):=λn hn=>by
   simp[IntKind.wrap,IntKind.bits,IntKind.signed]
   omega
  exact e _ h1
 rw[h2,Ao (by omega) (by omega)]
 omega
theorem Jo {k:Nat} {c:F4} (h:Cur k c) (hk:k<=1000000000): ∃c' x,Cr c=some (c',x)/\Cur (k+1) c'/\0<=x/\x<256:=by
 obtain⟨code,at',seed⟩:=c
 obtain⟨h1,h2,h3,h4⟩:=h
 dsimp only at h1 h2 h3 h4
 have hw:w64 (at'+1)=at'+1:=Ao (by omega) (by omega)
 have hC: ∀s,Cur (k+1) (code,(at'+1,s)):=λs=>⟨h1,h2,by dsimp only;omega,by dsimp only;omega⟩
 unfold Cr
 simp only[hw]
 by_cases hc:at'<(code.length:Int)
 ·have hin:inb at' code:=⟨h3,hc⟩
  have hle:at'+1<=(code.length:Int):=by omega
  have hb:0<=gd code at' 0/\gd code at' 0<256:=by
   have:gd code at' 0=code.getD at'.toNat 0:=rfl
   rw[this,Ab (by omega)]
   exact h2 _ (List.getElem_mem _)
  rw[if_pos (decide_eq_true hc),if_pos hin,if_pos (decide_eq_true hle)]
  exact⟨_,_,rfl,hC _,by rw[Ao (by omega) (by omega)];exact hb⟩
 ·have hle: ¬at'+1<=(code.length:Int):=by omega
  rw[if_neg (by simpa using hc),if_neg (by simpa using hle),if_pos (by decide)]
  exact⟨_,_,rfl,hC _,LP _⟩
theorem Gy {k:Nat} {c:F4} (h:Cur k c) (hk:k<=100000000) (n:Int) (hn:n<=1000000): ∃c' x,Ag c n=some (c',x)/\Cur (k+2) c'/\0<=x/\(1<=n->x<n)/\(n<=1->x=0):=by
 have mono: ∀ {c:F4} {i j:Nat},i<=j->Cur i c->Cur j c:=λhij ⟨a,b,d,e⟩=>⟨a,b,d,by omega⟩
 unfold Ag
 by_cases h1:n<=1
 ·rw[if_pos (decide_eq_true h1)]
  exact⟨_,_,rfl,mono (by omega) h,by omega,λ_=>by omega,λ_=>rfl⟩
 ·rw[if_neg (by simpa using h1)]
  obtain⟨c1,x1,e1,g1,a1,b1⟩:=Jo h (by omega)
  have e1:Cr (c.1,(c.2.1,c.2.2))=_:=e1
  simp only[e1,Option.bind_some]
  by_cases h2:n>200
  ·obtain⟨c2,x2,e2,g2,a2,b2⟩:=Jo g1 (by omega)
   have e2:Cr (c1.1,(c1.2.1,c1.2.2))=_:=e2
   rw[if_pos (decide_eq_true h2)]
   simp only[e2,Option.bind_some]
   rw[if_pos (by omega)]
   have w1:w64 (x1*256)=x1*256:=Ao (by omega) (by omega)
   have w2:w64 (x1*256+x2)=x1*256+x2:=Ao (by omega) (by omega)
   refine⟨_,_,rfl,g2,?_,λ_=>?_,λh=>absurd h h1⟩
   ·rw[w1,w2,Int.tmod_eq_emod_of_nonneg (by omega)];exact Int.emod_nonneg _ (by omega)
   ·rw[w1,w2,Int.tmod_eq_emod_of_nonneg (by omega)];exact Int.emod_lt_of_pos _ (by omega)
  ·rw[if_neg (by simpa using h2),if_pos (by omega)]
   refine⟨_,_,rfl,mono (by omega) g1,?_,λ_=>?_,λh=>absurd h h1⟩
   ·rw[Int.tmod_eq_emod_of_nonneg a1];exact Int.emod_nonneg _ (by omega)
   ·rw[Int.tmod_eq_emod_of_nonneg a1];exact Int.emod_lt_of_pos _ (by omega)
theorem Gq {k:Nat} {c:F4} (h:Cur k c) (hk:k<=100000000) {l:List Int} (h0:0<l.length) (hl:l.length<=1000): ∃c' x,Af c l=some (c',x)/\Cur (k+2) c'/\x∈l:=by
 obtain⟨c1,x1,e1,g1,a1,b1,_⟩:=Gy h hk (l.length:Int) (by omega)
 have b1:=b1 (by omega)
 unfold Af
 have e1:Ag (c.1,(c.2.1,c.2.2)) (l.length:Int)=_:=e1
 simp only[e1,Option.bind_some]
 have hin:inb x1 l:=⟨a1,b1⟩
 rw[if_pos hin]
 refine⟨_,_,rfl,g1,?_⟩
 have:gd l x1 0=l.getD x1.toNat 0:=rfl
 rw[this]
 exact AF (by omega)
theorem L6 {k:Nat} {c:F4} (h:Cur k c) (hk:k<=100000000) (n:Int) (hn:n<=1000000): ∃c' x,Ck c n=some (c',x)/\Cur (k+2) c':=by
 obtain⟨c1,x1,e1,g1,_⟩:=Gy h hk n hn
 unfold Ck
 have e1:Ag (c.1,(c.2.1,c.2.2)) n=_:=e1
 simp only[e1,Option.bind_some]
 exact⟨_,_,rfl,g1⟩
theorem Cur.mono {c:F4} {i j:Nat} (hij:i<=j):Cur i c->Cur j c:=λ⟨a,b,d,e⟩=>⟨a,b,d,by omega⟩
end T
open Go Go.Va
namespace T
def KS (a:Lin):List Int×Bool:=if Dr a then(if C2 a.2.1.toNat (Ad a.1 a.2.2 a.2.1.toNat)then([],false)else(Gk a.2.1.toNat (Ad a.1 a.2.2 a.2.1.toNat),true))else([],false)
section
variable {a:Lin}
theorem IW (hg:Dr a=true):pr4 a.1/\(a.2.1.toNat:Int)=a.2.1/\a.2.1.toNat<=8/\a.2.2.length<=8/\ ∀r∈a.2.2,Aj a.1 (a.2.1.toNat+1) r:=by
 obtain⟨hp,V,hv,hV,hN,hr⟩:=Ht hg
 have e:a.2.1.toNat=V:=by rw[hv];rfl
 rw[e]
 exact⟨hp,hv.symm,hV,hN,hr⟩
end
theorem IG {x y:List Int} (h:x.length<=1048576):EO x y=some (decide (x=y)):=by
 unfold EO
 by_cases hl:x.length=y.length
 ·rw[if_neg (by simp[hl])]
  rw[eqX x y hl (λn i=>Dt n (x,y,i)) (λn k h1 h2=>?_) (λn=>?_) (n:=Aa) (by unfold Aa;omega)]
  ·by_cases e:x=y<;>simp[e]
  ·simp only[Dt,Ae,Ak h1,Ak h2,Ac (show k<4611686018427387904 by omega)]
   by_cases e:x[k]=y[k]<;>simp[h1,h2,e]
  ·simp[Dt]
 ·have:x≠y:=λe=>hl (by rw[e])
  rw[if_pos (by simp;omega)];simp[this]
end T
set_option linter.unusedVariables false
open Go Go.Va
namespace T
def D5 (list:List (List Int)) (t:List Int):Option ((List (List Int))):=
 (Cd list t).bind λr1=>
 if r1.2 then
 some list
 else
 if(0:Int)<=0/\0<=r1.1/\r1.1<=(list.length:Int)then
 if([]:List (List Int)).length+((list.take (Int.toNat r1.1)).drop (Int.toNat 0)).length<=lim then
 if([]++((list.take (Int.toNat r1.1)).drop (Int.toNat 0))).length+ [t].length<=lim then
 if(0:Int)<=r1.1/\r1.1<=(list.length:Int)/\(list.length:Int)<=(list.length:Int)then
 if(([]++((list.take (Int.toNat r1.1)).drop (Int.toNat 0)))++ [t]).length+((list.take (Int.toNat (list.length:Int))).drop (Int.toNat r1.1)).length<=lim then
 some ((([]++((list.take (Int.toNat r1.1)).drop (Int.toNat 0)))++ [t])++((list.take (Int.toNat (list.length:Int))).drop (Int.toNat r1.1)))
 else none
 else none
 else none
 else none
 else none
end T
open Go Go.Va
namespace T
def Zn (cmp:List Int->List Int->Int) (rows:List (List Int)):List (List Int):=rows.mergeSort (λx y=>!decide (cmp y x<0))
def cmpT (s t:List Int):Int:=if s.length<t.length then-1 else if t.length<s.length then 1 else cmpL s t
theorem cmpT_refl (s:List Int):cmpT s s=0:=by unfold cmpT;rw[if_neg (by omega),if_neg (by omega),cmpL_refl]
theorem cmpT_symm (s t:List Int):cmpT t s= -cmpT s t:=by
 unfold cmpT
 by_cases h1:s.length<t.length
 ·rw[if_neg (by omega),if_pos h1,if_pos h1];rfl
 ·by_cases h2:t.length<s.length
  ·rw[if_pos h2,if_neg h1,if_pos h2]
  ·rw[if_neg h2,if_neg h1,if_neg h1,if_neg h2,cmpL_symm]
theorem cmpT_eq {s t:List Int} (h:cmpT s t=0):s=t:=by
 unfold cmpT at h
 by_cases h1:s.length<t.length
 ·rw[if_pos h1]at h;exact absurd h (by decide)
 ·rw[if_neg h1]at h
  by_cases h2:t.length<s.length
  ·rw[if_pos h2]at h;exact absurd h (by decide)
  ·rw[if_neg h2]at h;exact cmpL_eq.1 h
theorem cmpT_trans {s t u:List Int} (h1:cmpT s t<0) (h2:cmpT t u<0):cmpT s u<0:=by
 unfold cmpT at*
 by_cases a1:s.length<u.length
 ·rw[if_pos a1];decide
 ·rw[if_neg a1]
  by_cases b1:s.length<t.length
  ·have b2:u.length<t.length:=by omega
   rw[if_neg (by omega),if_pos b2]at h2;exact absurd h2 (by decide)
  ·rw[if_neg b1]at h1
   by_cases b3:t.length<s.length
   ·rw[if_pos b3]at h1;exact absurd h1 (by decide)
   ·rw[if_neg b3]at h1
    by_cases c1:t.length<u.length
    ·omega
    ·rw[if_neg c1]at h2
     by_cases c2:u.length<t.length
     ·rw[if_pos c2]at h2;exact absurd h2 (by decide)
     ·rw[if_neg c2]at h2
      rw[if_neg (by omega)]
      exact cmpL_trans h1 h2
end T
open Go Go.Va
namespace T
theorem EG {l:List (List Int)}:Dl l=true↔l.Pairwise (λa b=>cmpL a b<0):=by
 constructor
 ·intro h
  rw[List.pairwise_iff_getElem]
  exact λi j hi hj hij=>EY h i j hij hj
 ·intro h
  rw[Ho]
  rw[List.pairwise_iff_getElem]at h
  exact λi hi=>h i (i+1) (by omega) hi (by omega)
theorem Ga {list:List (List Int)} {t:List Int} {k:Nat} (hl:list.length<=1000000) (hk:k<=1000000) (hv: ∀u∈list,u.length=k) (ht:t.length=k) (hi:Dl list=true):
  ∃out,D5 list t=some out/\Dl out=true/\(∀u,u∈out↔u=t∨u∈list)/\(t∉list->out.Perm (t::list)):=by
 obtain⟨c,e,k1,k2,k3⟩:=EU (by omega) (by omega) hv ht hi
 unfold D5
 rw[e]
 simp only[Option.bind_some]
 by_cases hm:t∈list
 ·rw[decide_eq_true hm,if_pos rfl]
  exact⟨list,rfl,hi,λu=>⟨Or.inr,λh=>h.elim (λh=>h▸hm) id⟩,λh=>absurd hm h⟩
 ·rw[decide_eq_false hm,if_neg (by simp)]
  have e1:(list.take (Int.toNat (c:Int))).drop (Int.toNat 0)=list.take c:=by simp
  have e2:(list.take (Int.toNat (list.length:Int))).drop (Int.toNat (c:Int))=list.drop c:=by simp
  have hlim:lim=1099511627776:=rfl
  have t1:(list.take c).length=c:=by rw[List.length_take];omega
  rw[e1,e2,if_pos (by omega),if_pos (by simp;omega),if_pos (by simp;omega),if_pos (by omega),if_pos (by simp;omega)]
  refine⟨_,rfl,?_,λu=>?_,λ_=>?_⟩
  ·rw[EG]at hi⊢
   simp only[List.nil_append]
   have hsp:list=list.take c++list.drop c:=(List.take_append_drop c list).symm
   rw[hsp,List.pairwise_append]at hi
   have h4: ∀u∈list.take c,cmpL u t<0:=λu hu=>by
    obtain⟨i,hi',rfl⟩:=List.mem_iff_getElem.1 hu
    rw[List.getElem_take]
    exact k2 i _ (by omega)
   have h5: ∀u∈list.drop c,cmpL t u<0:=λu hu=>by
    obtain⟨i,hi',rfl⟩:=List.mem_iff_getElem.1 hu
    rw[List.length_drop]at hi'
    rw[List.getElem_drop]
    have h6:=k3 (c+i) (by omega) (by omega)
    have h7:=cmpL_symm (list[c+i]'(by omega)) t
    have h8:cmpL (list[c+i]'(by omega)) t≠0:=λh=>hm (by rw[←cmpL_eq.1 h];exact List.getElem_mem _)
    omega
   rw[List.pairwise_append,List.pairwise_append]
   refine⟨⟨hi.1,List.pairwise_singleton _ _,λa ha b hb=>by rw[List.mem_singleton.1 hb];exact h4 a ha⟩,hi.2.1,λa ha b hb=>?_⟩
   rcases List.mem_append.1 ha with ha|ha
   ·exact hi.2.2 a ha b hb
   ·rw[List.mem_singleton.1 ha];exact h5 b hb
  ·have hsp:u∈list↔u∈list.take c∨u∈list.drop c:=by rw[←List.mem_append,List.take_append_drop]
   simp only[List.nil_append,List.mem_append,List.mem_singleton,hsp]
   constructor
   ·rintro ((h|h)|h)
    ·exact Or.inr (Or.inl h)
    ·exact Or.inl h
    ·exact Or.inr (Or.inr h)
   ·rintro (h|h|h)
    ·exact Or.inl (Or.inr h)
    ·exact Or.inl (Or.inl h)
    ·exact Or.inr h
  ·simp only[List.nil_append]
   refine(List.Perm.append_right _ (List.perm_append_comm)).trans ?_
   rw[List.append_assoc,List.take_append_drop]
   exact List.Perm.refl _
theorem JC {x y:List Int} (h1: ¬cmpL y x<0) (h2: ¬cmpL x y<0):x=y:=by
 have:=cmpL_symm x y
 exact cmpL_eq.1 (by omega)
theorem Fk {out l:List (List Int)} (hi:Dl out=true) (hp:out.Perm l):Zn cmpL l=out:=by
 have hs:(Zn cmpL l).Pairwise λx y=>(!decide (cmpL y x<0))=true:=by
  unfold Zn
  refine List.pairwise_mergeSort (λa b c h1 h2=>?_) (λa b=>?_) l
  ·simp only[Bool.not_eq_true',decide_eq_false_iff_not]at*
   intro h3
   have q1:=cmpL_symm a b
   have q2:=cmpL_symm b c
   by_cases e:cmpL a b=0
   ·rw[cmpL_eq.1 e]at h3;exact h2 h3
   ·exact h2 (cmpL_trans h3 (by omega))
  ·simp only[Bool.or_eq_true,Bool.not_eq_true',decide_eq_false_iff_not]
   have q1:=cmpL_symm a b
   omega
 have ho:out.Pairwise λx y=>(!decide (cmpL y x<0))=true:=by
  refine(EG.1 hi).imp ?_
  intro a b h
  simp only[Bool.not_eq_true',decide_eq_false_iff_not]
  have q1:=cmpL_symm a b
  omega
 have hpp:(Zn cmpL l).Perm out:=(List.mergeSort_perm l _).trans hp.symm
 refine List.Perm.eq_of_pairwise (λa b _ _ h1 h2=>?_) hs ho hpp
 simp only[Bool.not_eq_true',decide_eq_false_iff_not]at h1 h2
 exact JC h1 h2
end T
set_option linter.unusedVariables false
open Go Go.Va
namespace T
def AO:Nat->((Int×Int×(List (List Int)))×(List (List Int))×Int×(List Int)×Bool×(List (List Int))×Int×(List Int)×(List Int)×Int)->Option ((Int×Int×(List (List Int)))×(List (List Int))×Int×(List Int)×Bool×(List (List Int))×Int×(List Int))
 |0,_=>none
 |n+1,(t1,t4,t5,t7,t8,t9,t10,t11,t12,t13)=>
 if decide (t13<(t9.length:Int))then
 if inb t13 t9 then
 if inb t13 t12 then
 (Bk t1.1 t11 (gd t9 t13 []) (w64 (t1.1-(gd t12 t13 0)))).bind λr7=>
 AO n ((t1.1,(t1.2.1,t1.2.2)),t4,t5,t7,t8,t9,t10,r7,t12,w64 (t13+1))
 else none
 else none
 else
 some ((t1.1,(t1.2.1,t1.2.2)),t4,t5,t7,t8,t9,t10,t11)
def Av:Nat->((Int×Int×(List (List Int)))×(List (List Int))×Int×(List Int)×Bool×(List (List Int))×Int)->Option ((List (List Int)))
 |0,_=>none
 |n+1,(t1,t4,t5,t7,t8,t9,t10)=>
 if decide (t10<t5)then
 if t8 then
 (De t7).bind λr5=>
 (FQ t1.1 (t9.length:Int) t10).bind λr6=>
 (AO Aa ((t1.1,(t1.2.1,t1.2.2)),t4,t5,t7,t8,t9,t10,r5,r6,0)).bind λs7=>
 (D5 s7.2.1 s7.2.2.2.2.2.2.2).bind λr8=>
 Av n ((s7.1.1,(s7.1.2.1,s7.1.2.2)),r8,s7.2.2.1,s7.2.2.2.1,s7.2.2.2.2.1,s7.2.2.2.2.2.1,w64 (s7.2.2.2.2.2.2.1+1))
 else
 some t4
 else
 some t4
def Eh (t0:Int×Int×(List (List Int))):Option ((List (List Int))×Bool):=
 (CM (t0.1,(t0.2.1,t0.2.2))).bind λr1=>
 if !r1.2 then
 some ([],false)
 else
 if decide (r1.1>600)then
 some ([],false)
 else
 (E7 t0.1 t0.2.1 t0.2.2).bind λr2=>
 (D2 (t0.1,(t0.2.1,t0.2.2))).bind λr3=>
 (CO (r3.1,(r3.2.1,r3.2.2)) t0.1 t0.2.1).bind λr4=>
 (Av Aa ((t0.1,(t0.2.1,t0.2.2)),[],r1.1,r2.1,r2.2,r4,0)).bind λs5=>
 some (s5,true)
def An (a0:List (List Int)) (a1:Unit):Option (List (List Int)):=
 if List.length a0<=lim/\List.all a0 (λx=>decide (List.length x<=lim))=true then some (Zn cmpL a0)else none
def AT:Nat->((Int×Int×(List (List Int)))×Int×(Bool×Int×Int×(List (List Int))×Int×(List Int))×Int×(List (List Int))×Int)->Option ((List (List Int)))
 |0,_=>none
 |n+1,(l,many,e,free,list,i)=>
 if decide (i<many)then
 (FN i free l.1).bind λr4=>
 (Cj e r4).bind λr5=>
 if list.length+ [r5].length<=lim then
 AT n ((l.1,(l.2.1,l.2.2)),many,e,free,list++ [r5],w64 (i+1))
 else none
 else
 some list
def Al (l:Int×Int×(List (List Int))):Option ((List (List Int))×Bool):=
 (BM (l.1,(l.2.1,l.2.2))).bind λr1=>
 if !r1.2 then
 some ([],false)
 else
 if decide (r1.1>600)then
 some ([],false)
 else
 (Bb (l.1,(l.2.1,l.2.2))).bind λr2=>
 (AG r2).bind λr3=>
 (AT Aa ((l.1,(l.2.1,l.2.2)),r1.1,r2,(r3.length:Int),[],0)).bind λs4=>
 (An s4 ()).bind λr5=>
 some (r5,true)
end T
open Go Go.Va
namespace T
section
variable {p:Int} {W N V:Nat}
def coG (p:Int) (s:ES) (u:Nat) (f:Int):Int:=if B6 s.2.1 u<0 then(if f=(u:Int)then 1 else 0)else p-(s.1.getD (B6 s.2.1 u).toNat []).getD f.toNat 0
def Dx (p:Int) (V:Nat) (s:ES) (F x:List Int) (u:Nat):Nat->Int
 |0=>FI V s u
 |k+1=>Dx p V s F x u k+coG p s u (F.getD k 0)*x.getD k 0
def FA (p:Int) (V:Nat) (s:ES) (F x:List Int) (k:Nat):List Int:=(List.range V).map λu=>Dx p V s F x u k%p
structure GenOk (p:Int) (W N V:Nat) (s:ES) (F x:List Int):Prop where
 hp:pr4 p
 hs:ESok p W N V s
 hV:V<W
 hW:W<=1000
 hN:N<=100000
 hF:F=Ap V s.2.1
 hx:x.length=F.length
 xb: ∀v∈x,0<=v/\v<p
variable {s:ES} {F x:List Int}
theorem GenOk.fl (g:GenOk p W N V s F x):F.length<=V:=by rw[g.hF];exact Cu
theorem GenOk.fm (g:GenOk p W N V s F x) (k:Nat) (hk:k<F.length): ∃u:Nat,u<V/\F[k]=(u:Int)/\(u:Int)∉s.2.1:=by
 have h:F[k]∈Ap V s.2.1:=by rw[←g.hF];exact List.getElem_mem hk
 unfold Ap at h
 obtain⟨u,hu,e⟩:=List.mem_map.1 h
 rw[List.mem_filter]at hu
 exact⟨u,List.mem_range.1 hu.1,e.symm,by simpa using hu.2⟩
theorem GenOk.xv (g:GenOk p W N V s F x) (k:Nat) (hk:k<F.length):0<=x.getD k 0/\x.getD k 0<p:=by
 have:k<x.length:=by rw[g.hx];exact hk
 rw[Ab this];exact g.xb _ (List.getElem_mem this)
theorem GenOk.pb (g:GenOk p W N V s F x):2<=p/\p<=7:=by have:=g.hp;unfold pr4 at this;omega
theorem GenOk.row (g:GenOk p W N V s F x) {u:Nat} (hu: ¬B6 s.2.1 u<0):(B6 s.2.1 u).toNat<s.1.length/\Aj p W (s.1.getD (B6 s.2.1 u).toNat []):=by
 have hm:(u:Int)∈s.2.1:=by
  rcases Decidable.em ((u:Int)∈s.2.1)with h|h
  ·exact h
  ·exact absurd (Ca.2 h) hu
 obtain⟨i,hi,g1,_⟩:=DA hm
 rw[g1,Int.toNat_natCast]
 have:=g.hs.bl
 exact⟨by omega,by rw[Ab (by omega)];exact g.hs.t _ (List.getElem_mem _)⟩
theorem GenOk.base (g:GenOk p W N V s F x) (u:Nat):0<=FI V s u/\FI V s u<p:=by
 have:=g.pb
 unfold FI
 split
 ·omega
 ·rename_i h
  exact BB (g.row h).2 g.hV
theorem GenOk.co (g:GenOk p W N V s F x) (u:Nat) {k:Nat} (hk:k<F.length):0<=coG p s u (F.getD k 0)/\coG p s u (F.getD k 0)<=7:=by
 have:=g.pb
 unfold coG
 split
 ·split<;>omega
 ·rename_i h
  obtain⟨f,hf,e,_⟩:=g.fm k hk
  rw[Ab hk,e,Int.toNat_natCast]
  have:=BB (g.row h).2 (show f<W by have:=g.hV;omega)
  omega
theorem GenOk.bound (g:GenOk p W N V s F x) (u:Nat): ∀k,k<=F.length->0<=Dx p V s F x u k/\Dx p V s F x u k<=7+49*k
 |0,_=>by have:=g.base u;have:=g.pb;simp only[Dx];omega
 |k+1,hk=>by
  have ih:=g.bound u k (by omega)
  have h1:=g.co u (k:=k) (by omega)
  have h2:=g.xv k (by omega)
  have:=g.pb
  have h3:0<=coG p s u (F.getD k 0)*x.getD k 0:=Int.mul_nonneg h1.1 h2.1
  have h4:coG p s u (F.getD k 0)*x.getD k 0<=7*7:=Int.mul_le_mul h1.2 (by omega) h2.1 (by omega)
  simp only[Dx]
  omega
theorem GenOk.free (g:GenOk p W N V s F x) {u j:Nat} (hj:j<F.length) (hu:F[j]=(u:Int)): ∀k,k<=F.length->Dx p V s F x u k=if j<k then x.getD j 0 else 0
 |0,_=>by
  obtain⟨u',_,e,hn⟩:=g.fm j hj
  have:u'=u:=by omega
  subst this
  simp only[Dx,FI]
  rw[if_pos (Ca.2 hn)];simp
 |k+1,hk=>by
  have ih:=g.free hj hu k (by omega)
  obtain⟨u',_,e,hn⟩:=g.fm j hj
  have:u'=u:=by omega
  subst this
  have hnd:F.Nodup:=by
   rw[g.hF];unfold Ap
   refine List.Pairwise.map _ ?_ (List.nodup_range.filter _)
   intro a b hab h;exact hab (by omega)
  simp only[Dx,ih,coG]
  rw[if_pos (Ca.2 hn),Ab (show k<F.length by omega)]
  by_cases hkj:k=j
  ·subst hkj
   rw[if_pos hu,if_neg (by omega),if_pos (by omega)];omega
  ·have:F[k]≠(u':Int):=λh=>hkj ((List.getElem_inj hnd).1 (h.trans hu.symm))
   rw[if_neg this]
   by_cases c:j<k
   ·rw[if_pos c,if_pos (by omega)];omega
   ·rw[if_neg c,if_neg (by omega)];omega
theorem Ha {k:Nat}:(FA p V s F x k).length=V:=by simp[FA]
theorem GJ {k u:Nat} (hu:u<V):(FA p V s F x k).getD u 0=Dx p V s F x u k%p:=by rw[Ab (by rw[Ha];exact hu)];simp[FA]
end
end T
open Go Go.Va
namespace T
section
variable {p:Int} {W N V:Nat} {s:ES} {F x:List Int}
theorem HD (hp:pr4 p) (hV:V<=1000) {r o:List Int} (hr:Aj p V r) (ho:Aj p V o) {c:Int} (hc:0<=c/\c<=p):Bk p r o c=some ((List.range V).map λi=>Int.tmod (r.getD i 0+(p-c)*o.getD i 0) p):=by
 unfold Bk
 have hlr:=hr.1
 have hlo:=ho.1
 have hp0:p≠0:=by unfold pr4 at hp;omega
 have hpb:2<=p/\p<=7:=by unfold pr4 at hp;omega
 have:=BL r.length (λf q i=>AE f (p,r,o,c,q,i)) (λj=>(List.range j).map λi=>Int.tmod (r.getD i 0+(p-c)*o.getD i 0) p) (r:=some ((List.range V).map λi=>Int.tmod (r.getD i 0+(p-c)*o.getD i 0) p)) (λf j hj=>?_) (λf=>?_) (n:=Aa) (by unfold Aa;omega)
 ·have this:AE Aa (p,r,o,c,[],0)=_:=this
  rw[this];rfl
 ·have e:(List.range (j+1)).map (λi=>Int.tmod (r.getD i 0+(p-c)*o.getD i 0) p)=(List.range j).map (λi=>Int.tmod (r.getD i 0+(p-c)*o.getD i 0) p)++ [Int.tmod (r.getD j 0+(p-c)*o.getD j 0) p]:=by rw[List.range_succ,List.map_append];rfl
  have hjo:j<o.length:=by omega
  have h1:=BB hr (i:=j) (by omega)
  have h2:=BB ho (i:=j) (by omega)
  have h3:0<=(p-c)*o.getD j 0:=Int.mul_nonneg (by omega) h2.1
  have h4:(p-c)*o.getD j 0<=7*7:=Int.mul_le_mul (by omega) (by omega) h2.1 (by omega)
  simp only[AE,Ae,hj,hjo,Co,AC (x:=p-c) (by omega) (by omega),AC (x:=(p-c)*o.getD j 0) (by omega) (by omega),AC (x:=r.getD j 0+(p-c)*o.getD j 0) (by omega) (by omega),e,if_true,Ac (show j<4611686018427387904 by omega)]
  rw[if_pos (by simp;omega),if_pos hp0,if_pos (by simp;unfold lim;omega)]
 ·simp only[AE]
  rw[if_neg (by simp),hlr]
theorem K2 (hp:2<=p) (k:Nat):Aj p V (FA p V s F x k):=by
 refine⟨Ha,λv hv=>?_⟩
 unfold FA at hv
 obtain⟨u,_,rfl⟩:=List.mem_map.1 hv
 exact⟨Int.emod_nonneg _ (by omega),Int.emod_lt_of_pos _ (by omega)⟩
theorem GenOk.ker (g:GenOk p W N V s F x) {k f u:Nat} (hk:k<F.length) (hf:F[k]=(f:Int)):CL p s f u=coG p s u (F.getD k 0)%p:=by
 have:=g.pb
 rw[Ab hk,hf]
 unfold CL coG
 split
 ·by_cases h:u=f
  ·rw[if_pos h,if_pos (by omega),Int.emod_eq_of_lt (by omega) (by omega)]
  ·rw[if_neg h,if_neg (by omega)];rfl
 ·rename_i h
  rw[Int.toNat_natCast]
  obtain⟨f',hf',e,_⟩:=g.fm k hk
  have h3:=BB (g.row h).2 (show f<W by have:=g.hV;omega)
  rw[Int.tmod_eq_emod_of_nonneg (by omega)]
theorem GenOk.step (g:GenOk p W N V s F x) {k f:Nat} (hk:k<F.length) (hf:F[k]=(f:Int)):Bk p (FA p V s F x k) (Ds p V s f) (p-x.getD k 0)=some (FA p V s F x (k+1)):=by
 have hb:=g.pb
 have hx:=g.xv k hk
 have hko:Aj p V (Ds p V s f):=by
  refine⟨by simp[Ds],λv hv=>?_⟩
  unfold Ds at hv
  obtain⟨u,_,rfl⟩:=List.mem_map.1 hv
  rw[g.ker hk hf]
  exact⟨Int.emod_nonneg _ (by omega),Int.emod_lt_of_pos _ (by omega)⟩
 rw[HD g.hp (by have:=g.hV;have:=g.hW;omega) (K2 hb.1 k) hko (by omega)]
 congr 1
 unfold FA
 refine List.map_congr_left λu hu=>?_
 have hu:=List.mem_range.1 hu
 have e1:(Ds p V s f).getD u 0=CL p s f u:=by rw[Ab (by simp[Ds];exact hu)];simp[Ds]
 have e2:=GJ (p:=p) (s:=s) (F:=F) (x:=x) (k:=k) hu
 unfold FA at e2
 rw[e2,e1,g.ker hk hf,show p-(p-x.getD k 0)=x.getD k 0 by omega]
 have h1:=g.bound u k (by omega)
 have h2:=g.co u hk
 have h3:0<=Dx p V s F x u k%p:=Int.emod_nonneg _ (by omega)
 have h4:0<=coG p s u (F.getD k 0)%p:=Int.emod_nonneg _ (by omega)
 have h5:0<=x.getD k 0*(coG p s u (F.getD k 0)%p):=Int.mul_nonneg hx.1 h4
 rw[Int.tmod_eq_emod_of_nonneg (by omega)]
 simp only[Dx]
 rw[Int.emod_add_emod,Int.add_emod,Int.mul_emod,Int.emod_emod,←Int.mul_emod,←Int.add_emod,Int.mul_comm]
theorem GenOk.zero (g:GenOk p W N V s F x):FA p V s F x 0=Gk V s:=by
 unfold FA Gk
 refine List.map_congr_left λu _=>?_
 have:=g.base u
 simp only[Dx]
 exact Int.emod_eq_of_lt this.1 this.2
theorem GenOk.L12 (g:GenOk p W N V s F x) (l:Int×Int×(List (List Int))) (hl:l.1=p) (out:List (List Int)) (n:Int) (first:List Int) (some_:Bool) (at_:Int):
  AO Aa (l,out,n,first,some_,Bu p V s,at_,Gk V s,x,0)=some (l,out,n,first,some_,Bu p V s,at_,FA p V s F x F.length):=by
 have hb:=g.pb
 have hlen:(Bu p V s).length=F.length:=by unfold Bu;rw[List.length_map,g.hF]
 have hFV:=g.fl
 have:=BL F.length (λm o i=>AO m (l,out,n,first,some_,Bu p V s,at_,o,x,i)) (λk=>FA p V s F x k) (r:=some (l,out,n,first,some_,Bu p V s,at_,FA p V s F x F.length)) (λm k hk=>?_) (λm=>?_) (n:=Aa) (by have:=g.hV;have:=g.hW;unfold Aa;omega)
 ·rw[g.zero]at this;exact this
 ·obtain⟨f,hf,e,_⟩:=g.fm k hk
  have hkl:k<(Bu p V s).length:=by rw[hlen];exact hk
  have hkx:k<x.length:=by rw[g.hx];exact hk
  have hx:=g.xv k hk
  have hkr:(Bu p V s).getD k []=Ds p V s f:=by
   unfold Bu;rw[←g.hF,Ab (by simpa using hk),List.getElem_map,e,Int.toNat_natCast]
  have hst:=g.step hk e
  simp only[AO,Ae,hkl,hkx,Co,hkr,hl,AC (x:=p-x.getD k 0) (by omega) (by omega),hst,Option.bind_some,if_true,Ac (show k<4611686018427387904 by have:=g.hV;have:=g.hW;omega)]
  rw[if_pos (by simp[hlen];omega),←hl]
 ·simp only[AO]
  rw[if_neg (by simp[hlen])]
end
end T
open Go Go.Va
namespace T
section
variable {p:Int} {W N V:Nat} {s:ES} {F x:List Int}
def FH (p:Int) (V:Nat) (s:ES) (F x:List Int) (k:Nat) (u:Nat):Int:=if B6 s.2.1 u<0 then Dx p V s F x u k else 0
theorem GenOk.fre (g:GenOk p W N V s F x) {k f:Nat} (hk:k<F.length) (hf:F[k]=(f:Int)):((List.range V).map (FH p V s F x k)).set f (x.getD k 0)=(List.range V).map (FH p V s F x (k+1)):=by
 obtain⟨f',hf',e,hn⟩:=g.fm k hk
 have:f'=f:=by omega
 subst this
 apply List.ext_getElem
 ·simp
 ·intro u h1 h2
  simp at h2
  rw[List.getElem_set]
  simp only[List.getElem_map,List.getElem_range]
  by_cases c:f'=u
  ·subst c
   rw[if_pos rfl]
   unfold FH
   rw[if_pos (Ca.2 hn),g.free hk hf (k+1) (by omega),if_pos (by omega)]
  ·rw[if_neg c]
   unfold FH
   split
   ·rename_i hq
    simp only[Dx,coG]
    rw[if_pos hq,Ab hk,hf,if_neg (by omega)];omega
   ·rfl
theorem GenOk.sol (g:GenOk p W N V s F x):Cj (DP p V s) x=some (FA p V s F x F.length):=by
 have hp0:p≠0:=by have:=g.pb;omega
 have hpb:=g.pb
 have hV:=g.hV
 have hN:=g.hN
 have hW:=g.hW
 have hFl:=g.fl
 have hsb:=g.hs.bl
 have hsn:=g.hs.n
 generalize hE:DP p V s=E
 have h1:E.1=true:=by rw[←hE];rfl
 have h2:E.2.1=p:=by rw[←hE];rfl
 have h3:E.2.2.1=(V:Int):=by rw[←hE];rfl
 have h4:E.2.2.2.1=s.1++s.2.2:=by rw[←hE];rfl
 have h5:E.2.2.2.2.2=BK V s.2.1:=by rw[←hE];rfl
 have hfr:AG E=some F:=by rw[←hE,g.hF];exact EW (by omega)
 have l4:=BL F.length (λf (o:List Int) i=>AI f ((),E,x,o,F,(F.length:Int),i)) (λk=>(List.range V).map (FH p V s F x k)) (r:=some (E,x,(List.range V).map (FH p V s F x F.length),F)) (λf k hk=>by
  obtain⟨u,hu,e,_⟩:=g.fm k hk
  have hkx:k<x.length:=by rw[g.hx];exact hk
  have hu2:u<((List.range V).map (FH p V s F x k)).length:=by simpa using hu
  simp only[AI,Ae,hk,Ak hk,e,hkx,hu2,Co,BA,g.fre hk e,if_true,Ac (show k<4611686018427387904 by omega)]
  rw[if_pos (by simp;omega)]) (λf=>by
  simp only[AI]
  rw[if_neg (by simp)]) (n:=Aa) (by unfold Aa;omega)
 have e0:(List.range V).map (FH p V s F x 0)=List.replicate V (0:Int):=by
  apply List.ext_getElem
  ·simp
  ·intro u _ _
   simp only[List.getElem_map,List.getElem_range,List.getElem_replicate,FH,Dx,FI]
   split<;>rfl
 rw[e0]at l4
 have l14: ∀(out:List Int) (v:Nat),¬B6 s.2.1 v<0-> ∀i:Nat,B6 s.2.1 v=(i:Int)->AB Aa ((),E,x,out,F,(v:Int),(i:Int),FI V s v,BK V s.2.1,(V:Int),(v:Int),(F.length:Int),0)=some (E,x,out,F,(v:Int),Dx p V s F x v F.length,BK V s.2.1,(V:Int),(v:Int)):=by
  intro out v hq i hi
  have hrow:=g.row hq
  rw[hi,Int.toNat_natCast]at hrow
  refine BL F.length (λf (y:Int) j=>AB f ((),E,x,out,F,(v:Int),(i:Int),y,BK V s.2.1,(V:Int),(v:Int),(F.length:Int),j)) (λk=>Dx p V s F x v k) (r:=some (E,x,out,F,(v:Int),Dx p V s F x v F.length,BK V s.2.1,(V:Int),(v:Int))) (λf k hk=>?_) (λf=>?_) (n:=Aa) (by unfold Aa;omega)
  ·obtain⟨u,hu,e,_⟩:=g.fm k hk
   have hkx:k<x.length:=by rw[g.hx];exact hk
   have hil:i<(s.1++s.2.2).length:=by rw[List.length_append];omega
   have hr1:=hrow.1
   have hg:(s.1++s.2.2).getD i []=s.1.getD i []:=by rw[Ab hil,List.getElem_append_left hr1,Ab hr1]
   have hul:u<(s.1.getD i []).length:=by rw[hrow.2.1];omega
   have hro:=BB hrow.2 (show u<W by omega)
   have hc:coG p s v (F.getD k 0)=p-(s.1.getD i []).getD u 0:=by unfold coG;rw[if_neg hq,hi,Int.toNat_natCast,Ab hk,e,Int.toNat_natCast]
   have hb:=g.bound v (k+1) (by omega)
   have hb0:=g.bound v k (by omega)
   have hx:=g.xv k hk
   have hxg:gd x (k:Int) 0=x.getD k 0:=Co
   have h7:0<=(p-(s.1.getD i []).getD u 0)*x.getD k 0:=Int.mul_nonneg (by omega) hx.1
   simp only[Dx,hc]at hb
   simp only[AB,Ae,hk,Ak hk,e,h1,h2,h4,hil,hg,hul,hkx,Co,if_true,Ac (show k<4611686018427387904 by omega),AC (x:=p-(s.1.getD i []).getD u 0) (by omega) (by omega),AC (x:=(p-(s.1.getD i []).getD u 0)*x.getD k 0) (by omega) (by omega),AC (x:=Dx p V s F x v k+(p-(s.1.getD i []).getD u 0)*x.getD k 0) (by omega) (by omega)]
   rw[if_pos (by simp;omega)]
   simp only[Dx,hc]
  ·simp only[AB]
   rw[if_neg (by simp)]
 have l9:=BL V (λf (o:List Int) i=>Ar f (E,x,o,F,BK V s.2.1,(V:Int),i)) (λv=>mix (λu=>Dx p V s F x u F.length%p) (FH p V s F x F.length) V v) (r:=some (FA p V s F x F.length)) (λf v hv=>?_) (λf=>?_) (n:=Aa) (by unfold Aa;omega)
 ·have e1:mix (λu=>Dx p V s F x u F.length%p) (FH p V s F x F.length) V 0=(List.range V).map (FH p V s F x F.length):=by
   unfold mix;simp
  rw[e1]at l9
  have l9:Ar Aa (E,x,(List.range V).map (FH p V s F x F.length),F,BK V s.2.1,(V:Int),0)=_:=l9
  have l4:AI Aa ((),E,x,List.replicate V (0:Int),F,(F.length:Int),0)=_:=l4
  unfold Cj
  rw[if_pos h1,h3,if_pos (by unfold lim;omega),hfr]
  simp only[Option.bind_some,Int.toNat_natCast,l4]
  rw[if_pos h1,h5,C3,l9];rfl
 ·have hvl:v<(BK V s.2.1).length:=by rw[C3];exact hv
  simp only[Ar,Ae,hvl,Co,Gs hv,h1,h3,h4,if_true]
  rw[if_pos (by simp;omega)]
  by_cases hq:B6 s.2.1 v<0
  ·have hsm:Dx p V s F x v F.length%p=FH p V s F x F.length v:=by
    unfold FH
    rw[if_pos hq]
    have hm:(v:Int)∈F:=by
     rw[g.hF];unfold Ap
     exact List.mem_map.2 ⟨v,List.mem_filter.2 ⟨List.mem_range.2 hv,by simpa using Ca.1 hq⟩,rfl⟩
    obtain⟨j,hj,hjv⟩:=List.mem_iff_getElem.1 hm
    rw[g.free hj hjv F.length (Nat.le_refl _),if_pos hj]
    have:=g.xv j hj
    exact Int.emod_eq_of_lt this.1 this.2
   rw[if_pos (by rw[decide_eq_true_iff];exact hq),Hu hv hsm,Ac (show v<4611686018427387904 by omega)]
  ·obtain⟨i,hi⟩: ∃i:Nat,B6 s.2.1 v=(i:Int):=⟨(B6 s.2.1 v).toNat,by omega⟩
   have hrow:=g.row hq
   rw[hi,Int.toNat_natCast]at hrow
   have hil:i<(s.1++s.2.2).length:=by rw[List.length_append];omega
   have hr1:=hrow.1
   have hg:(s.1++s.2.2).getD i []=s.1.getD i []:=by rw[Ab hil,List.getElem_append_left hr1,Ab hr1]
   have hVl:V<(s.1.getD i []).length:=by rw[hrow.2.1];exact hV
   have hml:v<(mix (λu=>Dx p V s F x u F.length%p) (FH p V s F x F.length) V v).length:=by rw[CG];exact hv
   have hsv:FI V s v=(s.1.getD i []).getD V 0:=by unfold FI;rw[if_neg hq,hi,Int.toNat_natCast]
   have hst:=EA (nw:=λu=>Dx p V s F x u F.length%p) (old:=FH p V s F x F.length) hv
   have hl:=l14 (mix (λu=>Dx p V s F x u F.length%p) (FH p V s F x F.length) V v) v hq i hi
   rw[hsv]at hl
   have hb:=g.bound v F.length (Nat.le_refl _)
   rw[hi,if_neg (by simp)]
   simp only[Ae,hil,hg,Co,hVl,if_true,C3]
   rw[hl]
   simp only[Option.bind_some,h1,h2,Ae,hml,if_true,BA,Ac (show v<4611686018427387904 by omega)]
   rw[if_pos hp0,Int.tmod_eq_emod_of_nonneg hb.1,hst]
 ·simp only[Ar,Ee]
  rw[if_neg (by simp)];rfl
end
end T
open Go Go.Va
namespace T
section
variable {a:Lin} {p:Int} {W N V:Nat} {s:ES} {F:List Int}
theorem Kg {b:Nat} (hb:0<b): ∀ {k i j:Nat},i<b^k->j<b^k->dg b k i=dg b k j->i=j
 |0,i,j,hi,hj,_=>by simp at hi hj;omega
 |k+1,i,j,hi,hj,h=>by
  simp only[dg]at h
  have h1:=List.append_inj' h rfl
  have h2:i%b=j%b:=by simpa using h1.2
  have hi':i/b<b^k:=Nat.div_lt_of_lt_mul (by rw[Nat.mul_comm,←Nat.pow_succ];exact hi)
  have hj':j/b<b^k:=Nat.div_lt_of_lt_mul (by rw[Nat.mul_comm,←Nat.pow_succ];exact hj)
  have h3:=Kg hb hi' hj' h1.1
  have e1:=Nat.div_add_mod i b
  have e2:=Nat.div_add_mod j b
  rw[h3,h2]at e1
  omega
def DZ (p:Int) (V:Nat) (s:ES) (F:List Int) (i:Nat):List Int:=FA p V s F (cI (dg p.toNat F.length i)) F.length
theorem GN (hp:pr4 p) (hs:ESok p W N V s) (hV:V<W) (hW:W<=1000) (hN:N<=100000) (hF:F=Ap V s.2.1) (i:Nat):GenOk p W N V s F (cI (dg p.toNat F.length i)):=by
 have hpb:2<=p/\p<=7:=by unfold pr4 at hp;omega
 refine⟨hp,hs,hV,hW,hN,hF,by rw[Dq,EJ],λv hv=>?_⟩
 unfold cI at hv
 obtain⟨y,hy,rfl⟩:=List.mem_map.1 hv
 have:=Hj (b:=p.toNat) (by omega) y hy
 omega
theorem Ie (hp:pr4 p) (hs:ESok p W N V s) (hV:V<W) (hW:W<=1000) (hN:N<=100000) (hF:F=Ap V s.2.1) {i j:Nat} (hi:i<p.toNat^F.length) (hj:j<p.toNat^F.length) (h:DZ p V s F i=DZ p V s F j):i=j:=by
 have hpb:2<=p/\p<=7:=by unfold pr4 at hp;omega
 have g1:=GN hp hs hV hW hN hF i
 have g2:=GN hp hs hV hW hN hF j
 refine Kg (b:=p.toNat) (by omega) hi hj (LQ ?_)
 apply List.ext_getElem
 ·rw[Dq,Dq,EJ,EJ]
 ·intro k h1 h2
  have hk:k<F.length:=by rw[Dq,EJ]at h1;exact h1
  obtain⟨u,hu,e,_⟩:=g1.fm k hk
  have q:(DZ p V s F i).getD u 0=(DZ p V s F j).getD u 0:=by rw[h]
  unfold DZ at q
  rw[GJ hu,GJ hu,g1.free hk e F.length (Nat.le_refl _),g2.free hk e F.length (Nat.le_refl _),if_pos hk,if_pos hk]at q
  have x1:=g1.xv k hk
  have x2:=g2.xv k hk
  rw[Int.emod_eq_of_lt x1.1 x1.2,Int.emod_eq_of_lt x2.1 x2.2,Ab h1,Ab h2]at q
  exact q
theorem Jy (h:Hr a):BM a=some (if Dr a then(if C2 a.2.1.toNat (Ad a.1 a.2.2 a.2.1.toNat)then 0 else a.1^(Ap a.2.1.toNat (Ad a.1 a.2.2 a.2.1.toNat).2.1).length,true)else(0,false)):=by
 obtain⟨p,v,rows⟩:=a
 unfold BM
 rw[DX h]
 cases hg:Dr (p,v,rows)with
 |false=>rfl
 |true=>
  obtain⟨hp,V,hv,hV,hN,hr⟩:=Ht hg
  dsimp only at hp hv hN hr
  subst hv
  have hs:=AK hp hr V (by omega)
  unfold Bb
  have e1:=EE hp (show V<=V+1 by omega) (by omega) hr (by omega)
  simp only[e1,Option.bind_some,Bool.not_true,Bool.false_eq_true,if_false,if_true,Int.toNat_natCast]
  generalize Ad p rows V=s at hs
  have e4:=Iq hs (by omega) (by omega)
  have e6:=EW (p:=p) (V:=V) (s:=s) (by omega)
  have hpb:2<=p/\p<=7:=by unfold pr4 at hp;omega
  have hfl:(Ap V s.2.1).length<=V:=Cu
  simp only[e4,Option.bind_some]
  cases C2 V s with
  |true=>rfl
  |false=>
   simp only[Bool.false_eq_true,if_false,e6,Option.bind_some,D9 (show 0<=p by omega) (show p<=8 by omega) (show(Ap V s.2.1).length<=20 by omega)]
end
end T
open Go Go.Va
namespace T
section
variable {a:Lin} {p:Int} {W N V:Nat} {s:ES} {F:List Int}
theorem DH (l:List (List Int)):(Zn cmpL l).Perm l:=List.mergeSort_perm l _
theorem Gg {l:List (List Int)} (hn:l.Nodup):Dl (Zn cmpL l)=true:=by
 rw[EG]
 have hs:(Zn cmpL l).Pairwise λx y=>(!decide (cmpL y x<0))=true:=by
  unfold Zn
  refine List.pairwise_mergeSort (λa b c h1 h2=>?_) (λa b=>?_) l
  ·simp only[Bool.not_eq_true',decide_eq_false_iff_not]at*
   intro h3
   have q1:=cmpL_symm a b
   have q2:=cmpL_symm b c
   by_cases e:cmpL a b=0
   ·rw[cmpL_eq.1 e]at h3;exact h2 h3
   ·exact h2 (cmpL_trans h3 (by omega))
  ·simp only[Bool.or_eq_true,Bool.not_eq_true',decide_eq_false_iff_not]
   have q1:=cmpL_symm a b
   omega
 have hn':(Zn cmpL l).Nodup:=(DH l).nodup_iff.2 hn
 refine(hs.and hn').imp ?_
 intro x y h
 obtain⟨h1,h2⟩:=h
 simp only[Bool.not_eq_true',decide_eq_false_iff_not]at h1
 have q1:=cmpL_symm x y
 have q2:cmpL x y≠0:=λe=>h2 (cmpL_eq.1 e)
 omega
theorem Ix {l:List (List Int)} {t:List Int} {k:Nat} (hl:l.length<=1000000) (hk:k<=1000000) (hv: ∀u∈l,u.length=k) (ht:t.length=k) (hn:l.Nodup) (hm:t∉l):D5 (Zn cmpL l) t=some (Zn cmpL (l++ [t])):=by
 have hp:=DH l
 obtain⟨out,e,h1,_,h3⟩:=Ga (list:=Zn cmpL l) (t:=t) (k:=k) (by rw[hp.length_eq];exact hl) hk (λu hu=>hv u (hp.mem_iff.1 hu)) ht (Gg hn)
 rw[e]
 have h4:=h3 (λh=>hm (hp.mem_iff.1 h))
 rw[Fk h1 (h4.trans ((List.Perm.cons t hp).trans (List.perm_append_comm (l₁:= [t]))))]
theorem Jt (i:Nat):(DZ p V s F i).length=V:=Ha
theorem HK (hp:pr4 p) (hs:ESok p W N V s) (hV:V<W) (hW:W<=1000) (hN:N<=100000) (hF:F=Ap V s.2.1) (l:Lin) (hl:l.1=p) {M:Nat} (hM:M<=600):
  AT Aa (l,(M:Int),DP p V s,(F.length:Int),[],0)=some ((List.range M).map (DZ p V s F)):=by
 have hpb:2<=p/\p<=7:=by unfold pr4 at hp;omega
 have hFV:F.length<=V:=by rw[hF];exact Cu
 have:=BL M (λm o i=>AT m (l,(M:Int),DP p V s,(F.length:Int),o,i)) (λk=>(List.range k).map (DZ p V s F)) (r:=some ((List.range M).map (DZ p V s F))) (λm k hk=>?_) (λm=>?_) (n:=Aa) (by unfold Aa;omega)
 ·exact this
 ·have g:=GN hp hs hV hW hN hF k
  have h1:=Hn (b:=p.toNat) (k:=F.length) (i:=k) (by omega) (by omega) (by omega)
  rw[show((p.toNat:Nat):Int)=p by omega]at h1
  simp only[AT,hl,h1,g.sol,Option.bind_some,List.range_succ,List.map_append,List.map_cons,List.map_nil,Ac (show k<4611686018427387904 by omega)]
  rw[if_pos (by simp;omega),if_pos (by simp;unfold lim;omega),←hl]
  rfl
 ·simp only[AT]
  rw[if_neg (by simp)]
theorem J3 (hp:pr4 p) (hs:ESok p W N V s) (hV:V<W) (hW:W<=1000) (hN:N<=100000) (hF:F=Ap V s.2.1) (l:Lin) (hl:l.1=p) {M:Nat} (hM:M<=600) (hMp:M=p.toNat^F.length):
  Av Aa (l,[],(M:Int),Gk V s,true,Bu p V s,0)=some (Zn cmpL ((List.range M).map (DZ p V s F))):=by
 have hpb:2<=p/\p<=7:=by unfold pr4 at hp;omega
 have hFV:F.length<=V:=by rw[hF];exact Cu
 have hkl:(Bu p V s).length=F.length:=by unfold Bu;rw[List.length_map,hF]
 have hnd: ∀k,k<=M->((List.range k).map (DZ p V s F)).Nodup:=λk hk=>by
  rw[List.nodup_iff_pairwise_ne,List.pairwise_map]
  refine(List.nodup_range (n:=k)).imp_of_mem ?_
  intro i j hi hj hij e
  have hi:=List.mem_range.1 hi
  have hj:=List.mem_range.1 hj
  exact hij (Ie hp hs hV hW hN hF (by omega) (by omega) e)
 have:=BL M (λm o i=>Av m (l,o,(M:Int),Gk V s,true,Bu p V s,i)) (λk=>Zn cmpL ((List.range k).map (DZ p V s F))) (r:=some (Zn cmpL ((List.range M).map (DZ p V s F)))) (λm k hk=>?_) (λm=>?_) (n:=Aa) (by unfold Aa;omega)
 ·have e0:Zn cmpL ((List.range 0).map (DZ p V s F))= []:=by simp[Zn]
  rw[e0]at this
  exact this
 ·have g:=GN hp hs hV hW hN hF k
  have h1:=Hz (b:=p.toNat) (k:=F.length) (i:=k) (by omega) (by omega) (by omega)
  rw[show((p.toNat:Nat):Int)=p by omega]at h1
  have h2:=Dv (l:=Gk V s) (by simp[Gk];omega)
  have h3:=g.L12 l hl (Zn cmpL ((List.range k).map (DZ p V s F))) (M:Int) (Gk V s) true (k:Int)
  have h3':AO Aa ((l.1,(l.2.1,l.2.2)),Zn cmpL ((List.range k).map (DZ p V s F)),(M:Int),Gk V s,true,Bu p V s,(k:Int),Gk V s,cI (dg p.toNat F.length k),0)=_:=h3
  have h4:D5 (Zn cmpL ((List.range k).map (DZ p V s F))) (FA p V s F (cI (dg p.toNat F.length k)) F.length)=some (Zn cmpL ((List.range (k+1)).map (DZ p V s F))):=by
   rw[List.range_succ,List.map_append]
   refine Ix (k:=V) (by simp;omega) (by omega) (λu hu=>?_) Ha (hnd k (by omega)) (λh=>?_)
   ·obtain⟨i,_,rfl⟩:=List.mem_map.1 hu;exact Jt i
   ·obtain⟨i,hi,e⟩:=List.mem_map.1 h
    have hi:=List.mem_range.1 hi
    have:=Ie (i:=i) (j:=k) hp hs hV hW hN hF (by omega) (by omega) e
    omega
  simp only[Av,if_true,h2,hkl,hl,h1,Option.bind_some]
  rw[if_pos (by simp;omega)]
  rw[hl]at h3'
  rw[h3']
  simp only[Option.bind_some,h4,Ac (show k<4611686018427387904 by omega)]
 ·simp only[Av]
  rw[if_neg (by simp)]
end
end T
open Go Go.Va
namespace T
section
variable {a:Nat} {ts:List (List Int)} {c:List Int} {q:Int}
def Mc (ts:List (List Int)) (c:List Int):Bool:=ts.all λt=>c.any (Mx t)
def wo (c:List Int) (k:Nat):List Int:=c.take k++c.drop (k+1)
def pk (ts:List (List Int)) (c:List Int) (k:Nat):Bool:=Mc ts c&&(List.range k).all λi=>!Mc ts (wo c i)
end
end T
open Go Go.Va
namespace T
section
variable {a:Nat} {ts:List (List Int)} {c:List Int} {q:Int}
def L7 (T ts:List (List Int)):List (List Int):=T.filter λc=>pk ts c c.length
end
end T
open Go Go.Va
namespace T
section
variable {p:Int} {V W N:Nat} {s:ES}
theorem HF {b:List Int}: ∀ {v w:Nat},v<=w->DJ v b=(DJ w b).take (DJ v b).length:=by
  intro v w h
  induction w with
  | zero => have : v = 0 := by omega
            subst this;rw[List.take_length]
  |succ w ih=>
    by_cases e:v=w+1
    · subst e;rw[List.take_length]
    · have h1:=ih (by omega)
      have h2:(DJ v b).length<=(DJ w b).length:=by
        have:=congrArg List.length h1
        rw[List.length_take]at this;omega
      rw[E8,List.take_append_of_le_length h2]
      exact h1
theorem Kd {b:List Int} {v:Nat} {x:Int}:x∈DJ v b↔x∈b/\ ∃u:Nat,u<v/\x=(u:Int):=by
 unfold DJ
 constructor
 ·intro h
  obtain⟨u,hu,rfl⟩:=List.mem_map.1 h
  have:=List.mem_filter.1 hu
  exact⟨by simpa using this.2,u,List.mem_range.1 this.1,rfl⟩
 ·rintro ⟨h,u,hu,rfl⟩
  exact List.mem_map.2 ⟨u,List.mem_filter.2 ⟨List.mem_range.2 hu,by simpa using h⟩,rfl⟩
theorem Mj (hp:pr4 p):DT p 1=1:=by
 have: ∀q:Fin 8,(q.val=2∨q.val=3∨q.val=5∨q.val=7)->DT (q.val:Int) 1=1:=by decide+kernel
 unfold pr4 at hp
 have:=this ⟨p.toNat,by omega⟩ (by simp;omega)
 simpa[Int.toNat_of_nonneg (show 0<=p by omega)]using this
theorem Lz {r:List Int} (h:Aj p W r):AH p 1 r=r:=by
 unfold AH
 apply List.ext_getElem
 ·simp
 ·intro i h1 h2
  rw[List.getElem_map,List.getElem_range,Ab h2,Int.mul_one]
  have:=h.2 _ (List.getElem_mem h2)
  exact Int.tmod_eq_of_lt this.1 this.2
theorem IR (hp:pr4 p) (hs:ESok p W N V s) (h:RR p V s) (hVW:V<=W) {Z:List (List Int)} (hZ: ∀r∈Z,Aj p W r/\ ∀u,u<V->r.getD u 0=0):
  ∀v,v<=V->Ad p (s.1++Z) v=(s.1.take (DJ v s.2.1).length,DJ v s.2.1,s.1.drop (DJ v s.2.1).length++Z):=by
 intro v
 induction v with
 |zero=>intro _;simp[Ad,DJ]
 |succ v ih=>
  intro hv
  have hnx:Ad p (s.1++Z) (v+1)=CV p (Ad p (s.1++Z) v) v:=by unfold Ad;rw[DG]
  rw[hnx,ih (by omega)]
  have hbl:=hs.bl
  have htk:=HF (b:=s.2.1) (show v<=V by omega)
  rw[h.bnd]at htk
  obtain⟨j,hj⟩: ∃j,j=(DJ v s.2.1).length:=⟨_,rfl⟩
  have hjb:j<=s.2.1.length:=by have:=congrArg List.length htk;rw[List.length_take]at this;omega
  have hzt: ∀i,i<s.1.length-> ∀r,r=s.1.getD i []->Aj p W r:=λi hi r e=>by rw[e];exact hs.t _ (AF hi)
  by_cases hm:(v:Int)∈s.2.1
  ·
   have htk1:=HF (b:=s.2.1) hv
   rw[h.bnd]at htk1
   have e1:DJ (v+1) s.2.1=DJ v s.2.1++ [(v:Int)]:=by rw[E8,if_pos hm]
   have l1:(DJ (v+1) s.2.1).length=j+1:=by rw[e1,List.length_append,←hj];rfl
   rw[l1]at htk1
   have hjlt:j<s.2.1.length:=by
    have:=congrArg List.length htk1
    rw[l1,List.length_take]at this;omega
   have hbj:s.2.1.getD j 0=(v:Int):=by
    have h1:(DJ (v+1) s.2.1).getD j 0=(v:Int):=by rw[e1,hj,Fa]
    rw[htk1,List.getD_eq_getElem?_getD,List.getElem?_take_of_lt (by omega),←List.getD_eq_getElem?_getD]at h1
    exact h1
   rw[←hj]
   have hj1:j<s.1.length:=by omega
   have hpj: ∀i,i<s.1.length->(s.1.getD i []).getD v 0=if i=j then 1 else 0:=λi hi=>by
    have:=h.piv i hi j hj1
    rw[hbj,Int.toNat_natCast]at this;exact this
   obtain⟨P,hP⟩: ∃P,P=s.1.getD j []:=⟨_,rfl⟩
   have hPok:=hzt j hj1 P hP
   have hP1:P.getD v 0=1:=by rw[hP,hpj j hj1,if_pos rfl]
   have hdr:s.1.drop j++Z=P::(s.1.drop (j+1)++Z):=by
    rw[List.drop_eq_getElem_cons hj1,hP,Ab hj1];rfl
   have hfi:(s.1.drop j++Z).findIdx (nzB v)=0:=by
    rw[hdr,List.findIdx_cons]
    have:nzB v P=true:=by unfold nzB;rw[hP1];rfl
    rw[this];rfl
   have hsame: ∀r,Aj p W r->r.getD v 0=0->AJ p P v r=r:=λr hr h0=>HP hp hr hPok h0
   have hpv:Gz p (s.1.take j,DJ v s.2.1,s.1.drop j++Z) v=P:=by
    unfold Gz
    dsimp only
    rw[hfi,hdr]
    show AH p (DT p (P.getD v 0)) P=P
    rw[hP1,Mj hp,Lz hPok]
   rw[GM (by dsimp only;rw[hfi,hdr];simp),hpv]
   dsimp only
   rw[hfi,hdr,l1,e1]
   have m1:(s.1.take j).map (AJ p P v)=s.1.take j:=by
    rw[List.map_congr_left (g:=id) λr hr=>?_,List.map_id]
    obtain⟨i,hi,rfl⟩:=List.mem_iff_getElem.1 hr
    rw[List.length_take]at hi
    rw[List.getElem_take]
    have:=hpj i (by omega)
    rw[Ab (show i<s.1.length by omega),if_neg (by omega)]at this
    exact hsame _ (hs.t _ (List.getElem_mem _)) this
   have m2:((P::(s.1.drop (j+1)++Z)).eraseIdx 0).map (AJ p P v)=s.1.drop (j+1)++Z:=by
    rw[List.eraseIdx_cons_zero,List.map_congr_left (g:=id) λr hr=>?_,List.map_id]
    rcases List.mem_append.1 hr with hr|hr
    ·obtain⟨i,hi,rfl⟩:=List.mem_iff_getElem.1 hr
     rw[List.length_drop]at hi
     rw[List.getElem_drop]
     have:=hpj (j+1+i) (by omega)
     rw[Ab (show j+1+i<s.1.length by omega),if_neg (by omega)]at this
     exact hsame _ (hs.t _ (List.getElem_mem _)) this
    ·exact hsame r (hZ r hr).1 ((hZ r hr).2 v (by omega))
   rw[m1,m2]
   have m3:s.1.take j++ [P]=s.1.take (j+1):=by rw[List.take_succ_eq_append_getElem hj1,hP,Ab hj1]
   rw[m3]
  ·have e1:DJ (v+1) s.2.1=DJ v s.2.1:=by rw[E8,if_neg hm,List.append_nil]
   rw[e1,GL]
   dsimp only
   rw[←hj]
   have:(s.1.drop j++Z).findIdx (nzB v)=(s.1.drop j++Z).length:=by
    rw[List.findIdx_eq_length]
    intro r hr
    unfold nzB
    rcases List.mem_append.1 hr with hr|hr
    ·obtain⟨i,hi,rfl⟩:=List.mem_iff_getElem.1 hr
     rw[List.length_drop]at hi
     rw[List.getElem_drop]
     have hji:j+i<s.2.1.length:=by omega
     have hbm:=List.getElem_mem hji
     have hb2:=hs.bv _ hbm
     have hnot: ¬s.2.1[j+i]<(v:Int):=λhlt=>by
      have hin:s.2.1[j+i]∈DJ v s.2.1:=Kd.2 ⟨hbm,s.2.1[j+i].toNat,by omega,by omega⟩
      rw[htk,←hj]at hin
      obtain⟨q,hq,e⟩:=List.mem_iff_getElem.1 hin
      rw[List.length_take]at hq
      rw[List.getElem_take]at e
      have:=(List.getElem_inj hs.bn).1 e
      omega
     have hne:s.2.1[j+i]≠(v:Int):=λe=>hm (e▸hbm)
     have:=h.low (j+i) (by omega) v (by rw[Ab hji];omega)
     rw[Ab (show j+i<s.1.length by omega)]at this
     rw[this];rfl
    ·rw[(hZ r hr).2 v (by omega)];rfl
   omega
theorem IT (hp:pr4 p) (hs:ESok p W N V s) (h:RR p V s) (hVW:V<=W) {Z:List (List Int)} (hZ: ∀r∈Z,Aj p W r/\ ∀u,u<V->r.getD u 0=0):
  Ad p (s.1++Z) V=(s.1,s.2.1,Z):=by
 have:=IR hp hs h hVW hZ V (Nat.le_refl _)
 rw[h.bnd,hs.bl,List.take_length,List.drop_length,List.nil_append]at this
 exact this
theorem Iu (hp:pr4 p) (hs:ESok p (V+1) N V s) (h:RR p V s) {f:Nat} (hf:f<V) (hfb:(f:Int)∉s.2.1):
  ∀r∈s.1++s.2.2,cg p (AZ V λi=>r.getD i 0*CL p s f i) 0:=by
 intro r hr
 rcases List.mem_append.1 hr with hr|hr
 ·obtain⟨i,hi,rfl⟩:=List.mem_iff_getElem.1 hr
  have hbl:=hs.bl
  have hb:i<s.2.1.length:=by omega
  have hbv:=hs.bv _ (List.getElem_mem hb)
  have hbn:s.2.1[i]=(((s.2.1[i]).toNat:Nat):Int):=by omega
  obtain⟨b,hbe⟩: ∃b,b=(s.2.1[i]).toNat:=⟨_,rfl⟩
  rw[←hbe]at hbn
  have hbV:b<V:=by omega
  have hpos:=FX hs.bn hb hbn
  have hbf:b≠f:=λe=>hfb (by rw[←e,←hbn];exact List.getElem_mem hb)
  have hk1:CL p s f b=Int.tmod (p-(s.1[i]).getD f 0) p:=by
   unfold CL;rw[hpos,if_neg (by omega),Int.toNat_natCast,Ab hi]
  have hk2:CL p s f f=1:=by unfold CL;rw[if_pos (Ca.2 hfb),if_pos rfl]
  have hr1:(s.1[i]).getD b 0=1:=by
   have:=h.piv i hi i hi
   rw[Ab hi,Ab hb,if_pos rfl,←hbe]at this;exact this
  have hrok:=hs.t _ (List.getElem_mem hi)
  have hrf:=BB hrok (show f<V+1 by omega)
  have hz: ∀u,u<V->u≠b->u≠f->(s.1[i]).getD u 0*CL p s f u=0:=λu hu h1 h2=>by
   by_cases hm:(u:Int)∈s.2.1
   ·obtain⟨j,hj,hj1,hj2⟩:=DA hm
    have hji:i≠j:=λe=>by subst e;rw[hj2]at hbn;omega
    have:=h.piv i hi j (by omega)
    rw[Ab hi,Ab hj,if_neg hji,hj2,Int.toNat_natCast]at this
    rw[this];simp
   ·have:CL p s f u=0:=by unfold CL;rw[if_pos (Ca.2 hm),if_neg h2]
    rw[this];simp
  have e:(AZ V λu=>(s.1[i]).getD u 0*CL p s f u)=(AZ V λu=>if u=b then CL p s f b else 0)+1*(AZ V λu=>if u=f then(s.1[i]).getD f 0 else 0):=by
   rw[←Ej]
   refine CE λu hu=>?_
   by_cases h1:u=b
   ·subst h1;rw[if_pos rfl,if_neg hbf,hr1];simp
   ·by_cases h2:u=f
    ·subst h2;rw[if_neg h1,if_pos rfl,hk2];simp
    ·rw[if_neg h1,if_neg h2,hz u hu h1 h2];simp
  rw[e,Ek (m:=b) hbV (λj _ hj=>if_neg hj),Ek (m:=f) hf (λj _ hj=>if_neg hj),if_pos rfl,if_pos rfl,hk1]
  have h1:=H3 (p:=p) (x:=p-(s.1[i]).getD f 0) (by omega)
  obtain⟨k,h1⟩:=h1
  exact⟨k+1,by grind⟩
 ·have hz:=h.zl r hr
  exact D6 λj hj=>by rw[hz j hj];exact BC (by simp)
theorem Ju {A:List (List Int)} {c f:Nat->Int} (h: ∀r∈A,cg p (AZ V λi=>r.getD i 0*c i) 0) (hf:Sp p V A f):cg p (AZ V λi=>f i*c i) 0:=by
 induction hf with
 |zero=>exact D6 λj _=>BC (by simp)
 |add r d hr _ ih=>
  rename_i f' _
  have e:(AZ V λi=>(f' i+d*r.getD i 0)*c i)=(AZ V λi=>f' i*c i)+d*AZ V λi=>r.getD i 0*c i:=by
   rw[←Ej];exact CE λi _=>by grind
  rw[e]
  have:=DD ih (FK d (h r hr))
  exact AQ this (BC (by simp))
 |cgr _ h2 ih=>exact AQ (FZ λi hi=>FW _ (h2 i hi)) ih
theorem HM (hp:pr4 p) {A:List (List Int)} (hA: ∀r∈A,Aj p (V+1) r) {f:Nat} (hf:f<V) (hfb:(f:Int)∉(Ad p A V).2.1) {r:List Int} (hr:r∈A):
  cg p (AZ V λi=>r.getD i 0*CL p (Ad p A V) f i) 0:=by
 have hs:=AK hp hA V (by omega)
 have hrr:=DL hp hA V (by omega)
 have hsp:=Fu hp hA (V:=V) (by omega) V (by omega)
 exact Ju (Iu hp hs hrr hf hfb) ((hsp _).1 (Sp.mem hr))
end
end T
set_option linter.unusedVariables false
open Go Go.Va
namespace T
def Dc:Nat->((List (List Int))×(List (List Int))×Int)->Option ((Unit)⊕(Bool))
 |0,_=>none
 |n+1,(a,b,i)=>
 if decide (i<(a.length:Int))then
 if inb i a then
 if inb i b then
 (EO (gd a i []) (gd b i [])).bind λr1=>
 if !r1 then
 some (.inr false)
 else
 Dc n (a,b,w64 (i+1))
 else none
 else none
 else
 some (.inl ())
def AR (a:List (List Int)) (b:List (List Int)):Option (Bool):=
 if(a.length:Int) !=(b.length:Int)then
  some false
 else
  (Dc Aa (a,b,0)).bind λs1=>
   match s1 with
   | .inl s2=>
    some true
   | .inr s3=>
    some s3
def Ai (l:Int×Int×(List (List Int))) (m:Int×Int×(List (List Int))):Option (Bool):=
 if l.1==m.1 then
 if l.2.1==m.2.1 then
 (AR l.2.2 m.2.2).bind λr1=>
 some r1
 else
 some false
 else
 some false
end T
open Go Go.Va
namespace T
section
variable {a:Lin} {p:Int} {V W N:Nat} {s:ES}
def esA (a:Lin):ES:=Ad a.1 a.2.2 a.2.1.toNat
def elR (a:Lin):Lin×Bool:=if Dr a then((a.1,(a.2.1,(esA a).1++(esA a).2.2.filter (nzB a.2.1.toNat))),true)else((0,(0,[])),false)
def coR (a:Lin):Int×Bool:=if Dr a then(if C2 a.2.1.toNat (esA a)then 0 else a.1^(Ap a.2.1.toNat (esA a).2.1).length,true)else(0,false)
def liR (a:Lin):List (List Int)×Bool:=
 if Dr a then
  if C2 a.2.1.toNat (esA a)then([],true)else
   if a.1^(Ap a.2.1.toNat (esA a).2.1).length>600 then([],false)else(Zn cmpL ((List.range (a.1.toNat^(Ap a.2.1.toNat (esA a).2.1).length)).map (DZ a.1 a.2.1.toNat (esA a) (Ap a.2.1.toNat (esA a).2.1))),true)
 else([],false)
theorem J7 (h:Hr a):Ah a=some (elR a)/\FO a=some (elR a):=by
 obtain⟨p,v,rows⟩:=a
 unfold Ah FO elR esA
 rw[DX h,FE h]
 cases hg:Dr (p,v,rows)with
 |false=>exact⟨rfl,rfl⟩
 |true=>
  obtain⟨hp,V,hv,hV,hN,hr⟩:=Ht hg
  dsimp only at hp hv hN hr
  subst hv
  have hs:=AK hp hr V (by omega)
  unfold Bb D2
  have e1:=EE hp (show V<=V+1 by omega) (by omega) hr (by omega)
  have e2:=BE hp (show V<=V+1 by omega) (by omega) hr (by omega)
  simp only[e1,e2,Option.bind_some,Bool.not_true,Bool.false_eq_true,if_false,if_true,Int.toNat_natCast]
  generalize Ad p rows V=s at hs
  have e3:=Iv hs (by omega) (by omega) (by omega)
  have e4:=Ig hs (by omega) (by omega) rows
  simp only[e3,e4,Option.bind_some]
  exact⟨trivial,trivial⟩
theorem IJ (h:Hr a):BM a=some (coR a)/\CM a=some (coR a):=by
 obtain⟨R,c1,c2⟩:=Hc h
 have cv:=Jy h
 rw[cv]at c1
 obtain rfl:=Option.some.inj c1
 exact⟨cv,c2⟩
theorem IK (h:Hr a):Al a=some (liR a)/\Eh a=some (liR a):=by
 obtain⟨cv,c2⟩:=IJ h
 obtain⟨p,v,rows⟩:=a
 have cv:BM (p,(v,rows))=_:=cv
 have c2:CM (p,(v,rows))=_:=c2
 unfold Al Eh
 dsimp only
 rw[cv,c2]
 unfold coR liR esA
 simp only[Option.bind_some]
 cases hg:Dr (p,v,rows)with
 |false=>exact⟨rfl,rfl⟩
 |true=>
  obtain⟨hp,V,hv,hV,hN,hr⟩:=Ht hg
  dsimp only at hp hv hN hr
  subst hv
  have hs:=AK hp hr V (by omega)
  have hpb:2<=p/\p<=7:=by unfold pr4 at hp;omega
  have e1:=EE hp (show V<=V+1 by omega) (by omega) hr (by omega)
  have e2:=BE hp (show V<=V+1 by omega) (by omega) hr (by omega)
  have e3:=KU hp (V:=V) (W:=V+1) (by omega) (by omega) hr (by omega)
  unfold Bb D2
  simp only[e1,e2,e3,Option.bind_some,Bool.not_true,Bool.false_eq_true,if_false,if_true,Int.toNat_natCast]
  generalize Ad p rows V=s at hs
  obtain⟨F,hF⟩: ∃F,F=Ap V s.2.1:=⟨_,rfl⟩
  have e6:AG (DP p V s)=some F:=by rw[hF];exact EW (by omega)
  have e7:=G0 hp hs (by omega) (by omega) (by omega)
  have e7:CO (s.1,(s.2.1,s.2.2)) p (V:Int)=_:=e7
  have hFV:F.length<=V:=by rw[hF];exact Cu
  rw[←hF]
  have hlim:lim=1099511627776:=rfl
  cases C2 V s with
  |true=>
   have i1:=HK (M:=0) hp hs (show V<V+1 by omega) (by omega) (by omega) hF (p,((V:Int),rows)) rfl (by omega)
   have i1:AT Aa ((p,((V:Int),rows)),(0:Int),DP p V s,(F.length:Int),[],0)=some []:=i1
   have i2:Av Aa ((p,((V:Int),rows)),[],(0:Int),[],false,Bu p V s,0)=some []:=by
    have:=BL 0 (λm (_:Unit) i=>Av m ((p,((V:Int),rows)),[],(0:Int),[],false,Bu p V s,i)) (λ_=>()) (r:=some []) (λm k hk=>by omega) (λm=>by simp only[Av];rw[if_neg (by simp)]) (n:=Aa) (by unfold Aa;omega)
    exact this
   have i3:An [] ()=some []:=by
    unfold An
    rw[if_pos (by simp)];simp[Zn]
   simp only[if_true]
   rw[if_neg (by simp),if_neg (by simp)]
   simp only[e6,e7,i1,i2,i3,Option.bind_some]
   exact⟨trivial,trivial⟩
  |false=>
   simp only[Bool.false_eq_true,if_false]
   obtain⟨M,hM⟩: ∃M:Nat,M=p.toNat^F.length:=⟨_,rfl⟩
   have hMp:p^F.length=(M:Int):=by rw[hM,Int.natCast_pow];congr 1;omega
   rw[hMp,←hM]
   by_cases hbig:(M:Int)>600
   ·rw[if_pos (by simpa using hbig),if_pos hbig,if_pos (by simpa using hbig)]
    exact⟨rfl,rfl⟩
   ·rw[if_neg (by simpa using hbig),if_neg hbig,if_neg (by simpa using hbig)]
    have i1:=HK (M:=M) hp hs (show V<V+1 by omega) (by omega) (by omega) hF (p,((V:Int),rows)) rfl (by omega)
    have i2:=J3 (M:=M) hp hs (show V<V+1 by omega) (by omega) (by omega) hF (p,((V:Int),rows)) rfl (by omega) hM
    have i3:An ((List.range M).map (DZ p V s F)) ()=some (Zn cmpL ((List.range M).map (DZ p V s F))):=by
     unfold An
     rw[if_pos]
     refine⟨by simp;omega,?_⟩
     rw[List.all_eq_true]
     intro r hr
     obtain⟨i,_,rfl⟩:=List.mem_map.1 hr
     rw[decide_eq_true_iff,Jt];omega
    simp only[e6,e7,i1,i2,i3,Option.bind_some]
    exact⟨trivial,trivial⟩
end
theorem HT {x y:List (List Int)} (h:x.length<=1048576) (hr: ∀r∈x,r.length<=1048576):AR x y=some (decide (x=y)):=by
 unfold AR
 by_cases hl:x.length=y.length
 ·rw[if_neg (by simp[hl]),eqX x y hl (λn i=>Dc n (x,y,i)) ?_ ?_ (by unfold Aa;omega)]
  ·by_cases h:x=y<;>simp[h]
  ·intro n k h1 h2
   simp only[Dc,Ae,Ak h1,Ak h2,Ac (show k<4611686018427387904 by omega),IG (hr _ (List.getElem_mem h1))]
   by_cases h:x[k]=y[k]<;>simp[h1,h2,h]
  ·intro n
   simp[Dc]
 ·rw[if_pos (by simp;omega),decide_eq_false (λe=>hl (by rw[e]))]
theorem GI {a:Lin} (h:Hr a):Ai a a=some true:=by
 unfold Ai
 rw[if_pos (by simp),if_pos (by simp),HT h.1 h.2]
 simp
end T
open Go Go.Va
namespace T
section
variable {a:Lin} {p:Int} {V N:Nat} {s:ES} {A:List (List Int)}
theorem Hs (hp:pr4 p) (hV:V<=8) (hA:A.length<=8) (hr: ∀r∈A,Aj p (V+1) r):Dr (p,((V:Int),A))=true:=by
 unfold Dr
 simp only[Bool.and_eq_true,decide_eq_true_eq,List.all_eq_true]
 refine⟨⟨⟨?_,by omega,by omega⟩,hA⟩,λr h=>⟨by rw[(hr r h).1];rfl,?_⟩⟩
 ·unfold Cp;unfold pr4 at hp;simp;omega
 ·unfold Ay;rw[List.all_eq_true];intro x hx;simpa using (hr r h).2 x hx
theorem Ki (hg:Dr a=true):Hr (elR a).1/\elR (elR a).1=elR a/\KS (elR a).1=KS a:=by
 obtain⟨hp,hv,hV,hN,hr⟩:=IW hg
 have hs:=AK hp hr a.2.1.toNat (by omega)
 have hrr:=DL hp hr a.2.1.toNat (by omega)
 have e0:(elR a)=((a.1,(a.2.1,(esA a).1++(esA a).2.2.filter (nzB a.2.1.toNat))),true):=by unfold elR;rw[hg];rfl
 have es:esA a=Ad a.1 a.2.2 a.2.1.toNat:=rfl
 rw[e0,es]
 have esol:KS a=if C2 a.2.1.toNat (Ad a.1 a.2.2 a.2.1.toNat)then([],false)else(Gk a.2.1.toNat (Ad a.1 a.2.2 a.2.1.toNat),true):=by unfold KS;rw[hg];rfl
 rw[esol]
 generalize Ad a.1 a.2.2 a.2.1.toNat=s at*
 obtain⟨Z,hZ⟩: ∃Z,Z=s.2.2.filter (nzB a.2.1.toNat):=⟨_,rfl⟩
 have hZm: ∀r∈Z,Aj a.1 (a.2.1.toNat+1) r/\ ∀u,u<a.2.1.toNat->r.getD u 0=0:=λr h=>by
  rw[hZ]at h
  have:=(List.mem_filter.1 h).1
  exact⟨hs.l r this,hrr.zl r this⟩
 have hZl:Z.length<=s.2.2.length:=by rw[hZ];exact List.length_filter_le _ _
 have hR: ∀r∈s.1++Z,Aj a.1 (a.2.1.toNat+1) r:=λr h=>(List.mem_append.1 h).elim (hs.t r) λh=>(hZm r h).1
 have hn:=hs.n
 have hl:(s.1++Z).length<=8:=by rw[List.length_append];omega
 have hgm:Dr (a.1,(a.2.1,s.1++Z))=true:=by rw[←hv];exact Hs hp hV hl hR
 have ea:Ad a.1 (s.1++Z) a.2.1.toNat=(s.1,s.2.1,Z):=IT hp hs hrr (by omega) hZm
 have hZZ:Z.filter (nzB a.2.1.toNat)=Z:=by rw[hZ,List.filter_filter];simp
 rw[←hZ]
 dsimp only
 refine⟨⟨by dsimp only;omega,λr h=>by have:=(hR r h).1;omega⟩,?_,?_⟩
 ·unfold elR esA
  rw[hgm]
  dsimp only
  rw[ea,if_pos rfl]
  dsimp only
  rw[hZZ]
 ·unfold KS
  rw[hgm]
  dsimp only
  rw[ea,if_pos rfl]
  have ef:C2 a.2.1.toNat (s.1,s.2.1,Z)=C2 a.2.1.toNat s:=by
   unfold C2
   dsimp only
   rw[hZ,Bool.eq_iff_iff,List.any_eq_true,List.any_eq_true]
   exact⟨λ⟨r,h1,h2⟩=>⟨r,(List.mem_filter.1 h1).1,h2⟩,λ⟨r,h1,h2⟩=>⟨r,List.mem_filter.2 ⟨h1,h2⟩,h2⟩⟩
  rw[ef]
  rfl
theorem Jb {x:List Int} (h:x.length<=1048576):EO x x=some true:=by rw[IG h];simp
theorem IH {x:List (List Int)} (h:x.length<=1048576) (hr: ∀r∈x,r.length<=1048576):AR x x=some true:=by rw[HT h hr];simp
end
end T
open Go Go.Va
namespace T
def Zm (xs:List (List Int)):List Nat:=(List.range xs.length).filter λi=>i==0||xs.getD (i-1) [] !=xs.getD i []
def Zx (xs:List (List Int)):List (List Int):=(Zm xs).map λi=>xs.getD i []
def dgP:List Int->List (List Int)->List (List Int)
 |_,[]=> []
 |p,x::l=>if p=x then dgP x l else x::dgP x l
theorem HG: ∀(l pre:List (List Int)) (p:List Int),((List.range' (pre++ [p]).length l.length).filter λi=>i==0||(pre++ [p]++l).getD (i-1) [] !=(pre++ [p]++l).getD i []).map (λi=>(pre++ [p]++l).getD i [])=dgP p l
 | [],_,_=>rfl
 |x::l,pre,p=>by
  have ih:=HG l (pre++ [p]) x
  have e:pre++ [p]++ [x]++l=pre++ [p]++(x::l):=by simp
  rw[e]at ih
  have e2:(pre++ [p]++ [x]).length=(pre++ [p]).length+1:=by simp
  rw[e2]at ih
  have g1:(pre++ [p]++(x::l)).getD ((pre++ [p]).length-1) []=p:=by
   rw[List.getD_eq_getElem?_getD,List.getElem?_append_left (by simp),List.length_append,List.length_singleton,Nat.add_sub_cancel,List.getElem?_append_right (Nat.le_refl _),Nat.sub_self];rfl
  have g2:(pre++ [p]++(x::l)).getD (pre++ [p]).length []=x:=by
   rw[List.getD_eq_getElem?_getD,List.getElem?_append_right (Nat.le_refl _),Nat.sub_self];rfl
  have g3:((pre++ [p]).length==0)=false:=by simp
  rw[List.length_cons,List.range'_succ,List.filter_cons,g1,g2,g3,dgP]
  by_cases h:p=x
  ·rw[if_neg (by simp[h]),if_pos h];exact ih
  ·rw[if_pos (by simp[h]),if_neg h,List.map_cons,g2];exact congrArg _ ih
theorem Hk {x:List Int} {l:List (List Int)}:Zx (x::l)=x::dgP x l:=by
 have h:=HG l [] x
 unfold Zx Zm
 rw[List.range_eq_range',List.length_cons,List.range'_succ,List.filter_cons,if_pos (by simp),List.map_cons]
 exact congrArg _ h
theorem Jg: ∀ {l:List (List Int)} {p u:List Int},(u∈dgP p l∨u=p)↔(u∈l∨u=p)
 | [],_,_=>Iff.rfl
 |x::l,p,u=>by
  have ih:=Jg (l:=l) (p:=x) (u:=u)
  unfold dgP
  by_cases h:p=x
  ·subst h
   rw[if_pos rfl,ih,List.mem_cons]
   exact⟨λh=>h.elim (λh=>Or.inl (Or.inr h)) Or.inr,λh=>h.elim (λh=>h.elim Or.inr Or.inl) Or.inr⟩
  ·rw[if_neg h,List.mem_cons,List.mem_cons]
   constructor
   ·rintro ((h|h)|h)
    ·exact Or.inl (Or.inl h)
    ·exact Or.inl ((ih.1 (Or.inl h)).elim Or.inr Or.inl)
    ·exact Or.inr h
   ·rintro ((h|h)|h)
    ·exact Or.inl (Or.inl h)
    ·exact Or.inl ((ih.2 (Or.inl h)).elim Or.inr Or.inl)
    ·exact Or.inr h
theorem JD {l:List (List Int)} {u:List Int}:u∈Zx l↔u∈l:=by
 cases l with
 |nil=>exact Iff.rfl
 |cons x l=>
  rw[Hk,List.mem_cons,List.mem_cons]
  have:=Jg (l:=l) (p:=x) (u:=u)
  exact⟨λh=>(this.1 h.symm).symm,λh=>(this.2 h.symm).symm⟩
theorem Jf: ∀ {l:List (List Int)} {p:List Int},(p::l).Pairwise (λa b=> ¬cmpL b a<0)->(p::dgP p l).Pairwise λa b=>cmpL a b<0
 | [],_,_=>List.pairwise_singleton _ _
 |x::l,p,h=>by
  have h1:=List.pairwise_cons.1 h
  have ih:=Jf (l:=l) (p:=x) h1.2
  unfold dgP
  by_cases e:p=x
  ·subst e;rw[if_pos rfl];exact ih
  ·rw[if_neg e]
   refine List.pairwise_cons.2 ⟨λb hb=>?_,ih⟩
   have hlt:cmpL p x<0:=by
    have h2:=h1.1 x (List.mem_cons_self ..)
    have h3:=cmpL_symm p x
    have h4:cmpL p x≠0:=λh=>e (cmpL_eq.1 h)
    omega
   rcases List.mem_cons.1 hb with rfl|hb
   ·exact hlt
   ·exact cmpL_trans hlt ((List.pairwise_cons.1 ih).1 b hb)
theorem KV (l:List (List Int)):(Zn cmpL l).Pairwise λa b=> ¬cmpL b a<0:=by
 have hs:(Zn cmpL l).Pairwise λx y=>(!decide (cmpL y x<0))=true:=by
  unfold Zn
  refine List.pairwise_mergeSort (λa b c h1 h2=>?_) (λa b=>?_) l
  ·simp only[Bool.not_eq_true',decide_eq_false_iff_not]at*
   intro h3
   have q1:=cmpL_symm a b
   have q2:=cmpL_symm b c
   by_cases e:cmpL a b=0
   ·rw[cmpL_eq.1 e]at h3;exact h2 h3
   ·exact h2 (cmpL_trans h3 (by omega))
  ·simp only[Bool.or_eq_true,Bool.not_eq_true',decide_eq_false_iff_not]
   have q1:=cmpL_symm a b
   omega
 exact hs.imp fun {a b} h=>by simpa using h
def I7 (l:List (List Int)):List (List Int):=Zx (Zn cmpL l)
theorem setL_mem {l:List (List Int)} {u:List Int}:u∈I7 l↔u∈l:=by
 unfold I7;rw[JD];exact(List.mergeSort_perm l _).mem_iff
theorem KR (l:List (List Int)):Dl (I7 l)=true:=by
 rw[EG]
 unfold I7
 have h:=KV l
 generalize Zn cmpL l=s at h
 cases s with
 |nil=>exact List.Pairwise.nil
 |cons x s=>rw[Hk];exact Jf h
theorem Hp: ∀ {a b:List (List Int)},Dl a=true->Dl b=true->(∀u,u∈a↔u∈b)->a=b:=by
 intro a b ha hb h
 have pa:=EG.1 ha
 have pb:=EG.1 hb
 have na:a.Nodup:=pa.imp fun {x y} h e=>by rw[e,cmpL_refl]at h;omega
 have nb:b.Nodup:=pb.imp fun {x y} h e=>by rw[e,cmpL_refl]at h;omega
 have hp:a.Perm b:=(List.perm_ext_iff_of_nodup na nb).2 h
 rw[←Fk ha (List.Perm.refl _),←Fk hb (List.Perm.refl _)]
 have h1:=Fk ha hp
 have h2:=Fk hb (List.Perm.refl b)
 have h3:=Fk ha (List.Perm.refl a)
 rw[h2,h3,←h1,h2]
theorem LA {out l:List (List Int)} (hi:Dl out=true) (hm: ∀u,u∈out↔u∈l):I7 l=out:=
 Hp (KR l) hi λu=>setL_mem.trans (hm u).symm
end T
set_option linter.unusedVariables false
open Go Go.Va
namespace T
def EM (a0:List (List Int)):Option (List (List Int)):=
 if List.length a0<=lim/\List.all a0 (λx=>decide (List.length x<=lim))=true then some (Zx a0)else none
end T
open Go Go.Va
namespace T
structure TupS (n:Int) (k:Nat) (ts:List (List Int)):Prop where
 hn:1<=n/\n<=8
 hk:1<=k/\k<=4
 len: ∀t∈ts,t.length=k
 el: ∀t∈ts,Ay n t=true
 inc:Dl ts=true
theorem TupS.count {n:Int} {k:Nat} {ts:List (List Int)} (h:TupS n k ts):ts.length<=4096:=by
 rcases GQ (n:=n) (k:=k) h.inc λt ht=>⟨h.len t ht,h.el t ht⟩with h'|h'
 ·have hp:=h.hn
  have e:n^k<=8^4:=by
   have:(n.toNat^k:Nat)<=8^4:=Nat.le_trans (Nat.pow_le_pow_left (show n.toNat<=8 by omega) k) (Nat.pow_le_pow_right (by omega) h.hk.2)
   have e2:((n.toNat^k:Nat):Int)=n^k:=by
    rw[Int.natCast_pow];congr 1;omega
   rw[←e2];exact_mod_cast this
  have:(8:Int)^4=4096:=by decide
  omega
 ·rw[h'];simp
section
variable {n:Int} {k:Nat} {ts:List (List Int)}
def Lu (ts:List (List Int)) (i j:Nat):List Int:=(ts.getD j []).take i
def LI (ts:List (List Int)) (i j:Nat):Int:=(ts.getD j []).getD i 0
theorem TupS.le (h:TupS n k ts) {a b:Nat} (hab:a<=b) (hb:b<ts.length):cmpL (ts.getD a []) (ts.getD b [])<=0:=by
 rcases Nat.lt_or_ge a b with hlt|hge
 ·have:=EY h.inc a b hlt hb
  rw[Ab hb,Ab (show a<ts.length by omega)];omega
 ·have:a=b:=by omega
  subst this;rw[cmpL_refl];omega
end
end T
open Go Go.Va
namespace T
section
variable {n:Int} {k:Nat} {ts:List (List Int)}
def LL (ts:List (List Int)) (i:Nat) (x y:Int) (a b:Nat):Bool:=LI ts i a==x&&(LI ts i b==y&&decide (Lu ts i a=Lu ts i b))
def bO (ts:List (List Int)) (i:Nat) (x y:Int) (a:Nat):Option Nat:=(List.range ts.length).find? (LL ts i x y a)
def KK (ts:List (List Int)) (i:Nat) (x y:Int):Option (Nat×Nat):=(List.range ts.length).findSome? λa=>(bO ts i x y a).map λb=>(a,b)
theorem I1 {i:Nat} {x y:Int} {a b:Nat} (h:KK ts i x y=some (a,b)):a<ts.length/\b<ts.length/\LI ts i a=x/\LI ts i b=y/\Lu ts i a=Lu ts i b:=by
 unfold KK at h
 obtain⟨a',ha,h⟩:=List.exists_of_findSome?_eq_some h
 obtain⟨b',hb,h⟩:=Option.map_eq_some_iff.1 h
 obtain⟨rfl,rfl⟩:=Prod.mk.inj h
 have h1:=List.find?_some hb
 have h2:=List.mem_of_find?_eq_some hb
 unfold LL at h1
 simp only[Bool.and_eq_true,beq_iff_eq,decide_eq_true_eq]at h1
 exact⟨List.mem_range.1 ha,List.mem_range.1 h2,h1.1,h1.2.1,h1.2.2⟩
theorem Lw {out list:List (List Int)} {t:List Int} (h1:Dl out=true) (h0:Dl list=true) (h2: ∀u,u∈out↔u=t∨u∈list) (h3:t∉list->out.Perm (t::list)):out.length<=list.length+1:=by
 by_cases hm:t∈list
 ·have:out=list:=Hp h1 h0 λu=>(h2 u).trans ⟨λh=>h.elim (λh=>h▸hm) id,Or.inr⟩
  rw[this];omega
 ·rw[(h3 hm).length_eq];simp
end
end T
set_option linter.unusedVariables false
open Go Go.Va
namespace T
def DO (list:List (List Int)):Option ((List (List Int))):=
 (BT list).bind λr1=>
 (An r1 ()).bind λr2=>
 some r2
def DN (arity:Int) (tuples:List (List Int)):Option ((Int×(List (List Int)))):=
 (DO tuples).bind λr1=>
 (EM r1).bind λr2=>
 some (arity,r2)
end T
open Go Go.Va
namespace T
theorem JZ {l:List (List Int)} (hl:l.length<=100000) (hr: ∀r∈l,r.length<=100000):DO l=some (Zn cmpL l):=by
 unfold DO
 rw[Ey hl hr]
 have:An l ()=some (Zn cmpL l):=by
  unfold An
  rw[if_pos]
  refine⟨by unfold lim;omega,?_⟩
  rw[List.all_eq_true]
  intro r h
  rw[decide_eq_true_iff]
  have:=hr r h;unfold lim;omega
 simp only[Option.bind_some,this]
theorem H4 {l:List (List Int)} (hl:l.length<=100000) (hr: ∀r∈l,r.length<=100000):EM l=some (Zx l):=by
 unfold EM
 rw[if_pos]
 refine⟨by unfold lim;omega,?_⟩
 rw[List.all_eq_true]
 intro r h
 rw[decide_eq_true_iff]
 have:=hr r h;unfold lim;omega
theorem IZ {ar:Int} {l:List (List Int)} (hl:l.length<=100000) (hr: ∀r∈l,r.length<=100000):DN ar l=some (ar,I7 l):=by
 have hp:=DH l
 unfold DN
 rw[JZ hl hr]
 simp only[Option.bind_some]
 rw[H4 (by rw[hp.length_eq];exact hl) λr h=>hr r (hp.mem_iff.1 h)]
 rfl
end T
set_option linter.unusedVariables false
open Go Go.Va
namespace T
def CU (list:List (List Int)) (t:List Int):Option ((List (List Int))):=
 (Cd list t).bind λr1=>
 if r1.2 then
 some list
 else
 if(0:Int)<=0/\0<=r1.1/\r1.1<=(list.length:Int)then
 if([]:List (List Int)).length+((list.take (Int.toNat r1.1)).drop (Int.toNat 0)).length<=lim then
 if([]++((list.take (Int.toNat r1.1)).drop (Int.toNat 0))).length+ [t].length<=lim then
 if(0:Int)<=r1.1/\r1.1<=(list.length:Int)/\(list.length:Int)<=(list.length:Int)then
 if(([]++((list.take (Int.toNat r1.1)).drop (Int.toNat 0)))++ [t]).length+((list.take (Int.toNat (list.length:Int))).drop (Int.toNat r1.1)).length<=lim then
 some ((([]++((list.take (Int.toNat r1.1)).drop (Int.toNat 0)))++ [t])++((list.take (Int.toNat (list.length:Int))).drop (Int.toNat r1.1)))
 else none
 else none
 else none
 else none
 else none
end T
open Go Go.Va
namespace T
def rowsB (R W:Nat) (l:List (List Int)):Prop:=l.length<=R/\ ∀r∈l,r.length<=W
theorem rowsB.mono {R W R' W':Nat} {l:List (List Int)} (h:rowsB R W l) (h1:R<=R') (h2:W<=W'):rowsB R' W' l:=⟨by have:=h.1;omega,λr hr=>by have:=h.2 r hr;omega⟩
theorem rowsB.app {R W:Nat} {l:List (List Int)} {t:List Int} (h:rowsB R W l) (ht:t.length<=W):rowsB (R+1) W (l++ [t]):=⟨by rw[List.length_append,List.length_singleton];have:=h.1;omega,λr hr=>by
 rcases List.mem_append.1 hr with hr|hr
 ·exact h.2 r hr
 ·rw[List.mem_singleton.1 hr];exact ht⟩
theorem LM:CU=D5:=rfl
end T
open Go Go.Va
namespace T
section
variable {n k m:Nat} {r:HA} {rels:List HA} {given t:List Int}
theorem Ld {b:Nat}: ∀(k:Nat) (ys:List Nat),ys.length=k->(∀y∈ys,y<b)-> ∃i,i<b^k/\dg b k i=ys:=by
 intro k
 induction k with
 |zero=>intro ys hl _;exact⟨0,by simp,by rw[List.eq_nil_of_length_eq_zero hl];rfl⟩
 |succ k ih=>
  intro ys hl hy
  obtain⟨z,y,rfl⟩: ∃z y,ys=z++ [y]:=⟨ys.dropLast,ys.getLast (by intro e;rw[e]at hl;simp at hl),(List.dropLast_concat_getLast _).symm⟩
  have hyb:=hy y (by simp)
  obtain⟨i,h1,h2⟩:=ih z (by simpa using hl) λx hx=>hy x (by simp[hx])
  refine⟨i*b+y,?_,?_⟩
  ·rw[Nat.pow_succ]
   calc i*b+y<i*b+b:=by omega
    _=(i+1)*b:=by rw[Nat.succ_mul]
    _<=b^k*b:=Nat.mul_le_mul_right _ h1
  ·simp only[dg]
   have e1:(i*b+y)/b=i:=by rw[Nat.mul_comm,Nat.mul_add_div (by omega),Nat.div_eq_of_lt hyb];omega
   have e2:(i*b+y)%b=y:=by rw[Nat.mul_comm,Nat.mul_add_mod,Nat.mod_eq_of_lt hyb]
   rw[e1,e2,h2]
end
end T
open Go Go.Va
namespace T
section
variable {n:Nat} {t:List Int}
def Lb (n:Nat) (t:List Int) (x y:Nat):Nat:=(t.getD (x*n+y) 0).toNat
structure TabOk (n:Nat) (t:List Int):Prop where
 hn:1<=n/\n<=4
 len:t.length=n*n
 val: ∀x∈t,0<=x/\x<(n:Int)
theorem ix2 (hn:n<=4) {x y:Nat} (hx:x<n) (hy:y<n):w64 (w64 ((x:Int)*(n:Int))+(y:Int))=((x*n+y:Nat):Int)/\x*n+y<n*n:=by
 have h1:x*n+y<n*n:=by
  calc x*n+y<x*n+n:=by omega
   _=(x+1)*n:=by rw[Nat.succ_mul]
   _<=n*n:=Nat.mul_le_mul_right _ hx
 have h2:n*n<=4*4:=Nat.mul_le_mul hn hn
 have e:(x:Int)*(n:Int)=((x*n:Nat):Int):=by simp
 have a1:w64 ((x*n:Nat):Int)=((x*n:Nat):Int):=Ao (by omega) (by omega)
 rw[e,a1,Ao (by omega) (by omega)]
 exact⟨by omega,h1⟩
theorem TabOk.at (h:TabOk n t) {x y:Nat} (hx:x<n) (hy:y<n):w64 (w64 ((x:Int)*(n:Int))+(y:Int))=((x*n+y:Nat):Int)/\inb ((x*n+y:Nat):Int) t/\gd t ((x*n+y:Nat):Int) 0=((Lb n t x y:Nat):Int)/\Lb n t x y<n:=by
 obtain⟨h1,h2⟩:=ix2 h.hn.2 hx hy
 have hl:x*n+y<t.length:=by rw[h.len];exact h2
 have hv:=h.val _ (List.getElem_mem hl)
 refine⟨h1,by rw[Ae];exact hl,?_,?_⟩
 ·rw[Ak hl];unfold Lb;rw[Ab hl];omega
 ·unfold Lb;rw[Ab hl];omega
end
end T
set_option linter.unusedVariables false
open Go Go.Va
namespace T
def Fe (n_:Int) (r:Int×(List (List Int))):Option (Bool):=
 (DI n_).bind λr1=>
 if r1 then
 (Eo n_ (r.1,r.2)).bind λr2=>
 some r2
 else
 some false
end T
open Go Go.Va
namespace T
def conD (W:Nat) (c:Con):Prop:=c.1.length<=W/\rowsB 601 3 c.2.2
theorem conD.mono {W W':Nat} {c:Con} (h:W<=W'):conD W c->conD W' c:=λ⟨a,b⟩=>⟨by omega,b⟩
end T
open Go Go.Va
namespace T
section
variable {a:Net} {K:Nat} {c:Con} {i p n:Nat} {st:ASt}
def K3 (d:Dom) (V:Nat) (t:List Int):Prop:= ∀u,u<V->d2 d u (t.getD u 0).toNat=true
end
end T
open Go Go.Va
namespace T
section
variable {a:Net} {n s:Nat} {t:T4} {u:T3}
def Mb (a:Net) (i j k x y z:Nat):Prop:= ∀c∈a.2.2,(∀v∈c.1,v=(i:Int)∨v=(j:Int)∨v=(k:Int))-> ∀vs:List Int,LH vs (i:Int)=(x:Int)->LH vs (j:Int)=(y:Int)->LH vs (k:Int)=(z:Int)->Md vs c=true
structure Fam (a:Net) (n s:Nat) (S:Nat->Nat->Nat->Nat->Prop):Prop where
 sym: ∀i j x y,S i j x y->S j i y x
 first: ∀i j x y,i<j->j<n->x<s->y<s->S i j x y->fB a n i j x y=true
 path: ∀i j k x y,i<n->j<n->k<n->i≠j->k≠i->k≠j->x<s->y<s->S i j x y-> ∃z,z<s/\S i k x z/\S j k y z/\Mb a i j k x y z
structure MinP (a:Net) (n s:Nat) (t:T4) (u:T3):Prop where
 rel:Rel34 n s t u
 sym: ∀i j x y,i<n->j<n->i≠j->x<s->y<s->r4 t i j x y=r4 t j i y x
 first: ∀i j x y,i<n->j<n->i≠j->x<s->y<s->r4 t i j x y=true->fB a n i j x y=true
 path: ∀i j k x y,i<n->j<n->k<n->i≠j->k≠i->k≠j->x<s->y<s->r4 t i j x y=true-> ∃z,z<s/\r4 t i k x z=true/\r4 t j k y z=true/\Mb a i j k x y z
 all: ∀S,Fam a n s S-> ∀i j x y,i<n->j<n->i≠j->x<s->y<s->S i j x y->r4 t i j x y=true
end
end T
open Go Go.Va
namespace T
section
variable {a:Net} {n s:Nat} {t:T4} {u:T3} {F:Nat->Nat->Nat->Nat}
theorem F8 (hM:MinP a n s t u) {w w' v x y:Nat} (hw:w<n) (hw':w'<n) (hv:v<n) (h1:w≠w') (h2:w≠v) (h3:w'≠v) (hx:x<s) (hy:y<s) (h:r4 t w' v y x=true): ∃z,z<s/\r4 t w v z x=true:=by
 obtain⟨z,hz,_,q,_⟩:=hM.path w' v w y x hw' hv hw h3 h1 h2 hy hx h
 exact⟨z,hz,by rw[hM.sym w v z x hw hv h2 hz hx];exact q⟩
theorem Mt (p q:Nat): ∃w,w<3/\w≠p/\w≠q:=by
 by_cases h0:0≠p/\0≠q
 ·exact⟨0,by omega,h0.1,h0.2⟩
 ·by_cases h1:1≠p/\1≠q
  ·exact⟨1,by omega,h1.1,h1.2⟩
  ·exact⟨2,by omega,by omega,by omega⟩
end
end T
set_option linter.unusedVariables false
open Go Go.Va
namespace T
def EV:Nat->((Int×(List (Int×(List Int))))×Int×Int)->Option (Int)
 |0,_=>none
 |n+1,(a,most,k)=>
 if decide (k<(a.2.length:Int))then
 if inb k a.2 then
 (G1 most ((gd a.2 k (0,[])).1)).bind λr1=>
 EV n ((a.1,a.2),r1,w64 (k+1))
 else none
 else
 some most
def E2 (a:Int×(List (Int×(List Int)))):Option (Int):=
 (EV Aa ((a.1,a.2),0,0)).bind λs1=>
 if s1==3 then
 some 40
 else
 if s1==2 then
 some 200
 else
 some 300
def Cm:Nat->((List (List Int))×(List Int)×(List (List Int))×Int)->Option ((List (List Int))×(List (List Int)))
 |0,_=>none
 |n+1,(line,numbers,out,i)=>
 if decide (i<(numbers.length:Int))then
 if inb i numbers then
 if inb (gd numbers i 0) line then
 if out.length+ [gd line (gd numbers i 0) []].length<=lim then
 Cm n (line,numbers,out++ [gd line (gd numbers i 0) []],w64 (i+1))
 else none
 else none
 else none
 else
 some (line,out)
def DC (line:List (List Int)) (numbers:List Int):Option ((List (List Int))×(List (List Int))):=
 (Cm Aa (line,numbers,[],0)).bind λs1=>
 some (s1.1,s1.2)
def FF:Nat->(Int×(List (List Int))×(Int×(List (Int×(List Int))))×(List (List Int))×(List (List Int))×Int×(List (List Int))×Int)->Option (Int×(Int×(List (Int×(List Int))))×(List (List Int))×(List (List Int))×Int×(List (List Int)))
 |0,_=>none
 |n+1,(t1,t2,t3,t8,t9,t10,t11,t12)=>
 if decide (t12<(t2.length:Int))then
 if inb t12 t2 then
 (De (gd t2 t12 [])).bind λr2=>
 if t11.length+ [r2].length<=lim then
 FF n (t1,t2,(t3.1,t3.2),t8,t9,t10,t11++ [r2],w64 (t12+1))
 else none
 else none
 else
 some (t1,(t3.1,t3.2),t8,t9,t10,t11)
def Ev:Nat->(Int×(Int×(List (Int×(List Int))))×(List (List Int))×(List (List Int))×Int×(List (List Int))×Int)->Option (Int×(Int×(List (Int×(List Int))))×(List (List Int))×(List (List Int))×Int×(List (List Int)))
 |0,_=>none
 |n+1,(t1,t3,t8,t9,t10,t11,t13)=>
 if decide (t13<(t3.2.length:Int))then
 if inb t13 t3.2 then
 if((gd t3.2 t13 (0,[])).1)==0 then
 (Do (t3.1,t3.2) t13 [] t1).bind λr4=>
 if t11.length+ [r4].length<=lim then
 Ev n (t1,(t3.1,t3.2),t8,t9,t10,t11++ [r4],w64 (t13+1))
 else none
 else
 Ev n (t1,(t3.1,t3.2),t8,t9,t10,t11,w64 (t13+1))
 else none
 else
 some (t1,(t3.1,t3.2),t8,t9,t10,t11)
def D4:Nat->(Int×(Int×(List (Int×(List Int))))×(List (List Int))×(List (List Int))×Int×(List (List Int))×Int)->Option (Int×(Int×(List (Int×(List Int))))×(List (List Int))×(List (List Int))×Int)
 |0,_=>none
 |n+1,(t1,t3,t8,t9,t10,t11,t14)=>
 if decide (t14<(t11.length:Int))then
 if inb t14 t11 then
 (Cd t8 (gd t11 t14 [])).bind λr6=>
 if !r6.2 then
 if inb t14 t11 then
 (CU t8 (gd t11 t14 [])).bind λr7=>
 if inb t14 t11 then
 if t9.length+ [gd t11 t14 []].length<=lim then
 D4 n (t1,(t3.1,t3.2),r7,t9++ [gd t11 t14 []],t10,t11,w64 (t14+1))
 else none
 else none
 else none
 else
 D4 n (t1,(t3.1,t3.2),t8,t9,t10,t11,w64 (t14+1))
 else none
 else
 some (t1,(t3.1,t3.2),t8,t9,t10)
def Dp:Nat->(Int×(Int×(List (Int×(List Int))))×(List (List Int))×(List (List Int))×Int×Int×Int×(List Int)×Bool)->Option (Int×(Int×(List (Int×(List Int))))×(List (List Int))×(List (List Int))×Int×Int×Int)
 |0,_=>none
 |n+1,(t1,t3,t8,t9,t10,t17,t18,t19,t20)=>
 if t20 then
 if decide ((t9.length:Int)<=t10)then
 (EP t19 t17).bind λr9=>
 if r9 then
 (DC t9 t19).bind λr10=>
 (Do (t3.1,t3.2) t18 r10.2 t1).bind λr11=>
 (Cd t8 r11).bind λr12=>
 if !r12.2 then
 (CU t8 r11).bind λr13=>
 if r10.1.length+ [r11].length<=lim then
 (CS t19 (w64 (t17+1))).bind λr14=>
 Dp n (t1,(t3.1,t3.2),r13,r10.1++ [r11],t10,t17,t18,r14.1,r14.2)
 else none
 else
 (CS t19 (w64 (t17+1))).bind λr15=>
 Dp n (t1,(t3.1,t3.2),t8,r10.1,t10,t17,t18,r15.1,r15.2)
 else
 (CS t19 (w64 (t17+1))).bind λr16=>
 Dp n (t1,(t3.1,t3.2),t8,t9,t10,t17,t18,r16.1,r16.2)
 else
 some (t1,(t3.1,t3.2),t8,t9,t10,t17,t18)
 else
 some (t1,(t3.1,t3.2),t8,t9,t10,t17,t18)
def Fq:Nat->(Int×(Int×(List (Int×(List Int))))×(List (List Int))×(List (List Int))×Int×Int×Int)->Option (Int×(Int×(List (Int×(List Int))))×(List (List Int))×(List (List Int))×Int×Int)
 |0,_=>none
 |n+1,(t1,t3,t8,t9,t10,t17,t18)=>
 if decide (t18<(t3.2.length:Int))then
 if inb t18 t3.2 then
 if 0<=((gd t3.2 t18 (0,[])).1)/\((gd t3.2 t18 (0,[])).1)<=((gd t3.2 t18 (0,[])).1)/\((gd t3.2 t18 (0,[])).1)<=lim then
 if inb t18 t3.2 then
 (Dp Aa (t1,(t3.1,t3.2),t8,t9,t10,t17,t18,List.replicate (Int.toNat ((gd t3.2 t18 (0,[])).1)) (0:Int),decide (((gd t3.2 t18 (0,[])).1)>0))).bind λs9=>
 Fq n (s9.1,(s9.2.1.1,s9.2.1.2),s9.2.2.1,s9.2.2.2.1,s9.2.2.2.2.1,s9.2.2.2.2.2.1,w64 (s9.2.2.2.2.2.2+1))
 else none
 else none
 else none
 else
 some (t1,(t3.1,t3.2),t8,t9,t10,t17)
def Fo:Nat->(Int×(Int×(List (Int×(List Int))))×(List (List Int))×(List (List Int))×Int×Int)->Option ((List (List Int))×Int)
 |0,_=>none
 |n+1,(t1,t3,t8,t9,t10,t17)=>
 if decide (t17<(t9.length:Int))then
 if decide ((t9.length:Int)<=t10)then
 (Fq Aa (t1,(t3.1,t3.2),t8,t9,t10,t17,0)).bind λs9=>
 Fo n (s9.1,(s9.2.1.1,s9.2.1.2),s9.2.2.1,s9.2.2.2.1,s9.2.2.2.2.1,w64 (s9.2.2.2.2.2+1))
 else
 some (t8,t10)
 else
 some (t8,t10)
def LC (t0:Int×(List (Int×(List Int)))) (t1:Int) (t2:List (List Int)):Option ((List (List Int))×Bool):=
 (E2 (t0.1,t0.2)).bind λr1=>
 (FF Aa (t1,t2,(t0.1,t0.2),[],[],r1,[],0)).bind λs2=>
 (Ev Aa (s2.1,(s2.2.1.1,s2.2.1.2),s2.2.2.1,s2.2.2.2.1,s2.2.2.2.2.1,s2.2.2.2.2.2,0)).bind λs3=>
 (D4 Aa (s3.1,(s3.2.1.1,s3.2.1.2),s3.2.2.1,s3.2.2.2.1,s3.2.2.2.2.1,s3.2.2.2.2.2,0)).bind λs4=>
 (Fo Aa (s4.1,(s4.2.1.1,s4.2.1.2),s4.2.2.1,s4.2.2.2.1,s4.2.2.2.2,0)).bind λs5=>
 some (s5.1,decide ((s5.1.length:Int)<=s5.2))
end T
open Go Go.Va
namespace T
def Ex (n k:Nat) (T:List Int) (x y z:List Int):List Int:=(List.range k).map λj=>T.getD (((x.getD j 0).toNat*n+(y.getD j 0).toNat)*n+(z.getD j 0).toNat) 0
structure T3Ok (n k:Nat) (T:List Int):Prop where
 hn:1<=n/\n<=8
 hk:1<=k/\k<=4
 tl:T.length=n*n*n
 tv: ∀x∈T,0<=x/\x<(n:Int)
def TpOk (n k:Nat) (t:List Int):Prop:=t.length=k/\ ∀x∈t,0<=x/\x<(n:Int)
inductive Clo (n k:Nat) (T:List Int) (gens:List (List Int)):List Int->Prop
 |gen {t:List Int}:t∈gens->Clo n k T gens t
 |app {x y z:List Int}:Clo n k T gens x->Clo n k T gens y->Clo n k T gens z->Clo n k T gens (Ex n k T x y z)
section
variable {n k:Nat} {T:List Int} {gens:List (List Int)}
theorem TpOk.get {t:List Int} (h:TpOk n k t) {j:Nat} (hj:j<k):(t.getD j 0).toNat<n/\t.getD j 0=(((t.getD j 0).toNat:Nat):Int)/\j<t.length:=by
 have h1:j<t.length:=by have:=h.1;omega
 have:=h.2 _ (List.getElem_mem h1)
 rw[Ab h1]
 exact⟨by omega,by omega,h1⟩
theorem Im {a b c:Nat} (ha:a<n) (hb:b<n) (hc:c<n):(a*n+b)*n+c<n*n*n:=by
 have h1:(a+1)*n<=n*n:=Nat.mul_le_mul_right _ ha
 have h2:(a*n+b+1)*n<=n*n*n:=Nat.mul_le_mul_right _ (by rw[Nat.succ_mul]at h1;omega)
 rw[Nat.succ_mul]at h2;omega
theorem Gr (h:T3Ok n k T) {x y z:List Int} (hx:TpOk n k x) (hy:TpOk n k y) (hz:TpOk n k z):TpOk n k (Ex n k T x y z):=by
 refine⟨by simp[Ex],λv hv=>?_⟩
 obtain⟨j,hj,rfl⟩:=List.mem_map.1 hv
 have hj:=List.mem_range.1 hj
 have:=Im (hx.get hj).1 (hy.get hj).1 (hz.get hj).1
 rw[←h.tl]at this
 rw[Ab this]
 exact h.tv _ (List.getElem_mem _)
theorem Clo.ok (h:T3Ok n k T) (hg: ∀t∈gens,TpOk n k t) {t:List Int} (c:Clo n k T gens t):TpOk n k t:=by
 induction c with
 |gen h=>exact hg _ h
 |app _ _ _ i1 i2 i3=>exact Gr h i1 i2 i3
structure CloL (n k:Nat) (T:List Int) (gens L:List (List Int)):Prop where
 nd:L.Nodup
 sub: ∀x∈L,Clo n k T gens x
def Closd (n k:Nat) (T:List Int) (L:List (List Int)):Prop:= ∀x∈L,∀y∈L,∀z∈L,Ex n k T x y z∈L
theorem Closd.mem {L:List (List Int)} (hg: ∀t∈gens,t∈L) (hc:Closd n k T L) {t:List Int} (c:Clo n k T gens t):t∈L:=by
 induction c with
 |gen h=>exact hg _ h
 |app _ _ _ i1 i2 i3=>exact hc _ i1 _ i2 _ i3
structure GenL (n k:Nat) (T:List Int) (gens L:List (List Int)):Prop where
 cl:CloL n k T gens L
 le:L.length<=41
 gs: ∀t∈gens,t∈L
 all:L.length<=40->Closd n k T L
def DU (L:List (List Int)) (t:List Int):List (List Int):=if t∈L then L else L++ [t]
theorem addL_pre {L:List (List Int)} {t:List Int}:L<+:DU L t:=by
 unfold DU;split
 ·exact List.prefix_refl L
 ·exact List.prefix_append L [t]
theorem He {L:List (List Int)} {t:List Int}:t∈DU L t:=by
 unfold DU;split
 ·assumption
 ·simp
theorem K7 {L:List (List Int)} {t u:List Int} (h:u∈DU L t):u∈L∨u=t:=by
 unfold DU at h;split at h
 ·exact .inl h
 ·simpa using h
theorem HX {L:List (List Int)} {t:List Int}:(DU L t).length<=L.length+1:=by
 unfold DU;split<;>simp
theorem HW {L:List (List Int)} {t:List Int} (h:CloL n k T gens L) (ht:Clo n k T gens t):CloL n k T gens (DU L t):=by
 refine⟨?_,λx hx=>(K7 hx).elim (h.sub x) λe=>e▸ht⟩
 unfold DU;split
 ·exact h.nd
 ·rename_i hm
  rw[List.nodup_append]
  refine⟨h.nd,by simp,λa ha b hb=>?_⟩
  rw[List.mem_singleton.1 hb];exact λe=>hm (e▸ha)
theorem Jc (hn:n<=8) {x v:Nat} (hx:x<=512) (hv:v<n):w64 (w64 ((x:Int)*(n:Int))+(v:Int))=((x*n+v:Nat):Int):=by
 have h1:x*n<=512*8:=Nat.mul_le_mul hx hn
 have e:(x:Int)*(n:Int)=((x*n:Nat):Int):=by push_cast;rfl
 rw[e,Ao (x:=((x*n:Nat):Int)) (by omega) (by omega),Ao (by omega) (by omega)]
 push_cast;rfl
theorem Ms (hn:n<=8) {a b:Nat} (ha:a<n) (hb:b<n):a*n+b<=512:=by
 have:a*n<=8*8:=Nat.mul_le_mul (by omega) hn
 omega
theorem L9 (h:T3Ok n k T) {x y z:List Int} (hx:TpOk n k x) (hy:TpOk n k y) (hz:TpOk n k z) {j:Nat} (hj:j<k) (out:List Int):
  DB Aa (0,[x,y,z],(k:Int),((n:Int),[(3,T)]),out,(j:Int),0,0)=some (0,[x,y,z],(k:Int),((n:Int),[(3,T)]),out,(j:Int),((((x.getD j 0).toNat*n+(y.getD j 0).toNat)*n+(z.getD j 0).toNat:Nat):Int)):=by
 obtain⟨x1,x2,x3⟩:=hx.get hj
 obtain⟨y1,y2,y3⟩:=hy.get hj
 obtain⟨z1,z2,z3⟩:=hz.get hj
 obtain⟨f,hf⟩: ∃f,Aa=f+4:=⟨Aa-4,rfl⟩
 have g0:gd [x,y,z] 0 []=x:=rfl
 have g1:gd [x,y,z] 1 []=y:=rfl
 have g2:gd [x,y,z] 2 []=z:=rfl
 have i0:inb 0 [x,y,z]:=by unfold inb;simp
 have i1:inb 1 [x,y,z]:=by unfold inb;simp
 have i2:inb 2 [x,y,z]:=by unfold inb;simp
 have w0:w64 (0+1)=1:=by decide
 have w1:w64 (1+1)=2:=by decide
 have w2:w64 (2+1)=3:=by decide
 have s0:w64 (w64 (0*(n:Int))+x.getD j 0)=(((x.getD j 0).toNat:Nat):Int):=by
  have:=Jc h.hn.2 (x:=0) (by omega) x1
  rw[←x2]at this
  have e:((0*n+(x.getD j 0).toNat:Nat):Int)=(((x.getD j 0).toNat:Nat):Int):=by rw[Nat.zero_mul,Nat.zero_add]
  rw[e]at this;exact this
 have s1:w64 (w64 ((((x.getD j 0).toNat:Nat):Int)*(n:Int))+y.getD j 0)=(((x.getD j 0).toNat*n+(y.getD j 0).toNat:Nat):Int):=by
  have:=Jc h.hn.2 (x:=(x.getD j 0).toNat) (by have:=h.hn;omega) y1
  rw[←y2]at this;exact this
 have s2:w64 (w64 ((((x.getD j 0).toNat*n+(y.getD j 0).toNat:Nat):Int)*(n:Int))+z.getD j 0)=((((x.getD j 0).toNat*n+(y.getD j 0).toNat)*n+(z.getD j 0).toNat:Nat):Int):=by
  have:=Jc h.hn.2 (x:=(x.getD j 0).toNat*n+(y.getD j 0).toNat) (Ms h.hn.2 x1 y1) z1
  rw[←z2]at this;exact this
 have hl:(([x,y,z].length:Nat):Int)=3:=rfl
 rw[hf]
 simp only[DB,hl,g0,g1,g2,i0,i1,i2,w0,w1,w2,Ae,x3,y3,z3,Co,s0,s1,s2,if_true,show decide ((0:Int)<3)=true from rfl,show decide ((1:Int)<3)=true from rfl,show decide ((2:Int)<3)=true from rfl,show decide ((3:Int)<3)=false from rfl,Bool.false_eq_true,if_false]
theorem Fl (h:T3Ok n k T) {x y z:List Int} (hx:TpOk n k x) (hy:TpOk n k y) (hz:TpOk n k z):
  Do ((n:Int),[(3,T)]) 0 [x,y,z] (k:Int)=some (Ex n k T x y z):=by
 have hk:=h.hk
 unfold Do
 have:=BL k (λf v i=>Cs f (0,[x,y,z],(k:Int),((n:Int),[(3,T)]),v,i)) (λq=>(List.range q).map (λj=>T.getD (((x.getD j 0).toNat*n+(y.getD j 0).toNat)*n+(z.getD j 0).toNat) 0))
  (r:=some (Ex n k T x y z)) (λf j hj=>?_) (λf=>?_) (n:=Aa) (by unfold Aa;omega)
 ·have this:Cs Aa (0,[x,y,z],(k:Int),((n:Int),[(3,T)]),[],0)=_:=this
  dsimp only
  rw[this];rfl
 ·have h7:=L9 h hx hy hz hj ((List.range j).map (λj=>T.getD (((x.getD j 0).toNat*n+(y.getD j 0).toNat)*n+(z.getD j 0).toNat) 0))
  have:=Im (hx.get hj).1 (hy.get hj).1 (hz.get hj).1
  rw[←h.tl]at this
  have i0:inb 0 [((3:Int),T)]:=by unfold inb;simp
  have g0:gd [((3:Int),T)] 0 (0,[])=(3,T):=rfl
  simp only[Cs,h7,Option.bind_some,i0,g0,if_true,Ae,this,Co,Ac (show j<4611686018427387904 by omega),List.range_succ,List.map_append,List.map_cons,List.map_nil]
  rw[if_pos (by simp;omega),if_pos (by simp;unfold lim;omega)]
 ·simp only[Cs]
  rw[if_neg (by simp)];rfl
end
end T
open Go Go.Va
namespace T
section
variable {n k:Nat} {T:List Int} {gens:List (List Int)}
structure SpOk (n k:Nat) (T:List Int) (gens L:List (List Int)):Prop where
 cl:CloL n k T gens L
 le:L.length<=41
def K8 (n k:Nat) (T:List Int) (p:List (List Int)):List Int:=Ex n k T (p.getD 0 []) (p.getD 1 []) (p.getD 2 [])
def Need (n k:Nat) (T:List Int) (L0:List (List Int)) (old many:Nat):Nat->List (List Int)->Bool->List (List Int)->Prop
 |0,p,fr,M=>fr=true->K8 n k T p∈M
 |r+1,p,fr,M=> ∀i,i<many->Need n k T L0 old many r (p++ [L0.getD i []]) (fr||decide (old<=i)) M
theorem Need.mono {L0:List (List Int)} {old many:Nat}: ∀(r:Nat) (p:List (List Int)) (fr:Bool) {M M':List (List Int)},(∀t∈M,t∈M')->Need n k T L0 old many r p fr M->Need n k T L0 old many r p fr M'
 |0,p,fr,M,M',hs,h=>λe=>hs _ (h e)
 |r+1,p,fr,M,M',hs,h=>λi hi=>Need.mono r _ _ hs (h i hi)
theorem GC {L0 L:List (List Int)} (h:L0<+:L) {i:Nat} (hi:i<L0.length):L.getD i []=L0.getD i []:=by
 obtain⟨M,rfl⟩:=h
 rw[Ab (show i<(L0++M).length by simp;omega),Ab hi,List.getElem_append_left]
theorem KE {α:Type} {l:List α} (h:l.length=3): ∃x y z,l= [x,y,z]:=by
 match l,h with
 | [x,y,z],_=>exact⟨x,y,z,rfl⟩
end
end T
open Go Go.Va
namespace T
section
variable {n k:Nat} {T:List Int} {gens:List (List Int)}
def Fs (gens:List (List Int)):List (List Int):=gens.foldl DU []
theorem Kq {L:List (List Int)} {gs:List (List Int)} (h:CloL n k T gens L) (hg: ∀t∈gs,t∈gens):CloL n k T gens (gs.foldl DU L)/\(gs.foldl DU L).length<=L.length+gs.length/\L<+:gs.foldl DU L/\ ∀t∈gs,t∈gs.foldl DU L:=by
 induction gs generalizing L with
 |nil=>exact⟨h,Nat.le_refl _,List.prefix_refl L,by simp⟩
 |cons t gs ih=>
  obtain⟨h1,h2,h3,h4⟩:=ih (L:=DU L t) (HW h (.gen (hg t (by simp)))) λu hu=>hg u (List.mem_cons_of_mem _ hu)
  have h5:=HX (L:=L) (t:=t)
  refine⟨h1,by rw[List.foldl_cons,List.length_cons];omega,addL_pre.trans h3,λu hu=>?_⟩
  rcases List.mem_cons.1 hu with rfl|hu
  ·exact h3.subset He
  ·exact h4 u hu
theorem Jd (gs:List (List Int)) (hg: ∀t∈gs,t∈gens):CloL n k T gens (Fs gs)/\(Fs gs).length<=gs.length/\ ∀t∈gs,t∈Fs gs:=by
 obtain⟨h1,h2,_,h4⟩:=Kq (n:=n) (k:=k) (T:=T) (gens:=gens) (L:= []) (gs:=gs) ⟨by simp,by simp⟩ hg
 exact⟨h1,by simpa[Fs]using h2,h4⟩
theorem Jz {gs:List (List Int)} {i:Nat} (h:i<gs.length):Fs (gs.take (i+1))=DU (Fs (gs.take i)) gs[i]:=by
 unfold Fs;rw[List.take_succ_eq_append_getElem h,List.foldl_append];rfl
def HV (n k:Nat) (T:List Int) (old:Nat) (L M:List (List Int)):Prop:= ∀x y z,x<old->y<old->z<old->Ex n k T (L.getD x []) (L.getD y []) (L.getD z [])∈M
theorem JA {L:List (List Int)} (h:HV n k T L.length L L):Closd n k T L:=by
 intro x hx y hy z hz
 obtain⟨a,ha,rfl⟩:=List.mem_iff_getElem.1 hx
 obtain⟨b,hb,rfl⟩:=List.mem_iff_getElem.1 hy
 obtain⟨c,hc,rfl⟩:=List.mem_iff_getElem.1 hz
 have:=h a b c ha hb hc
 rwa [Ab ha,Ab hb,Ab hc]at this
end
end T
open Go Go.Va
namespace T
section
variable {n k:Nat} {T:List Int} {gens:List (List Int)}
theorem I9 (n:Int) (T:List Int):E2 (n,[(3,T)])=some 40:=by
 obtain⟨f,hf⟩: ∃f,Aa=f+2:=⟨Aa-2,rfl⟩
 have i0:inb 0 [((3:Int),T)]:=by unfold inb;simp
 have g0:gd [((3:Int),T)] 0 (0,[])=(3,T):=rfl
 have m0:G1 0 3=some 3:=by decide
 have w0:w64 (0+1)=1:=by decide
 unfold E2
 rw[hf]
 simp only[EV,List.length_singleton,i0,g0,m0,w0,if_true,Option.bind_some]
 simp
theorem GY {ts:List (List Int)} {ns:List Nat} (hl:ns.length<=1048576) (hv: ∀x∈ns,x<ts.length):DC ts (cI ns)=some (ts,ns.map λx=>ts.getD x []):=by
 unfold DC
 have:=BL ns.length (λf o i=>Cm f (ts,cI ns,o,i)) (λq=>(ns.take q).map λx=>ts.getD x []) (r:=some (ts,ns.map λx=>ts.getD x [])) (λf q hq=>?_) (λf=>?_) (n:=Aa) (by unfold Aa;omega)
 ·simp only[List.take_zero,List.map_nil]at this
  simp only[this,Option.bind_some]
 ·have hqc:q<(cI ns).length:=by rw[Dq];exact hq
  have hg:=HZ hq
  have hx:ns.getD q 0<ts.length:=by rw[Ab hq];exact hv _ (List.getElem_mem _)
  have e:(ns.take (q+1)).map (λx=>ts.getD x [])=(ns.take q).map (λx=>ts.getD x [])++ [ts.getD (ns.getD q 0) []]:=by
   rw[List.take_succ_eq_append_getElem hq,List.map_append,Ab hq];rfl
  rw[e]
  simp only[Cm,Dq,decide_eq_true (show(q:Int)<(ns.length:Int) by omega),if_true,Ae,hqc,hq,Co,hg,hx,Ac (show q<4611686018427387904 by omega)]
  rw[if_pos (by unfold lim;simp;omega)]
 ·simp only[Cm,Dq,List.take_length]
  rw[if_neg (by simp)]
theorem Ic (h:T3Ok n k T) {L:List (List Int)} {t:List Int} (hS:CloL n k T gens L) (hg: ∀t∈gens,TpOk n k t) (hl:L.length<=1000) (ht:TpOk n k t):
  ∃c:Int,Cd (Zn cmpL L) t=some (c,decide (t∈L))/\(t∉L->CU (Zn cmpL L) t=some (Zn cmpL (L++ [t]))):=by
 have hk:=h.hk
 have hp:=DH L
 have hL: ∀u∈L,u.length=k:=λu hu=>((hS.sub u hu).ok h hg).1
 obtain⟨c,e,_⟩:=EU (list:=Zn cmpL L) (t:=t) (k:=k) (by rw[hp.length_eq];omega) (by omega) (λu hu=>hL u (hp.mem_iff.1 hu)) ht.1 (Gg hS.nd)
 refine⟨c,?_,λhm=>?_⟩
 ·rw[e];simp only[hp.mem_iff]
 ·rw[LM];exact Ix (k:=k) (by omega) (by omega) hL ht.1 hS.nd hm
theorem Me {B a b c:Nat} (hb:b<B) (hc:c<B):dg B 3 ((a*B+b)*B+c)=if a<B then [a,b,c]else dg B 3 ((a*B+b)*B+c):=by
 split
 ·rename_i ha
  have hB:0<B:=by omega
  have e1:((a*B+b)*B+c)/B=a*B+b:=by rw[Nat.mul_comm,Nat.mul_add_div hB,Nat.div_eq_of_lt hc];omega
  have e2:(a*B+b)/B=a:=by rw[Nat.mul_comm,Nat.mul_add_div hB,Nat.div_eq_of_lt hb];omega
  have e3:((a*B+b)*B+c)%B=c:=by rw[Nat.mul_comm,Nat.mul_add_mod,Nat.mod_eq_of_lt hc]
  have e4:(a*B+b)%B=b:=by rw[Nat.mul_comm,Nat.mul_add_mod,Nat.mod_eq_of_lt hb]
  simp[dg,e1,e2,e3,e4,Nat.mod_eq_of_lt ha]
 ·rfl
end
end T
open Go Go.Va
namespace T
section
variable {n k:Nat} {T:List Int} {gens ts:List (List Int)}
theorem Kc {n k:Nat} {t:List Int} (h1:t.length=k) (h2:Ay (n:Int) t=true):TpOk n k t:=⟨h1,λx hx=>by
 unfold Ay at h2
 have:=List.all_eq_true.1 h2 x hx
 simpa using this⟩
end
end T
set_option linter.unusedVariables false
open Go Go.Va
namespace T
def B4:Nat->(Int×((List (List Int))×Int)×(Int×(List (Int×(List Int))))×(List (List Int))×(List (List Int))×Int×(List (List Int))×Int)->Option (Int×((List (List Int))×Int)×(Int×(List (Int×(List Int))))×(List (List Int))×(List (List Int))×Int×(List (List Int)))
 |0,_=>none
 |n+1,(t1,t2,t3,t8,t9,t10,t11,t12)=>
 if decide (t12<t2.2)then
 if 0<=t12/\t12<t2.2 then
 (De (gd t2.1 t12 [])).bind λr2=>
 if t11.length+ [r2].length<=lim then
 B4 n (t1,(t2.1,t2.2),(t3.1,t3.2),t8,t9,t10,t11++ [r2],w64 (t12+1))
 else none
 else none
 else
 some (t1,(t2.1,t2.2),(t3.1,t3.2),t8,t9,t10,t11)
def CA:Nat->(Int×((List (List Int))×Int)×(Int×(List (Int×(List Int))))×(List (List Int))×(List (List Int))×Int×(List (List Int))×Int)->Option (Int×((List (List Int))×Int)×(Int×(List (Int×(List Int))))×(List (List Int))×(List (List Int))×Int×(List (List Int)))
 |0,_=>none
 |n+1,(t1,t2,t3,t8,t9,t10,t11,t13)=>
 if decide (t13<(t3.2.length:Int))then
 if inb t13 t3.2 then
 if((gd t3.2 t13 (0,[])).1)==0 then
 (Do (t3.1,t3.2) t13 [] t1).bind λr4=>
 if t11.length+ [r4].length<=lim then
 CA n (t1,(t2.1,t2.2),(t3.1,t3.2),t8,t9,t10,t11++ [r4],w64 (t13+1))
 else none
 else
 CA n (t1,(t2.1,t2.2),(t3.1,t3.2),t8,t9,t10,t11,w64 (t13+1))
 else none
 else
 some (t1,(t2.1,t2.2),(t3.1,t3.2),t8,t9,t10,t11)
def Bn:Nat->(Int×((List (List Int))×Int)×(Int×(List (Int×(List Int))))×(List (List Int))×(List (List Int))×Int×(List (List Int))×Int)->Option (Int×((List (List Int))×Int)×(Int×(List (Int×(List Int))))×(List (List Int))×(List (List Int))×Int)
 |0,_=>none
 |n+1,(t1,t2,t3,t8,t9,t10,t11,t14)=>
 if decide (t14<(t11.length:Int))then
 if inb t14 t11 then
 (Cd t8 (gd t11 t14 [])).bind λr6=>
 if !r6.2 then
 if inb t14 t11 then
 (CU t8 (gd t11 t14 [])).bind λr7=>
 if inb t14 t11 then
 if t9.length+ [gd t11 t14 []].length<=lim then
 Bn n (t1,(t2.1,t2.2),(t3.1,t3.2),r7,t9++ [gd t11 t14 []],t10,t11,w64 (t14+1))
 else none
 else none
 else none
 else
 Bn n (t1,(t2.1,t2.2),(t3.1,t3.2),t8,t9,t10,t11,w64 (t14+1))
 else none
 else
 some (t1,(t2.1,t2.2),(t3.1,t3.2),t8,t9,t10)
def Aw:Nat->(Int×((List (List Int))×Int)×(Int×(List (Int×(List Int))))×(List (List Int))×(List (List Int))×Int×Int×Int×(List Int)×Bool)->Option (Int×((List (List Int))×Int)×(Int×(List (Int×(List Int))))×(List (List Int))×(List (List Int))×Int×Int×Int)
 |0,_=>none
 |n+1,(t1,t2,t3,t8,t9,t10,t17,t18,t19,t20)=>
 if t20 then
 if decide ((t9.length:Int)<=t10)then
 (EP t19 t17).bind λr9=>
 if r9 then
 (DC t9 t19).bind λr10=>
 (Do (t3.1,t3.2) t18 r10.2 t1).bind λr11=>
 (Cd t8 r11).bind λr12=>
 if !r12.2 then
 (CU t8 r11).bind λr13=>
 if r10.1.length+ [r11].length<=lim then
 (CS t19 (w64 (t17+1))).bind λr14=>
 Aw n (t1,(t2.1,t2.2),(t3.1,t3.2),r13,r10.1++ [r11],t10,t17,t18,r14.1,r14.2)
 else none
 else
 (CS t19 (w64 (t17+1))).bind λr15=>
 Aw n (t1,(t2.1,t2.2),(t3.1,t3.2),t8,r10.1,t10,t17,t18,r15.1,r15.2)
 else
 (CS t19 (w64 (t17+1))).bind λr16=>
 Aw n (t1,(t2.1,t2.2),(t3.1,t3.2),t8,t9,t10,t17,t18,r16.1,r16.2)
 else
 some (t1,(t2.1,t2.2),(t3.1,t3.2),t8,t9,t10,t17,t18)
 else
 some (t1,(t2.1,t2.2),(t3.1,t3.2),t8,t9,t10,t17,t18)
def BR:Nat->(Int×((List (List Int))×Int)×(Int×(List (Int×(List Int))))×(List (List Int))×(List (List Int))×Int×Int×Int)->Option (Int×((List (List Int))×Int)×(Int×(List (Int×(List Int))))×(List (List Int))×(List (List Int))×Int×Int)
 |0,_=>none
 |n+1,(t1,t2,t3,t8,t9,t10,t17,t18)=>
 if decide (t18<(t3.2.length:Int))then
 if inb t18 t3.2 then
 if 0<=((gd t3.2 t18 (0,[])).1)/\((gd t3.2 t18 (0,[])).1)<=((gd t3.2 t18 (0,[])).1)/\((gd t3.2 t18 (0,[])).1)<=lim then
 if inb t18 t3.2 then
 (Aw Aa (t1,(t2.1,t2.2),(t3.1,t3.2),t8,t9,t10,t17,t18,List.replicate (Int.toNat ((gd t3.2 t18 (0,[])).1)) (0:Int),decide (((gd t3.2 t18 (0,[])).1)>0))).bind λs9=>
 BR n (s9.1,(s9.2.1.1,s9.2.1.2),(s9.2.2.1.1,s9.2.2.1.2),s9.2.2.2.1,s9.2.2.2.2.1,s9.2.2.2.2.2.1,s9.2.2.2.2.2.2.1,w64 (s9.2.2.2.2.2.2.2+1))
 else none
 else none
 else none
 else
 some (t1,(t2.1,t2.2),(t3.1,t3.2),t8,t9,t10,t17)
def Bg:Nat->(Int×((List (List Int))×Int)×(Int×(List (Int×(List Int))))×(List (List Int))×(List (List Int))×Int×Int)->Option (((List (List Int))×Int)×(List (List Int))×Int)
 |0,_=>none
 |n+1,(t1,t2,t3,t8,t9,t10,t17)=>
 if decide (t17<(t9.length:Int))then
 if decide ((t9.length:Int)<=t10)then
 (BR Aa (t1,(t2.1,t2.2),(t3.1,t3.2),t8,t9,t10,t17,0)).bind λs9=>
 Bg n (s9.1,(s9.2.1.1,s9.2.1.2),(s9.2.2.1.1,s9.2.2.1.2),s9.2.2.2.1,s9.2.2.2.2.1,s9.2.2.2.2.2.1,w64 (s9.2.2.2.2.2.2+1))
 else
 some ((t2.1,t2.2),t8,t10)
 else
 some ((t2.1,t2.2),t8,t10)
def Cn (t0:Int×(List (Int×(List Int)))) (t1:Int) (t2:(List (List Int))×Int):Option ((List (List Int))×(List (List Int))×Bool):=
 (E2 (t0.1,t0.2)).bind λr1=>
 (B4 Aa (t1,(t2.1,t2.2),(t0.1,t0.2),[],[],r1,[],0)).bind λs2=>
 (CA Aa (s2.1,(s2.2.1.1,s2.2.1.2),(s2.2.2.1.1,s2.2.2.1.2),s2.2.2.2.1,s2.2.2.2.2.1,s2.2.2.2.2.2.1,s2.2.2.2.2.2.2,0)).bind λs3=>
 (Bn Aa (s3.1,(s3.2.1.1,s3.2.1.2),(s3.2.2.1.1,s3.2.2.1.2),s3.2.2.2.1,s3.2.2.2.2.1,s3.2.2.2.2.2.1,s3.2.2.2.2.2.2,0)).bind λs4=>
 (Bg Aa (s4.1,(s4.2.1.1,s4.2.1.2),(s4.2.2.1.1,s4.2.2.1.2),s4.2.2.2.1,s4.2.2.2.2.1,s4.2.2.2.2.2,0)).bind λs5=>
 some (s5.1.1,s5.2.1,decide ((s5.2.1.length:Int)<=s5.2.2))
def By:Nat->(((List Int)×Int×Int)×Int×Int×(List (List Int))×Int×(List Int)×Int)->Option (((List Int)×Int×Int)×Int×Int×(List (List Int))×Int×(List Int))
 |0,_=>none
 |n+1,(t0,t7,t8,t9,t10,t11,t12)=>
 if decide (t12<t8)then
 (Ag (t0.1,(t0.2.1,t0.2.2)) t7).bind λr4=>
 if t11.length+ [r4.2].length<=lim then
 By n ((r4.1.1,(r4.1.2.1,r4.1.2.2)),t7,t8,t9,t10,t11++ [r4.2],w64 (t12+1))
 else none
 else
 some ((t0.1,(t0.2.1,t0.2.2)),t7,t8,t9,t10,t11)
def AS:Nat->(((List Int)×Int×Int)×Int×Int×(List (List Int))×Int)->Option (((List Int)×Int×Int)×Int×Int×(List (List Int)))
 |0,_=>none
 |n+1,(t0,t7,t8,t9,t10)=>
 if decide (t10>0)then
 (By Aa ((t0.1,(t0.2.1,t0.2.2)),t7,t8,t9,t10,[],0)).bind λs4=>
 (CU s4.2.2.2.1 s4.2.2.2.2.2).bind λr5=>
 AS n ((s4.1.1,(s4.1.2.1,s4.1.2.2)),s4.2.1,s4.2.2.1,r5,w64 (s4.2.2.2.2.1-1))
 else
 some ((t0.1,(t0.2.1,t0.2.2)),t7,t8,t9)
def D1 (t0:(List Int)×Int×Int) (t1:Bool):Option (((List Int)×Int×Int)×Int×Int×(List (List Int))):=
 (Af (t0.1,(t0.2.1,t0.2.2)) [2,3,3,2,5,4]).bind λr1=>
 (Af (r1.1.1,(r1.1.2.1,r1.1.2.2)) [1,2,2,3,3,4]).bind λr2=>
 if t1 then
 if r1.2==4 then
 (Ag (r2.1.1,(r2.1.2.1,r2.1.2.2)) 5).bind λr3=>
 (AS Aa ((r3.1.1,(r3.1.2.1,r3.1.2.2)),7,r2.2,[],w64 (1+r3.2))).bind λs4=>
 (Ck (s4.1.1,(s4.1.2.1,s4.1.2.2)) 2).bind λr5=>
 if r5.2 then
 (CD s4.2.1).bind λr6=>
 (Dn 3 (s4.2.2.2.length:Int)).bind λr7=>
 if 0<=r7/\r7<=(s4.2.2.2.length:Int)/\0<(s4.2.2.2.length:Int)then
 (Cn (s4.2.1,[(r6.1,r6.2)]) s4.2.2.1 (s4.2.2.2,r7)).bind λr8=>
 if decide (r8.1.length=s4.2.2.2.length)then
 if r8.2.2 then
 (Ag (r5.1.1,(r5.1.2.1,r5.1.2.2)) 40).bind λr9=>
 if r9.2==0 then
 (Af (r9.1.1,(r9.1.2.1,r9.1.2.2)) [0,9,4,6]).bind λr10=>
 some ((r10.1.1,(r10.1.2.1,r10.1.2.2)),r10.2,s4.2.2.1,r8.2.1)
 else
 if r9.2==1 then
 (Af (r9.1.1,(r9.1.2.1,r9.1.2.2)) [0,5,w64 (s4.2.2.1+1)]).bind λr11=>
 some ((r11.1.1,(r11.1.2.1,r11.1.2.2)),s4.2.1,r11.2,r8.2.1)
 else
 if r9.2==2 then
 if 0<=s4.2.2.1/\s4.2.2.1<=s4.2.2.1/\s4.2.2.1<=lim then
 if r8.2.1.length+ [List.replicate (Int.toNat s4.2.2.1) (0:Int)].length<=lim then
 some ((r9.1.1,(r9.1.2.1,r9.1.2.2)),s4.2.1,s4.2.2.1,r8.2.1++ [List.replicate (Int.toNat s4.2.2.1) (0:Int)])
 else none
 else none
 else
 if r9.2==3 then
 some ((r9.1.1,(r9.1.2.1,r9.1.2.2)),s4.2.1,s4.2.2.1,[])
 else
 some ((r9.1.1,(r9.1.2.1,r9.1.2.2)),s4.2.1,s4.2.2.1,r8.2.1)
 else
 (Ag (r5.1.1,(r5.1.2.1,r5.1.2.2)) 40).bind λr12=>
 if r12.2==0 then
 (Af (r12.1.1,(r12.1.2.1,r12.1.2.2)) [0,9,4,6]).bind λr13=>
 some ((r13.1.1,(r13.1.2.1,r13.1.2.2)),r13.2,s4.2.2.1,r8.1.take (Int.toNat (s4.2.2.2.length:Int)))
 else
 if r12.2==1 then
 (Af (r12.1.1,(r12.1.2.1,r12.1.2.2)) [0,5,w64 (s4.2.2.1+1)]).bind λr14=>
 some ((r14.1.1,(r14.1.2.1,r14.1.2.2)),s4.2.1,r14.2,r8.1.take (Int.toNat (s4.2.2.2.length:Int)))
 else
 if r12.2==2 then
 if 0<=s4.2.2.1/\s4.2.2.1<=s4.2.2.1/\s4.2.2.1<=lim then
 if(r8.1.take (Int.toNat (s4.2.2.2.length:Int))).length+ [List.replicate (Int.toNat s4.2.2.1) (0:Int)].length<=lim then
 some ((r12.1.1,(r12.1.2.1,r12.1.2.2)),s4.2.1,s4.2.2.1,(r8.1.take (Int.toNat (s4.2.2.2.length:Int)))++ [List.replicate (Int.toNat s4.2.2.1) (0:Int)])
 else none
 else none
 else
 if r12.2==3 then
 some ((r12.1.1,(r12.1.2.1,r12.1.2.2)),s4.2.1,s4.2.2.1,[])
 else
 some ((r12.1.1,(r12.1.2.1,r12.1.2.2)),s4.2.1,s4.2.2.1,r8.1.take (Int.toNat (s4.2.2.2.length:Int)))
 else none
 else none
 else
 (Ag (r5.1.1,(r5.1.2.1,r5.1.2.2)) 40).bind λr15=>
 if r15.2==0 then
 (Af (r15.1.1,(r15.1.2.1,r15.1.2.2)) [0,9,4,6]).bind λr16=>
 some ((r16.1.1,(r16.1.2.1,r16.1.2.2)),r16.2,s4.2.2.1,s4.2.2.2)
 else
 if r15.2==1 then
 (Af (r15.1.1,(r15.1.2.1,r15.1.2.2)) [0,5,w64 (s4.2.2.1+1)]).bind λr17=>
 some ((r17.1.1,(r17.1.2.1,r17.1.2.2)),s4.2.1,r17.2,s4.2.2.2)
 else
 if r15.2==2 then
 if 0<=s4.2.2.1/\s4.2.2.1<=s4.2.2.1/\s4.2.2.1<=lim then
 if s4.2.2.2.length+ [List.replicate (Int.toNat s4.2.2.1) (0:Int)].length<=lim then
 some ((r15.1.1,(r15.1.2.1,r15.1.2.2)),s4.2.1,s4.2.2.1,s4.2.2.2++ [List.replicate (Int.toNat s4.2.2.1) (0:Int)])
 else none
 else none
 else
 if r15.2==3 then
 some ((r15.1.1,(r15.1.2.1,r15.1.2.2)),s4.2.1,s4.2.2.1,[])
 else
 some ((r15.1.1,(r15.1.2.1,r15.1.2.2)),s4.2.1,s4.2.2.1,s4.2.2.2)
 else
 (Ag (r2.1.1,(r2.1.2.1,r2.1.2.2)) 5).bind λr18=>
 (AS Aa ((r18.1.1,(r18.1.2.1,r18.1.2.2)),r1.2,r2.2,[],w64 (1+r18.2))).bind λs19=>
 (Ck (s19.1.1,(s19.1.2.1,s19.1.2.2)) 2).bind λr20=>
 if r20.2 then
 (CD s19.2.1).bind λr21=>
 (Dn 3 (s19.2.2.2.length:Int)).bind λr22=>
 if 0<=r22/\r22<=(s19.2.2.2.length:Int)/\0<(s19.2.2.2.length:Int)then
 (Cn (s19.2.1,[(r21.1,r21.2)]) s19.2.2.1 (s19.2.2.2,r22)).bind λr23=>
 if decide (r23.1.length=s19.2.2.2.length)then
 if r23.2.2 then
 (Ag (r20.1.1,(r20.1.2.1,r20.1.2.2)) 40).bind λr24=>
 if r24.2==0 then
 (Af (r24.1.1,(r24.1.2.1,r24.1.2.2)) [0,9,4,6]).bind λr25=>
 some ((r25.1.1,(r25.1.2.1,r25.1.2.2)),r25.2,s19.2.2.1,r23.2.1)
 else
 if r24.2==1 then
 (Af (r24.1.1,(r24.1.2.1,r24.1.2.2)) [0,5,w64 (s19.2.2.1+1)]).bind λr26=>
 some ((r26.1.1,(r26.1.2.1,r26.1.2.2)),s19.2.1,r26.2,r23.2.1)
 else
 if r24.2==2 then
 if 0<=s19.2.2.1/\s19.2.2.1<=s19.2.2.1/\s19.2.2.1<=lim then
 if r23.2.1.length+ [List.replicate (Int.toNat s19.2.2.1) (0:Int)].length<=lim then
 some ((r24.1.1,(r24.1.2.1,r24.1.2.2)),s19.2.1,s19.2.2.1,r23.2.1++ [List.replicate (Int.toNat s19.2.2.1) (0:Int)])
 else none
 else none
 else
 if r24.2==3 then
 some ((r24.1.1,(r24.1.2.1,r24.1.2.2)),s19.2.1,s19.2.2.1,[])
 else
 some ((r24.1.1,(r24.1.2.1,r24.1.2.2)),s19.2.1,s19.2.2.1,r23.2.1)
 else
 (Ag (r20.1.1,(r20.1.2.1,r20.1.2.2)) 40).bind λr27=>
 if r27.2==0 then
 (Af (r27.1.1,(r27.1.2.1,r27.1.2.2)) [0,9,4,6]).bind λr28=>
 some ((r28.1.1,(r28.1.2.1,r28.1.2.2)),r28.2,s19.2.2.1,r23.1.take (Int.toNat (s19.2.2.2.length:Int)))
 else
 if r27.2==1 then
 (Af (r27.1.1,(r27.1.2.1,r27.1.2.2)) [0,5,w64 (s19.2.2.1+1)]).bind λr29=>
 some ((r29.1.1,(r29.1.2.1,r29.1.2.2)),s19.2.1,r29.2,r23.1.take (Int.toNat (s19.2.2.2.length:Int)))
 else
 if r27.2==2 then
 if 0<=s19.2.2.1/\s19.2.2.1<=s19.2.2.1/\s19.2.2.1<=lim then
 if(r23.1.take (Int.toNat (s19.2.2.2.length:Int))).length+ [List.replicate (Int.toNat s19.2.2.1) (0:Int)].length<=lim then
 some ((r27.1.1,(r27.1.2.1,r27.1.2.2)),s19.2.1,s19.2.2.1,(r23.1.take (Int.toNat (s19.2.2.2.length:Int)))++ [List.replicate (Int.toNat s19.2.2.1) (0:Int)])
 else none
 else none
 else
 if r27.2==3 then
 some ((r27.1.1,(r27.1.2.1,r27.1.2.2)),s19.2.1,s19.2.2.1,[])
 else
 some ((r27.1.1,(r27.1.2.1,r27.1.2.2)),s19.2.1,s19.2.2.1,r23.1.take (Int.toNat (s19.2.2.2.length:Int)))
 else none
 else none
 else
 (Ag (r20.1.1,(r20.1.2.1,r20.1.2.2)) 40).bind λr30=>
 if r30.2==0 then
 (Af (r30.1.1,(r30.1.2.1,r30.1.2.2)) [0,9,4,6]).bind λr31=>
 some ((r31.1.1,(r31.1.2.1,r31.1.2.2)),r31.2,s19.2.2.1,s19.2.2.2)
 else
 if r30.2==1 then
 (Af (r30.1.1,(r30.1.2.1,r30.1.2.2)) [0,5,w64 (s19.2.2.1+1)]).bind λr32=>
 some ((r32.1.1,(r32.1.2.1,r32.1.2.2)),s19.2.1,r32.2,s19.2.2.2)
 else
 if r30.2==2 then
 if 0<=s19.2.2.1/\s19.2.2.1<=s19.2.2.1/\s19.2.2.1<=lim then
 if s19.2.2.2.length+ [List.replicate (Int.toNat s19.2.2.1) (0:Int)].length<=lim then
 some ((r30.1.1,(r30.1.2.1,r30.1.2.2)),s19.2.1,s19.2.2.1,s19.2.2.2++ [List.replicate (Int.toNat s19.2.2.1) (0:Int)])
 else none
 else none
 else
 if r30.2==3 then
 some ((r30.1.1,(r30.1.2.1,r30.1.2.2)),s19.2.1,s19.2.2.1,[])
 else
 some ((r30.1.1,(r30.1.2.1,r30.1.2.2)),s19.2.1,s19.2.2.1,s19.2.2.2)
 else
 (Ag (r2.1.1,(r2.1.2.1,r2.1.2.2)) 5).bind λr33=>
 (AS Aa ((r33.1.1,(r33.1.2.1,r33.1.2.2)),r1.2,r2.2,[],w64 (1+r33.2))).bind λs34=>
 (Ck (s34.1.1,(s34.1.2.1,s34.1.2.2)) 2).bind λr35=>
 if r35.2 then
 (CD s34.2.1).bind λr36=>
 (Dn 3 (s34.2.2.2.length:Int)).bind λr37=>
 if 0<=r37/\r37<=(s34.2.2.2.length:Int)/\0<(s34.2.2.2.length:Int)then
 (Cn (s34.2.1,[(r36.1,r36.2)]) s34.2.2.1 (s34.2.2.2,r37)).bind λr38=>
 if decide (r38.1.length=s34.2.2.2.length)then
 if r38.2.2 then
 (Ag (r35.1.1,(r35.1.2.1,r35.1.2.2)) 40).bind λr39=>
 if r39.2==0 then
 (Af (r39.1.1,(r39.1.2.1,r39.1.2.2)) [0,9,4,6]).bind λr40=>
 some ((r40.1.1,(r40.1.2.1,r40.1.2.2)),r40.2,s34.2.2.1,r38.2.1)
 else
 if r39.2==1 then
 (Af (r39.1.1,(r39.1.2.1,r39.1.2.2)) [0,5,w64 (s34.2.2.1+1)]).bind λr41=>
 some ((r41.1.1,(r41.1.2.1,r41.1.2.2)),s34.2.1,r41.2,r38.2.1)
 else
 if r39.2==2 then
 if 0<=s34.2.2.1/\s34.2.2.1<=s34.2.2.1/\s34.2.2.1<=lim then
 if r38.2.1.length+ [List.replicate (Int.toNat s34.2.2.1) (0:Int)].length<=lim then
 some ((r39.1.1,(r39.1.2.1,r39.1.2.2)),s34.2.1,s34.2.2.1,r38.2.1++ [List.replicate (Int.toNat s34.2.2.1) (0:Int)])
 else none
 else none
 else
 if r39.2==3 then
 some ((r39.1.1,(r39.1.2.1,r39.1.2.2)),s34.2.1,s34.2.2.1,[])
 else
 some ((r39.1.1,(r39.1.2.1,r39.1.2.2)),s34.2.1,s34.2.2.1,r38.2.1)
 else
 (Ag (r35.1.1,(r35.1.2.1,r35.1.2.2)) 40).bind λr42=>
 if r42.2==0 then
 (Af (r42.1.1,(r42.1.2.1,r42.1.2.2)) [0,9,4,6]).bind λr43=>
 some ((r43.1.1,(r43.1.2.1,r43.1.2.2)),r43.2,s34.2.2.1,r38.1.take (Int.toNat (s34.2.2.2.length:Int)))
 else
 if r42.2==1 then
 (Af (r42.1.1,(r42.1.2.1,r42.1.2.2)) [0,5,w64 (s34.2.2.1+1)]).bind λr44=>
 some ((r44.1.1,(r44.1.2.1,r44.1.2.2)),s34.2.1,r44.2,r38.1.take (Int.toNat (s34.2.2.2.length:Int)))
 else
 if r42.2==2 then
 if 0<=s34.2.2.1/\s34.2.2.1<=s34.2.2.1/\s34.2.2.1<=lim then
 if(r38.1.take (Int.toNat (s34.2.2.2.length:Int))).length+ [List.replicate (Int.toNat s34.2.2.1) (0:Int)].length<=lim then
 some ((r42.1.1,(r42.1.2.1,r42.1.2.2)),s34.2.1,s34.2.2.1,(r38.1.take (Int.toNat (s34.2.2.2.length:Int)))++ [List.replicate (Int.toNat s34.2.2.1) (0:Int)])
 else none
 else none
 else
 if r42.2==3 then
 some ((r42.1.1,(r42.1.2.1,r42.1.2.2)),s34.2.1,s34.2.2.1,[])
 else
 some ((r42.1.1,(r42.1.2.1,r42.1.2.2)),s34.2.1,s34.2.2.1,r38.1.take (Int.toNat (s34.2.2.2.length:Int)))
 else none
 else none
 else
 (Ag (r35.1.1,(r35.1.2.1,r35.1.2.2)) 40).bind λr45=>
 if r45.2==0 then
 (Af (r45.1.1,(r45.1.2.1,r45.1.2.2)) [0,9,4,6]).bind λr46=>
 some ((r46.1.1,(r46.1.2.1,r46.1.2.2)),r46.2,s34.2.2.1,s34.2.2.2)
 else
 if r45.2==1 then
 (Af (r45.1.1,(r45.1.2.1,r45.1.2.2)) [0,5,w64 (s34.2.2.1+1)]).bind λr47=>
 some ((r47.1.1,(r47.1.2.1,r47.1.2.2)),s34.2.1,r47.2,s34.2.2.2)
 else
 if r45.2==2 then
 if 0<=s34.2.2.1/\s34.2.2.1<=s34.2.2.1/\s34.2.2.1<=lim then
 if s34.2.2.2.length+ [List.replicate (Int.toNat s34.2.2.1) (0:Int)].length<=lim then
 some ((r45.1.1,(r45.1.2.1,r45.1.2.2)),s34.2.1,s34.2.2.1,s34.2.2.2++ [List.replicate (Int.toNat s34.2.2.1) (0:Int)])
 else none
 else none
 else
 if r45.2==3 then
 some ((r45.1.1,(r45.1.2.1,r45.1.2.2)),s34.2.1,s34.2.2.1,[])
 else
 some ((r45.1.1,(r45.1.2.1,r45.1.2.2)),s34.2.1,s34.2.2.1,s34.2.2.2)
def Eg (code:List Int):Option (Int×Int×(List (List Int))):=
 (D1 (code,(0,0)) true).bind λr1=>
 some (r1.2.1,r1.2.2.1,r1.2.2.2)
def Dd (code:List Int):Option (Int×Int×(List (List Int))):=
 (Eg code).bind λr1=>
 some (r1.1,r1.2.1,r1.2.2)
def Fg (f:Int×(List Int)) (g:Int×(List Int)):Option (Bool):=
 if f.1==g.1 then
 (EO f.2 g.2).bind λr1=>
 some r1
 else
 some false
def BN:Nat->(Int×Int×(List (List Int))×(Int×(List (List Int)))×(List (List Int))×Int×Int)->Option ((Int×(List (List Int))×(Int×(List (List Int))))⊕((Int×(List (List Int)))×Bool))
 |0,_=>none
 |n+1,(n_,arity,tuples,t6,t27,t28,t29)=>
 if decide (t29<t28)then
 if inb t29 t27 then
 if((gd t27 t29 []).length:Int) !=arity then
 some (.inr ((0,[]),false))
 else
 (C7 (gd t27 t29 []) n_).bind λr2=>
 if !r2 then
 some (.inr ((0,[]),false))
 else
 BN n (n_,arity,tuples,(t6.1,t6.2),t27,t28,w64 (t29+1))
 else none
 else
 some (.inl (arity,tuples,(t6.1,t6.2)))
def Cq (n_:Int) (arity:Int) (tuples:List (List Int)):Option ((Int×(List (List Int)))×Bool):=
 (DI n_).bind λr1=>
  if !r1 then
   some ((0,[]),false)
  else
   if decide (arity<1)then
    some ((0,[]),false)
   else
    if decide (arity>3)then
     some ((0,[]),false)
    else
     if decide ((tuples.length:Int)>600)then
      some ((0,[]),false)
     else
      (BN Aa (n_,arity,tuples,(0,[]),tuples,(tuples.length:Int),0)).bind λs2=>
       match s2 with
       | .inl s3=>
        (DN s3.1 s3.2.1).bind λr5=>
         some ((r5.1,r5.2),true)
       | .inr s4=>
        some ((s4.1.1,s4.1.2),s4.2)
def Gu (n_:Int) (op:Int×(List Int)) (r:Int×(List (List Int))):Option (Bool):=
 (Fe n_ (r.1,r.2)).bind λr1=>
 if r1 then
 (GO (op.1,op.2) n_).bind λr2=>
 if r2 then
 (B5 (r.2.length:Int) op.1).bind λr3=>
 some (decide (r3<=70000))
 else
 some false
 else
 some false
def CZ (n_:Int) (op:Int×(List Int)) (r:Int×(List (List Int))):Option (Bool×Bool):=
 (Gu n_ (op.1,op.2) (r.1,r.2)).bind λr1=>
 if !r1 then
 some (false,false)
 else
 (En n_ (op.1,op.2) (r.1,r.2)).bind λr2=>
 some (!r2.2.2,true)
def EZ (t0:List Int):Option (Bool):=
 (HN t0).bind λr1=>
 if r1 then
 some true
 else
 (Dd t0).bind λr2=>
 (Dj r2.1 r2.2.1 r2.2.2).bind λr3=>
 (Au r2.1 r2.2.1 r2.2.2).bind λr4=>
 if r3.2 !=r4.2 then
 some false
 else
 (Ai (r3.1.1,(r3.1.2.1,r3.1.2.2)) (r4.1.1,(r4.1.2.1,r4.1.2.2))).bind λr5=>
 if !r5 then
 some false
 else
 (Dk r2.1 r2.2.1 r2.2.2).bind λr6=>
 (D0 r2.1 r2.2.1 r2.2.2).bind λr7=>
 if r6.1 !=r7.1 then
 some false
 else
 if r6.2 !=r7.2 then
 some false
 else
 if r6.2 then
 if r6.1 then
 if r3.2 !=(decide ((r2.2.2.length:Int)>0))then
 some false
 else
 (CB r2.1).bind λr8=>
 (CC r2.1).bind λr9=>
 if r8.2 !=r9.2 then
 some false
 else
 (Fg (r8.1.1,r8.1.2) (r9.1.1,r9.1.2)).bind λr10=>
 if !r10 then
 some false
 else
 if r6.2 then
 if decide (r2.2.1<=3)then
 (Cq r2.1 r2.2.1 r2.2.2).bind λr11=>
 (CZ r2.1 (r8.1.1,r8.1.2) (r11.1.1,r11.1.2)).bind λr12=>
 if !r11.2 then
 some false
 else
 if r12.2 then
 if r12.1 !=r6.1 then
 some false
 else
 if r3.2 then
 (Al (r3.1.1,(r3.1.2.1,r3.1.2.2))).bind λr13=>
 if r13.2 then
 (AR r13.1 r2.2.2).bind λr14=>
 if !r14 then
 some false
 else
 (Ah (r3.1.1,(r3.1.2.1,r3.1.2.2))).bind λr15=>
 if !r15.2 then
 some false
 else
 (Ai (r15.1.1,(r15.1.2.1,r15.1.2.2)) (r3.1.1,(r3.1.2.1,r3.1.2.2))).bind λr16=>
 if !r16 then
 some false
 else
 some true
 else
 (Ah (r3.1.1,(r3.1.2.1,r3.1.2.2))).bind λr17=>
 if !r17.2 then
 some false
 else
 (Ai (r17.1.1,(r17.1.2.1,r17.1.2.2)) (r3.1.1,(r3.1.2.1,r3.1.2.2))).bind λr18=>
 if !r18 then
 some false
 else
 some true
 else
 some true
 else
 if r3.2 then
 (Al (r3.1.1,(r3.1.2.1,r3.1.2.2))).bind λr19=>
 if r19.2 then
 (AR r19.1 r2.2.2).bind λr20=>
 if !r20 then
 some false
 else
 (Ah (r3.1.1,(r3.1.2.1,r3.1.2.2))).bind λr21=>
 if !r21.2 then
 some false
 else
 (Ai (r21.1.1,(r21.1.2.1,r21.1.2.2)) (r3.1.1,(r3.1.2.1,r3.1.2.2))).bind λr22=>
 if !r22 then
 some false
 else
 some true
 else
 (Ah (r3.1.1,(r3.1.2.1,r3.1.2.2))).bind λr23=>
 if !r23.2 then
 some false
 else
 (Ai (r23.1.1,(r23.1.2.1,r23.1.2.2)) (r3.1.1,(r3.1.2.1,r3.1.2.2))).bind λr24=>
 if !r24 then
 some false
 else
 some true
 else
 some true
 else
 if r3.2 then
 (Al (r3.1.1,(r3.1.2.1,r3.1.2.2))).bind λr25=>
 if r25.2 then
 (AR r25.1 r2.2.2).bind λr26=>
 if !r26 then
 some false
 else
 (Ah (r3.1.1,(r3.1.2.1,r3.1.2.2))).bind λr27=>
 if !r27.2 then
 some false
 else
 (Ai (r27.1.1,(r27.1.2.1,r27.1.2.2)) (r3.1.1,(r3.1.2.1,r3.1.2.2))).bind λr28=>
 if !r28 then
 some false
 else
 some true
 else
 (Ah (r3.1.1,(r3.1.2.1,r3.1.2.2))).bind λr29=>
 if !r29.2 then
 some false
 else
 (Ai (r29.1.1,(r29.1.2.1,r29.1.2.2)) (r3.1.1,(r3.1.2.1,r3.1.2.2))).bind λr30=>
 if !r30 then
 some false
 else
 some true
 else
 some true
 else
 if r3.2 then
 (Al (r3.1.1,(r3.1.2.1,r3.1.2.2))).bind λr31=>
 if r31.2 then
 (AR r31.1 r2.2.2).bind λr32=>
 if !r32 then
 some false
 else
 (Ah (r3.1.1,(r3.1.2.1,r3.1.2.2))).bind λr33=>
 if !r33.2 then
 some false
 else
 (Ai (r33.1.1,(r33.1.2.1,r33.1.2.2)) (r3.1.1,(r3.1.2.1,r3.1.2.2))).bind λr34=>
 if !r34 then
 some false
 else
 some true
 else
 (Ah (r3.1.1,(r3.1.2.1,r3.1.2.2))).bind λr35=>
 if !r35.2 then
 some false
 else
 (Ai (r35.1.1,(r35.1.2.1,r35.1.2.2)) (r3.1.1,(r3.1.2.1,r3.1.2.2))).bind λr36=>
 if !r36 then
 some false
 else
 some true
 else
 some true
 else
 if r3.2 !=false then
 some false
 else
 (CB r2.1).bind λr37=>
 (CC r2.1).bind λr38=>
 if r37.2 !=r38.2 then
 some false
 else
 (Fg (r37.1.1,r37.1.2) (r38.1.1,r38.1.2)).bind λr39=>
 if !r39 then
 some false
 else
 if r6.2 then
 if decide (r2.2.1<=3)then
 (Cq r2.1 r2.2.1 r2.2.2).bind λr40=>
 (CZ r2.1 (r37.1.1,r37.1.2) (r40.1.1,r40.1.2)).bind λr41=>
 if !r40.2 then
 some false
 else
 if r41.2 then
 if r41.1 !=r6.1 then
 some false
 else
 if r3.2 then
 (Al (r3.1.1,(r3.1.2.1,r3.1.2.2))).bind λr42=>
 if r42.2 then
 (AR r42.1 r2.2.2).bind λr43=>
 if !r43 then
 some false
 else
 (Ah (r3.1.1,(r3.1.2.1,r3.1.2.2))).bind λr44=>
 if !r44.2 then
 some false
 else
 (Ai (r44.1.1,(r44.1.2.1,r44.1.2.2)) (r3.1.1,(r3.1.2.1,r3.1.2.2))).bind λr45=>
 if !r45 then
 some false
 else
 some true
 else
 (Ah (r3.1.1,(r3.1.2.1,r3.1.2.2))).bind λr46=>
 if !r46.2 then
 some false
 else
 (Ai (r46.1.1,(r46.1.2.1,r46.1.2.2)) (r3.1.1,(r3.1.2.1,r3.1.2.2))).bind λr47=>
 if !r47 then
 some false
 else
 some true
 else
 some true
 else
 if r3.2 then
 (Al (r3.1.1,(r3.1.2.1,r3.1.2.2))).bind λr48=>
 if r48.2 then
 (AR r48.1 r2.2.2).bind λr49=>
 if !r49 then
 some false
 else
 (Ah (r3.1.1,(r3.1.2.1,r3.1.2.2))).bind λr50=>
 if !r50.2 then
 some false
 else
 (Ai (r50.1.1,(r50.1.2.1,r50.1.2.2)) (r3.1.1,(r3.1.2.1,r3.1.2.2))).bind λr51=>
 if !r51 then
 some false
 else
 some true
 else
 (Ah (r3.1.1,(r3.1.2.1,r3.1.2.2))).bind λr52=>
 if !r52.2 then
 some false
 else
 (Ai (r52.1.1,(r52.1.2.1,r52.1.2.2)) (r3.1.1,(r3.1.2.1,r3.1.2.2))).bind λr53=>
 if !r53 then
 some false
 else
 some true
 else
 some true
 else
 if r3.2 then
 (Al (r3.1.1,(r3.1.2.1,r3.1.2.2))).bind λr54=>
 if r54.2 then
 (AR r54.1 r2.2.2).bind λr55=>
 if !r55 then
 some false
 else
 (Ah (r3.1.1,(r3.1.2.1,r3.1.2.2))).bind λr56=>
 if !r56.2 then
 some false
 else
 (Ai (r56.1.1,(r56.1.2.1,r56.1.2.2)) (r3.1.1,(r3.1.2.1,r3.1.2.2))).bind λr57=>
 if !r57 then
 some false
 else
 some true
 else
 (Ah (r3.1.1,(r3.1.2.1,r3.1.2.2))).bind λr58=>
 if !r58.2 then
 some false
 else
 (Ai (r58.1.1,(r58.1.2.1,r58.1.2.2)) (r3.1.1,(r3.1.2.1,r3.1.2.2))).bind λr59=>
 if !r59 then
 some false
 else
 some true
 else
 some true
 else
 if r3.2 then
 (Al (r3.1.1,(r3.1.2.1,r3.1.2.2))).bind λr60=>
 if r60.2 then
 (AR r60.1 r2.2.2).bind λr61=>
 if !r61 then
 some false
 else
 (Ah (r3.1.1,(r3.1.2.1,r3.1.2.2))).bind λr62=>
 if !r62.2 then
 some false
 else
 (Ai (r62.1.1,(r62.1.2.1,r62.1.2.2)) (r3.1.1,(r3.1.2.1,r3.1.2.2))).bind λr63=>
 if !r63 then
 some false
 else
 some true
 else
 (Ah (r3.1.1,(r3.1.2.1,r3.1.2.2))).bind λr64=>
 if !r64.2 then
 some false
 else
 (Ai (r64.1.1,(r64.1.2.1,r64.1.2.2)) (r3.1.1,(r3.1.2.1,r3.1.2.2))).bind λr65=>
 if !r65 then
 some false
 else
 some true
 else
 some true
 else
 if r3.2 !=false then
 some false
 else
 (CB r2.1).bind λr66=>
 (CC r2.1).bind λr67=>
 if r66.2 !=r67.2 then
 some false
 else
 (Fg (r66.1.1,r66.1.2) (r67.1.1,r67.1.2)).bind λr68=>
 if !r68 then
 some false
 else
 if r6.2 then
 if decide (r2.2.1<=3)then
 (Cq r2.1 r2.2.1 r2.2.2).bind λr69=>
 (CZ r2.1 (r66.1.1,r66.1.2) (r69.1.1,r69.1.2)).bind λr70=>
 if !r69.2 then
 some false
 else
 if r70.2 then
 if r70.1 !=r6.1 then
 some false
 else
 if r3.2 then
 (Al (r3.1.1,(r3.1.2.1,r3.1.2.2))).bind λr71=>
 if r71.2 then
 (AR r71.1 r2.2.2).bind λr72=>
 if !r72 then
 some false
 else
 (Ah (r3.1.1,(r3.1.2.1,r3.1.2.2))).bind λr73=>
 if !r73.2 then
 some false
 else
 (Ai (r73.1.1,(r73.1.2.1,r73.1.2.2)) (r3.1.1,(r3.1.2.1,r3.1.2.2))).bind λr74=>
 if !r74 then
 some false
 else
 some true
 else
 (Ah (r3.1.1,(r3.1.2.1,r3.1.2.2))).bind λr75=>
 if !r75.2 then
 some false
 else
 (Ai (r75.1.1,(r75.1.2.1,r75.1.2.2)) (r3.1.1,(r3.1.2.1,r3.1.2.2))).bind λr76=>
 if !r76 then
 some false
 else
 some true
 else
 some true
 else
 if r3.2 then
 (Al (r3.1.1,(r3.1.2.1,r3.1.2.2))).bind λr77=>
 if r77.2 then
 (AR r77.1 r2.2.2).bind λr78=>
 if !r78 then
 some false
 else
 (Ah (r3.1.1,(r3.1.2.1,r3.1.2.2))).bind λr79=>
 if !r79.2 then
 some false
 else
 (Ai (r79.1.1,(r79.1.2.1,r79.1.2.2)) (r3.1.1,(r3.1.2.1,r3.1.2.2))).bind λr80=>
 if !r80 then
 some false
 else
 some true
 else
 (Ah (r3.1.1,(r3.1.2.1,r3.1.2.2))).bind λr81=>
 if !r81.2 then
 some false
 else
 (Ai (r81.1.1,(r81.1.2.1,r81.1.2.2)) (r3.1.1,(r3.1.2.1,r3.1.2.2))).bind λr82=>
 if !r82 then
 some false
 else
 some true
 else
 some true
 else
 if r3.2 then
 (Al (r3.1.1,(r3.1.2.1,r3.1.2.2))).bind λr83=>
 if r83.2 then
 (AR r83.1 r2.2.2).bind λr84=>
 if !r84 then
 some false
 else
 (Ah (r3.1.1,(r3.1.2.1,r3.1.2.2))).bind λr85=>
 if !r85.2 then
 some false
 else
 (Ai (r85.1.1,(r85.1.2.1,r85.1.2.2)) (r3.1.1,(r3.1.2.1,r3.1.2.2))).bind λr86=>
 if !r86 then
 some false
 else
 some true
 else
 (Ah (r3.1.1,(r3.1.2.1,r3.1.2.2))).bind λr87=>
 if !r87.2 then
 some false
 else
 (Ai (r87.1.1,(r87.1.2.1,r87.1.2.2)) (r3.1.1,(r3.1.2.1,r3.1.2.2))).bind λr88=>
 if !r88 then
 some false
 else
 some true
 else
 some true
 else
 if r3.2 then
 (Al (r3.1.1,(r3.1.2.1,r3.1.2.2))).bind λr89=>
 if r89.2 then
 (AR r89.1 r2.2.2).bind λr90=>
 if !r90 then
 some false
 else
 (Ah (r3.1.1,(r3.1.2.1,r3.1.2.2))).bind λr91=>
 if !r91.2 then
 some false
 else
 (Ai (r91.1.1,(r91.1.2.1,r91.1.2.2)) (r3.1.1,(r3.1.2.1,r3.1.2.2))).bind λr92=>
 if !r92 then
 some false
 else
 some true
 else
 (Ah (r3.1.1,(r3.1.2.1,r3.1.2.2))).bind λr93=>
 if !r93.2 then
 some false
 else
 (Ai (r93.1.1,(r93.1.2.1,r93.1.2.2)) (r3.1.1,(r3.1.2.1,r3.1.2.2))).bind λr94=>
 if !r94 then
 some false
 else
 some true
 else
 some true
end T
open Go Go.Va
namespace T
section
variable {n k:Nat} {T:List Int} {gens:List (List Int)} {G:List (List Int)} {gb:Int}
theorem Ls (h:T3Ok n k T) (hg: ∀t∈gens,TpOk n k t) {q B:Nat} (hB:B=q+1) (hB41:B<=40): ∀(c f i:Nat) (L:List (List Int)),i+c+1=B^3->c+2<f->SpOk n k T gens L->B<=L.length->
    ∃L',Aw f ((k:Int),(G,gb),((n:Int),[(3,T)]),Zn cmpL L,L,40,(q:Int),0,cI (dg B 3 i),true)=some ((k:Int),(G,gb),((n:Int),[(3,T)]),Zn cmpL L',L',40,(q:Int),0)/\L<+:L'/\SpOk n k T gens L'/\
      (L'.length<=40-> ∀j,i<=j->j<B^3->q∈dg B 3 j->K8 n k T ((dg B 3 j).map λx=>L.getD x [])∈L'):=by
  have hk:=h.hk
  have hB0:0<B:=by omega
  intro c
  induction c with
  |zero=>
    intro f i L hi hf hS hl
    obtain⟨f,rfl⟩: ∃q,f=q+2:=⟨f-2,by omega⟩
    by_cases h40:L.length<=40
    · have hdl:(dg B 3 i).length=3:=EJ
      have hdv: ∀x∈dg B 3 i,x<L.length:=λx hx=>by have:=Hj hB0 x hx;omega
      have e0:=E5 (l:=cI (dg B 3 i)) (x:=(q:Int)) (by rw[Dq,hdl];omega)
      have e5:=FU (k:=3) hB0 (by omega) (by omega) (i:=i) (by omega)
      rw[if_neg (by omega)]at e5
      have hmem:((q:Int)∈cI (dg B 3 i))↔q∈dg B 3 i:=by
        unfold cI;rw[List.mem_map]
        exact ⟨fun ⟨y, hy, e⟩ => by have : y = q := by omega
                                    subst this;exact hy,λh=>⟨q,h,rfl⟩⟩
      have w1:w64 ((q:Int)+1)=(B:Int):=by rw[Ac (by omega),hB]
      have hle:decide ((L.length:Int)<=40)=true:=by simp;omega
      by_cases hq:q∈dg B 3 i
      · obtain⟨a,b,d,hd3⟩:=KE hdl
        have ha:=hdv a (by rw[hd3];simp);have hb:=hdv b (by rw[hd3];simp);have hd:=hdv d (by rw[hd3];simp)
        have ca:=hS.cl.sub _ (AF (d:= []) ha);have cb:=hS.cl.sub _ (AF (d:= []) hb);have cd:=hS.cl.sub _ (AF (d:= []) hd)
        have e1:=GY (ts:=L) (ns:=dg B 3 i) (by omega) hdv
        have e2:=Fl h (ca.ok h hg) (cb.ok h hg) (cd.ok h hg)
        have e1':(dg B 3 i).map (λx=>L.getD x [])= [L.getD a [],L.getD b [],L.getD d []]:=by rw[hd3];rfl
        rw[e1']at e1
        have eA:K8 n k T ((dg B 3 i).map λx=>L.getD x [])=Ex n k T (L.getD a []) (L.getD b []) (L.getD d []):=by rw[e1'];rfl
        obtain⟨c,e3,e4⟩:=Ic h hS.cl hg (by omega) (Gr h (ca.ok h hg) (cb.ok h hg) (cd.ok h hg))
        refine⟨DU L (Ex n k T (L.getD a []) (L.getD b []) (L.getD d [])),?_,addL_pre,⟨HW hS.cl (ca.app cb cd),by have:=HX (L:=L) (t:=Ex n k T (L.getD a []) (L.getD b []) (L.getD d []));omega⟩,λ_ j h1 h2 _=>?_⟩
        · simp only[Aw,if_true,hle,e0,hmem,hq,decide_true,Option.bind_some,e1,e2,e3,w1,e5]
          by_cases hm:Ex n k T (L.getD a []) (L.getD b []) (L.getD d [])∈L
          · unfold DU
            rw[if_pos hm,if_neg (by simpa using hm)];rfl
          · unfold DU
            rw[if_neg hm,if_pos (by simpa using hm),e4 hm]
            simp only[Option.bind_some]
            rw[if_pos (by simp;unfold lim;omega)];rfl
        · have:j=i:=by omega
          subst this;rw[eA];exact He
      · refine⟨L,?_,List.prefix_refl L,hS,λ_ j h1 h2 hj=>?_⟩
        · simp only[Aw,if_true,hle,e0,hmem,hq,decide_false,Option.bind_some,w1,e5,Bool.false_eq_true,if_false]
        · have:j=i:=by omega
          subst this;exact absurd hj hq
    · have hle:decide ((L.length:Int)<=40)=false:=by simp;omega
      refine⟨L,?_,List.prefix_refl L,hS,λh=>absurd h h40⟩
      simp only[Aw,if_true,hle,Bool.false_eq_true,if_false]
  |succ c ih=>
    intro f i L hi hf hS hl
    obtain⟨f,rfl⟩: ∃q,f=q+1:=⟨f-1,by omega⟩
    by_cases h40:L.length<=40
    · have hdl:(dg B 3 i).length=3:=EJ
      have hdv: ∀x∈dg B 3 i,x<L.length:=λx hx=>by have:=Hj hB0 x hx;omega
      have e0:=E5 (l:=cI (dg B 3 i)) (x:=(q:Int)) (by rw[Dq,hdl];omega)
      have e5:=FU (k:=3) hB0 (by omega) (by omega) (i:=i) (by omega)
      rw[if_pos (by omega)]at e5
      have hmem:((q:Int)∈cI (dg B 3 i))↔q∈dg B 3 i:=by
        unfold cI;rw[List.mem_map]
        exact ⟨fun ⟨y, hy, e⟩ => by have : y = q := by omega
                                    subst this;exact hy,λh=>⟨q,h,rfl⟩⟩
      have w1:w64 ((q:Int)+1)=(B:Int):=by rw[Ac (by omega),hB]
      have hle:decide ((L.length:Int)<=40)=true:=by simp;omega
      by_cases hq:q∈dg B 3 i
      · obtain⟨a,b,d,hd3⟩:=KE hdl
        have ha:=hdv a (by rw[hd3];simp);have hb:=hdv b (by rw[hd3];simp);have hd:=hdv d (by rw[hd3];simp)
        have ca:=hS.cl.sub _ (AF (d:= []) ha);have cb:=hS.cl.sub _ (AF (d:= []) hb);have cd:=hS.cl.sub _ (AF (d:= []) hd)
        have e1:=GY (ts:=L) (ns:=dg B 3 i) (by omega) hdv
        have e2:=Fl h (ca.ok h hg) (cb.ok h hg) (cd.ok h hg)
        have e1':(dg B 3 i).map (λx=>L.getD x [])= [L.getD a [],L.getD b [],L.getD d []]:=by rw[hd3];rfl
        rw[e1']at e1
        have eA:K8 n k T ((dg B 3 i).map λx=>L.getD x [])=Ex n k T (L.getD a []) (L.getD b []) (L.getD d []):=by rw[e1'];rfl
        obtain⟨c',e3,e4⟩:=Ic h hS.cl hg (by omega) (Gr h (ca.ok h hg) (cb.ok h hg) (cd.ok h hg))
        have hpre:L<+:DU L (Ex n k T (L.getD a []) (L.getD b []) (L.getD d [])):=addL_pre
        obtain⟨L',g1,g2,g3,g4⟩:=ih f (i+1) (DU L (Ex n k T (L.getD a []) (L.getD b []) (L.getD d []))) (by omega) (by omega) ⟨HW hS.cl (ca.app cb cd),by have:=HX (L:=L) (t:=Ex n k T (L.getD a []) (L.getD b []) (L.getD d []));omega⟩ (by have:=hpre.length_le;omega)
        refine⟨L',?_,hpre.trans g2,g3,λhl' j h1 h2 hj=>?_⟩
        · simp only[Aw,if_true,hle,e0,hmem,hq,decide_true,Option.bind_some,e1,e2,e3,w1,e5]
          by_cases hm:Ex n k T (L.getD a []) (L.getD b []) (L.getD d [])∈L
          · unfold DU at g1
            rw[if_pos hm]at g1
            rw[if_neg (by simpa using hm)]
            exact g1
          · unfold DU at g1
            rw[if_neg hm]at g1
            rw[if_pos (by simpa using hm),e4 hm]
            simp only[Option.bind_some]
            rw[if_pos (by simp;unfold lim;omega)]
            exact g1
        · rcases Nat.eq_or_lt_of_le h1 with h3|h3
          · subst h3;rw[eA];exact g2.subset He
          · have:=g4 hl' j h3 h2 hj
            have e:(dg B 3 j).map (λx=>(DU L (Ex n k T (L.getD a []) (L.getD b []) (L.getD d []))).getD x [])=(dg B 3 j).map (λx=>L.getD x []):=List.map_congr_left λx hx=>GC hpre (by have:=Hj hB0 x hx;omega)
            rwa [e]at this
      · obtain⟨L',g1,g2,g3,g4⟩:=ih f (i+1) L (by omega) (by omega) hS hl
        refine⟨L',?_,g2,g3,λhl' j h1 h2 hj=>?_⟩
        · simp only[Aw,if_true,hle,e0,hmem,hq,decide_false,Option.bind_some,w1,e5,Bool.false_eq_true,if_false]
          exact g1
        · rcases Nat.eq_or_lt_of_le h1 with h3|h3
          · subst h3;exact absurd hj hq
          · exact g4 hl' j h3 h2 hj
    · have hle:decide ((L.length:Int)<=40)=false:=by simp;omega
      refine⟨L,?_,List.prefix_refl L,hS,λh=>absurd h h40⟩
      simp only[Aw,if_true,hle,Bool.false_eq_true,if_false]
theorem Lr (h:T3Ok n k T) (hg: ∀t∈gens,TpOk n k t) {q:Nat} (hq:q<40) {L:List (List Int)} (hS:SpOk n k T gens L) (hl:q<L.length) (hB:HV n k T q L L):
  ∃L',BR Aa ((k:Int),(G,gb),((n:Int),[(3,T)]),Zn cmpL L,L,40,(q:Int),0)=some ((k:Int),(G,gb),((n:Int),[(3,T)]),Zn cmpL L',L',40,(q:Int))/\L<+:L'/\SpOk n k T gens L'/\
   (L'.length<=40->HV n k T (q+1) L' L'):=by
 have hp:0<(q+1)^3:=Nat.pow_pos (by omega)
 have hp2:(q+1)^3<=262144:=Ib (by omega) (by omega)
 obtain⟨L',e1,g2,g3,g4⟩:=Ls (G:=G) (gb:=gb) h hg (q:=q) (B:=q+1) rfl (by omega) ((q+1)^3-1) Aa 0 L (by omega) (by unfold Aa;omega) hS (by omega)
 refine⟨L',?_,g2,g3,λhl' x y z hx hy hz=>?_⟩
 ·obtain⟨f,hf⟩: ∃f,Aa=f+2:=⟨Aa-2,rfl⟩
  have i0:inb 0 [((3:Int),T)]:=by unfold inb;simp
  have g0:gd [((3:Int),T)] 0 (0,[])=(3,T):=rfl
  have w0:w64 (0+1)=1:=by decide
  have hlm:(0:Int)<=3/\(3:Int)<=3/\(3:Int)<=(lim:Int):=by unfold lim;omega
  have hl1:(([((3:Int),T)].length:Nat):Int)=1:=rfl
  rw[Jh]at e1
  have e1:Aw Aa ((k:Int),(G,gb),((n:Int),[(3,T)]),Zn cmpL L,L,40,(q:Int),0,List.replicate (Int.toNat 3) 0,decide ((3:Int)>0))=_:=e1
  rw[show BR Aa=BR (f+2) from by rw[hf]]
  simp only[BR,hl1,i0,g0,if_true]
  rw[if_pos (by decide),if_pos hlm,e1]
  simp only[Option.bind_some,w0,hl1]
  rw[if_neg (by decide)]
 ·rw[GC g2 (by omega),GC g2 (by omega),GC g2 (by omega)]
  by_cases hin:x=q∨y=q∨z=q
  ·have hlt:=Im (n:=q+1) hx hy hz
   have hpow:(q+1)^3=(q+1)*(q+1)*(q+1):=by rw[Nat.pow_succ,Nat.pow_succ,Nat.pow_one]
   have hd:=Me (B:=q+1) (a:=x) hy hz
   rw[if_pos hx]at hd
   have:=g4 hl' ((x*(q+1)+y)*(q+1)+z) (Nat.zero_le _) (by rw[hpow];exact hlt) (by rw[hd];simp;omega)
   rw[hd]at this
   exact this
  ·exact g2.subset (hB x y z (by omega) (by omega) (by omega))
theorem Lq (h:T3Ok n k T) (hg: ∀t∈gens,TpOk n k t): ∀(c f q:Nat) (L:List (List Int)),c+1<f->41-q<=c->q<=L.length->SpOk n k T gens L->(L.length<=40->HV n k T q L L)->
  ∃L',Bg f ((k:Int),(G,gb),((n:Int),[(3,T)]),Zn cmpL L,L,40,(q:Int))=some ((G,gb),Zn cmpL L',40)/\L<+:L'/\SpOk n k T gens L'/\(L'.length<=40->Closd n k T L'):=by
 intro c
 induction c with
 |zero=>
  intro f q L hf hc hq hS hB
  have:=hS.le
  obtain⟨f,rfl⟩: ∃q,f=q+1:=⟨f-1,by omega⟩
  refine⟨L,?_,List.prefix_refl L,hS,λh=>by omega⟩
  simp only[Bg]
  rw[if_neg (by simp;omega)]
 |succ c ih=>
  intro f q L hf hc hq hS hB
  have:=hS.le
  obtain⟨f,rfl⟩: ∃q,f=q+1:=⟨f-1,by omega⟩
  by_cases h1:q<L.length
  ·by_cases h2:L.length<=40
   ·obtain⟨L1,e1,p1,p2,p3⟩:=Lr (G:=G) (gb:=gb) h hg (q:=q) (by omega) hS h1 (hB h2)
    obtain⟨L',e2,g1,g2,g3⟩:=ih f (q+1) L1 (by omega) (by omega) (by have:=p1.length_le;omega) p2 p3
    refine⟨L',?_,p1.trans g1,g2,g3⟩
    simp only[Bg,e1,Option.bind_some,Ac (show q<4611686018427387904 by omega)]
    rw[if_pos (by simp;omega),if_pos (by simp;omega)]
    exact e2
   ·refine⟨L,?_,List.prefix_refl L,hS,λh=>absurd h h2⟩
    simp only[Bg]
    rw[if_pos (by simp;omega),if_neg (by simp;omega)]
  ·have h3:q=L.length:=by omega
   subst h3
   refine⟨L,?_,List.prefix_refl L,hS,λh=>JA (hB h)⟩
   simp only[Bg]
   rw[if_neg (by simp)]
theorem Lp (h:T3Ok n k T) (hg: ∀t∈gens,TpOk n k t) (hl:gens.length<=100):Bn Aa ((k:Int),(G,gb),((n:Int),[(3,T)]),[],[],40,gens,0)=some ((k:Int),(G,gb),((n:Int),[(3,T)]),Zn cmpL (Fs gens),Fs gens,40):=by
 have:=BL gens.length (λf (s:List (List Int)) i=>Bn f ((k:Int),(G,gb),((n:Int),[(3,T)]),Zn cmpL s,s,40,gens,i)) (λq=>Fs (gens.take q))
  (r:=some ((k:Int),(G,gb),((n:Int),[(3,T)]),Zn cmpL (Fs gens),Fs gens,40)) (λf i hi=>?_) (λf=>?_) (n:=Aa) (by unfold Aa;omega)
 ·have e0:Zn cmpL (Fs (gens.take 0))= []:=by simp[Zn,Fs]
  rw[e0]at this
  exact this
 ·obtain⟨c1,c2,_⟩:=Jd (n:=n) (k:=k) (T:=T) (gens:=gens) (gens.take i) λt ht=>List.mem_of_mem_take ht
  have hgi:=hg _ (List.getElem_mem hi)
  have c2':(Fs (gens.take i)).length<=1000:=by rw[List.length_take]at c2;omega
  obtain⟨c,e3,e4⟩:=Ic h c1 hg c2' hgi
  simp only[Bn,Ae,hi,Ak hi,if_true,e3,Option.bind_some,Ac (show i<4611686018427387904 by omega),Jz hi]
  rw[if_pos (by simp;omega)]
  by_cases hm:gens[i]∈Fs (gens.take i)
  ·rw[if_neg (by simpa using hm)];unfold DU;rw[if_pos hm]
  ·rw[if_pos (by simpa using hm),e4 hm]
   simp only[Option.bind_some]
   rw[if_pos (by simp;unfold lim;omega)];unfold DU;rw[if_neg hm]
 ·simp only[Bn,List.take_length]
  rw[if_neg (by simp)]
theorem L2 (n k:Nat) (T:List Int) (hb:0<=gb/\gb<=(G.length:Int)) (hg: ∀t∈G,t.length<=100) (hl:G.length<=100):B4 Aa ((k:Int),(G,gb),((n:Int),[(3,T)]),[],[],40,[],0)=some ((k:Int),(G,gb),((n:Int),[(3,T)]),[],[],40,G.take gb.toNat):=by
 have:=BL gb.toNat (λf (s:List (List Int)) i=>B4 f ((k:Int),(G,gb),((n:Int),[(3,T)]),[],[],40,s,i)) (λq=>G.take q)
  (r:=some ((k:Int),(G,gb),((n:Int),[(3,T)]),[],[],40,G.take gb.toNat)) (λf i hi=>?_) (λf=>?_) (n:=Aa) (by unfold Aa;omega)
 ·exact this
 ·have hi':i<G.length:=by omega
  have hgi:=hg _ (List.getElem_mem hi')
  have e1:=Dv (l:=G[i]) (by omega)
  simp only[B4,Ak hi',e1,Option.bind_some,Ac (show i<4611686018427387904 by omega),List.take_succ_eq_append_getElem hi']
  rw[if_pos (by simp;omega),if_pos (by omega),if_pos (by simp;unfold lim;omega)]
 ·simp only[B4]
  rw[if_neg (by simp;omega)]
theorem L3 (n k:Nat) (T:List Int) (t8 t9 fst:List (List Int)):CA Aa ((k:Int),(G,gb),((n:Int),[(3,T)]),t8,t9,40,fst,0)=some ((k:Int),(G,gb),((n:Int),[(3,T)]),t8,t9,40,fst):=by
 obtain⟨f,hf⟩: ∃f,Aa=f+2:=⟨Aa-2,rfl⟩
 have i0:inb 0 [((3:Int),T)]:=by unfold inb;simp
 have g0:gd [((3:Int),T)] 0 (0,[])=(3,T):=rfl
 have w0:w64 (0+1)=1:=by decide
 rw[hf]
 simp only[CA,List.length_singleton,i0,g0,if_true,w0]
 simp
theorem GG (h:T3Ok n k T) (hb:0<=gb/\gb<=(G.length:Int)) (hG: ∀t∈G,TpOk n k t) (hl:G.length<=40):
  ∃L,GenL n k T (G.take gb.toNat) L/\Cn ((n:Int),[(3,T)]) (k:Int) (G,gb)=some (G,Zn cmpL L,decide (L.length<=40)):=by
 have hk:=h.hk
 have hg: ∀t∈G.take gb.toNat,TpOk n k t:=λt ht=>hG t (List.mem_of_mem_take ht)
 have hl':(G.take gb.toNat).length<=40:=by rw[List.length_take];omega
 obtain⟨c1,c2,c3⟩:=Jd (n:=n) (k:=k) (T:=T) (gens:=G.take gb.toNat) (G.take gb.toNat) λ_ h=>h
 have e1:=L2 n k T hb (λt ht=>by have:=(hG t ht).1;omega) (by omega)
 have e2:=L3 (G:=G) (gb:=gb) n k T [] [] (G.take gb.toNat)
 have e3:=Lp (G:=G) (gb:=gb) h hg (by omega)
 obtain⟨L,e4,p1,p2,p3⟩:=Lq (G:=G) (gb:=gb) h hg 50 Aa 0 (Fs (G.take gb.toNat)) (by unfold Aa;omega) (by omega) (Nat.zero_le _) ⟨c1,by omega⟩ (λ_ x y z hx=>by omega)
 refine⟨L,⟨p2.cl,p2.le,λt ht=>p1.subset (c3 t ht),p3⟩,?_⟩
 unfold Cn
 have e4:Bg Aa ((k:Int),(G,gb),((n:Int),[(3,T)]),Zn cmpL (Fs (G.take gb.toNat)),Fs (G.take gb.toNat),40,0)=_:=e4
 dsimp only
 rw[I9]
 simp only[Option.bind_some,e1,e2,e3,e4,(DH L).length_eq]
 congr 3
 simp;omega
end
end T
open Go Go.Va
namespace T
section
variable {p:Int} {V W N k:Nat} {ts:List (List Int)} {f:Nat->Int} {A:List (List Int)}
theorem FV (x:Int):cg p (x%p) x:=⟨-(x/p),by have:=Int.emod_add_mul_ediv x p;grind⟩
theorem E9 {base t:List Int} {i:Nat} (hi:i<k):cg p ((Am p k base t).getD i 0) (t.getD i 0-base.getD i 0):=by
 unfold Am
 rw[DW (by simpa using hi),Ab (by simpa using hi)]
 simp only[List.getElem_map,List.getElem_range]
 refine AQ (FV _) ⟨base.getD i 0,by grind⟩
theorem Ik (h:SetOk p k ts) (h0:0<ts.length) (ha:El p ts=true) (hf:Sp p k (ts.map (Am p k ts[0])) f): ∃t∈ts,∀i,i<k->cg p (t.getD i 0) ((ts[0]).getD i 0+f i):=by
 have hh:ts.headD []=ts[0]:=by cases ts with|nil=>simp at h0|cons a l=>rfl
 have hp:=h.hp
 induction hf with
 |zero=>exact⟨ts[0],List.getElem_mem h0,λi _=>BC (by simp)⟩
 |add r c hr _ ih=>
  rename_i f0 _
  obtain⟨t,ht,hti⟩:=ih
  obtain⟨u,hu,rfl⟩:=List.mem_map.1 hr
  have key: ∀m:Nat,∃t'∈ts,∀i,i<k->cg p (t'.getD i 0) ((ts[0]).getD i 0+(f0 i+(m:Int)*(Am p k ts[0] u).getD i 0)):=by
   intro m
   induction m with
   |zero=>exact⟨t,ht,λi hi=>AQ (hti i hi) (BC (by simp))⟩
   |succ m ihm=>
    obtain⟨t',ht',h1⟩:=ihm
    refine⟨CR p t' u ts[0],?_,λi hi=>?_⟩
    ·unfold El at ha
     have:=List.all_eq_true.1 (List.all_eq_true.1 ha t' ht') u hu
     rw[hh]at this;simpa using this
    ·have hl:=h.len t' ht'
     have hlt:i<(CR p t' u ts[0]).length:=by rw[comb_len];omega
     rw[Ab hlt,Hi (by omega)]
     refine AQ (FV _) ?_
     have h2:=E9 (p:=p) (base:=ts[0]) (t:=u) hi
     have h3:cg p (t'.getD i 0+(u.getD i 0-(ts[0]).getD i 0)) (((ts[0]).getD i 0+(f0 i+(m:Int)*(Am p k ts[0] u).getD i 0))+(Am p k ts[0] u).getD i 0):=DD (h1 i hi) (Dy h2)
     exact AQ (BC (by omega)) (AQ h3 (BC (by push_cast;grind)))
  obtain⟨t',ht',h1⟩:=key (c%p).toNat
  refine⟨t',ht',λi hi=>AQ (h1 i hi) (DD (BC rfl) (DD (BC rfl) (FW _ ?_)))⟩
  have hc:(((c%p).toNat:Nat):Int)=c%p:=Int.toNat_of_nonneg (Int.emod_nonneg _ (by omega))
  rw[hc];exact FV c
 |cgr _ hc ih=>
  obtain⟨t,ht,hti⟩:=ih
  exact⟨t,ht,λi hi=>AQ (hti i hi) (DD (BC rfl) (Dy (hc i hi)))⟩
def TpI (p:Int) (V:Nat) (x:List Int):Prop:=x.length=V/\ ∀y∈x,0<=y/\y<p
theorem TpI.get {x:List Int} (h:TpI p V x) {i:Nat} (hi:i<V):0<=x.getD i 0/\x.getD i 0<p:=by
 have h1:i<x.length:=by have:=h.1;omega
 rw[Ab h1];exact h.2 _ (List.getElem_mem h1)
theorem Ja {x y:List Int} (hx:TpI p V x) (hy:TpI p V y) (h: ∀i,i<V->cg p (x.getD i 0) (y.getD i 0)):x=y:=by
 refine List.ext_getElem (by rw[hx.1,hy.1]) λi h1 h2=>?_
 have hi:i<V:=by have:=hx.1;omega
 have:=Je (h i hi) (hx.get hi) (hy.get hi)
 rwa [Ab h1,Ab h2]at this
def Gm (p:Int) (V:Nat) (A:List (List Int)) (x:List Int):Prop:= ∀r∈A,cg p (AZ V λi=>r.getD i 0*x.getD i 0) (r.getD V 0)
theorem Hw {B:List (List Int)} {x:List Int} (he:eqSp p (V+1) A B):Gm p V A x↔Gm p V B x:=
 ⟨λh r hr=>If h ((he _).2 (Sp.mem hr)),λh r hr=>If h ((he _).1 (Sp.mem hr))⟩
theorem HI (hp:pr4 p) (hA: ∀r∈A,Aj p (V+1) r) (hf:(Ad p A V).2.2.filter (nzB V)= []):eqSp p (V+1) A (Ad p A V).1:=by
 have hz:=(DL hp hA V (by omega)).zl
 refine(Fu hp hA (V:=V+1) (Nat.le_refl _) V (by omega)).trans (HH λr hr i hi=>?_)
 rcases Nat.lt_or_ge i V with h1|h1
 ·exact hz r hr i h1
 ·have:i=V:=by omega
  subst this
  have:=List.filter_eq_nil_iff.1 hf r hr
  unfold nzB at this;simpa using this
theorem I0 (hp:pr4 p) {s:ES} (hs:ESok p (V+1) N V s) (h:RR p V s) {x y:List Int} (hx:TpI p V x) (hy:TpI p V y) (ox:Gm p V s.1 x) (oy:Gm p V s.1 y) (hxy: ∀f:Nat,f<V->(f:Int)∉s.2.1->x.getD f 0=y.getD f 0):x=y:=by
 refine Ja hx hy λu hu=>?_
 by_cases hm:(u:Int)∈s.2.1
 ·obtain⟨i,hi,hu1⟩:=List.mem_iff_getElem.1 hm
  have hbl:=hs.bl
  have hi1:i<s.1.length:=by omega
  have h1:=ox _ (AF (d:= []) hi1)
  have h2:=oy _ (AF (d:= []) hi1)
  have h3:=AQ h1 (Dy h2)
  have e:(AZ V λi_1=>(s.1.getD i []).getD i_1 0*x.getD i_1 0)+(-1)*(AZ V λi_1=>(s.1.getD i []).getD i_1 0*y.getD i_1 0)=x.getD u 0-y.getD u 0:=by
   rw[←Ej,Ek hu λj hj hju=>?_]
   ·have:=h.piv i hi1 i hi1
    rw[Ab hi,hu1,Int.toNat_natCast,if_pos rfl]at this
    rw[this];grind
   ·by_cases hb:(j:Int)∈s.2.1
    ·obtain⟨q,hq,hq1⟩:=List.mem_iff_getElem.1 hb
     have hne:i≠q:=λe=>by subst e;rw[hq1]at hu1;omega
     have:=h.piv i hi1 q (by omega)
     rw[Ab hq,hq1,Int.toNat_natCast,if_neg hne]at this
     rw[this];simp
    ·rw[hxy j hj hb];grind
  obtain⟨m,hm⟩:=h3
  exact⟨m,by grind⟩
 ·exact BC (hxy u hu hm)
theorem I8 (hp:pr4 p) (hA: ∀r∈A,Aj p (V+1) r) (hf:C2 V (Ad p A V)=false) (hV:V<=100) (hN:A.length<=100) (i:Nat):Gm p V A (DZ p V (Ad p A V) (Ap V (Ad p A V).2.1) i):=by
 intro r hr
 have hs:=AK hp hA V (by omega)
 obtain⟨F,hF⟩: ∃F,F=Ap V (Ad p A V).2.1:=⟨_,rfl⟩
 have g:=GN hp hs (show V<V+1 by omega) (by omega) (by omega) hF i
 rw[←hF]
 unfold DZ
 obtain⟨x,hx⟩: ∃x,x=cI (dg p.toNat F.length i):=⟨_,rfl⟩
 rw[←hx]at g⊢
 have key: ∀j,j<=F.length->cg p (AZ V λu=>r.getD u 0*Dx p V (Ad p A V) F x u j) (r.getD V 0):=by
  intro j
  induction j with
  |zero=>intro _;exact KZ hp hA hf r hr
  |succ j ih=>
   intro hj
   obtain⟨f,hfV,hf1,hf2⟩:=g.fm j (by omega)
   have h1:=HM hp hA hfV hf2 hr
   have h2:cg p (AZ V λu=>r.getD u 0*coG p (Ad p A V) u (F.getD j 0)) 0:=by
    refine AQ (FZ λu hu=>FK _ ?_) h1
    rw[g.ker (u:=u) (by omega) hf1];exact Dy (FV _)
   have e:(AZ V λu=>r.getD u 0*Dx p V (Ad p A V) F x u (j+1))=(AZ V λu=>r.getD u 0*Dx p V (Ad p A V) F x u j)+x.getD j 0*AZ V λu=>r.getD u 0*coG p (Ad p A V) u (F.getD j 0):=by
    rw[←Ej];exact CE λu _=>by rw[Dx];grind
   rw[e]
   exact AQ (DD (ih (by omega)) (FK (x.getD j 0) h2)) (BC (by simp))
 refine AQ (FZ λu hu=>FK _ ?_) (key F.length (Nat.le_refl _))
 rw[GJ hu];exact FV _
theorem KG (hp:pr4 p) (hA: ∀r∈A,Aj p (V+1) r) (hf:(Ad p A V).2.2.filter (nzB V)= []) (hV:V<=100) (hN:A.length<=100) {x:List Int}:
  (∃i,i<p.toNat^(Ap V (Ad p A V).2.1).length/\DZ p V (Ad p A V) (Ap V (Ad p A V).2.1) i=x)↔TpI p V x/\Gm p V A x:=by
 have hs:=AK hp hA V (by omega)
 have hrr:=DL hp hA V (by omega)
 have hf':C2 V (Ad p A V)=false:=by
  unfold C2
  rw[List.any_eq_false]
  intro r hr
  have:=List.filter_eq_nil_iff.1 hf r hr
  simpa using this
 have hsp:=HI hp hA hf
 have hpb:2<=p/\p<=7:=by unfold pr4 at hp;omega
 have hob:=I8 hp hA hf' hV hN
 have htp: ∀i,TpI p V (DZ p V (Ad p A V) (Ap V (Ad p A V).2.1) i):=λi=>K2 (by omega) _
 constructor
 ·rintro ⟨i,hi,rfl⟩
  exact⟨htp i,hob i⟩
 ·rintro ⟨hx,ox⟩
  obtain⟨F,hF⟩: ∃F,F=Ap V (Ad p A V).2.1:=⟨_,rfl⟩
  rw[←hF]at hob htp⊢
  have hFm: ∀j (hj:j<F.length),∃f:Nat,f<V/\F[j]=(f:Int):=λj hj=>by
   have:=EF (show F[j]∈Ap V (Ad p A V).2.1 from by rw[←hF];exact List.getElem_mem hj)
   obtain⟨w,hw,e⟩:=this
   exact⟨w,by omega,e⟩
  obtain⟨i,hi,hd⟩:=Ld (b:=p.toNat) F.length (F.map λf=>(x.getD f.toNat 0).toNat) (by simp) (λy hy=>by
   obtain⟨f,hfm,rfl⟩:=List.mem_map.1 hy
   obtain⟨j,hj,rfl⟩:=List.mem_iff_getElem.1 hfm
   obtain⟨w,hw,e⟩:=hFm j hj
   have:=hx.get (i:=(F[j]).toNat) (by omega)
   omega)
  refine⟨i,hi,?_⟩
  refine I0 hp hs hrr (htp i) hx ((Hw hsp).1 (hob i)) ((Hw hsp).1 ox) λf hfV hfb=>?_
  have hfF:(f:Int)∈F:=by
   rw[hF];unfold Ap
   exact List.mem_map.2 ⟨f,List.mem_filter.2 ⟨List.mem_range.2 hfV,by simpa using hfb⟩,rfl⟩
  obtain⟨j,hj,hj1⟩:=List.mem_iff_getElem.1 hfF
  have g:=GN hp hs (show V<V+1 by omega) (by omega) (by omega) hF i
  have h1:=g.free hj hj1 F.length (Nat.le_refl _)
  unfold DZ
  rw[GJ hfV,h1,if_pos hj,hd]
  have h2:(cI (F.map λf=>(x.getD f.toNat 0).toNat)).getD j 0=x.getD f 0:=by
   have hj2:j<(F.map λf=>(x.getD f.toNat 0).toNat).length:=by simpa using hj
   rw[HZ hj2,Ab hj2]
   simp only[List.getElem_map,hj1,Int.toNat_natCast]
   have:=hx.get hfV
   omega
  rw[h2]
  have:=hx.get hfV
  exact Int.emod_eq_of_lt this.1 this.2
end
end T
open Go Go.Va
namespace T
section
variable {p:Int} {V W N k:Nat} {ts:List (List Int)} {f:Nat->Int} {A:List (List Int)}
theorem Lo {s:ES} {g i:Nat} (hi:i<V):(Ds p V s g).getD i 0=CL p s g i:=by
 rw[Ab (by simpa[Ds]using hi)];simp[Ds]
theorem JQ (hp:pr4 p) (hA: ∀r∈A,Aj p (V+1) r) (h: ∀g:Nat,g<V->(g:Int)∉(Ad p A V).2.1->cg p (AZ V λi=>f i*CL p (Ad p A V) g i) 0):Sp p V A f:=by
 have hs:=AK hp hA V (by omega)
 have hrr:=DL hp hA V (by omega)
 have hsp:=IC hp hA (show V<=V+1 by omega)
 have hker:=λg hg hgb=>Iu hp hs hrr (f:=g) hg hgb
 refine(hsp f).2 ?_
 generalize Ad p A V=s at*
 have hbl:=hs.bl
 have hbV: ∀j,j<s.1.length-> ∃b:Nat,b<V/\s.2.1.getD j 0=(b:Int):=λj hj=>by
  have:=hs.bv _ (AF (d:=0) (show j<s.2.1.length by omega))
  exact⟨(s.2.1.getD j 0).toNat,by omega,by omega⟩
 have hpart: ∀m,m<=s.1.length->Sp p V s.1 λi=>AZ m λj=>f (s.2.1.getD j 0).toNat*(s.1.getD j []).getD i 0:=by
  intro m
  induction m with
  |zero=>intro _;exact Sp.zero
  |succ m ih=>
   intro hm
   refine(Sp.add (s.1.getD m []) (f (s.2.1.getD m 0).toNat) (AF (by omega)) (ih (by omega))).cgr λi _=>BC ?_
   rw[Ct]
 obtain⟨G,hG⟩: ∃G:Nat->Int,G=λi=>AZ s.1.length λj=>f (s.2.1.getD j 0).toNat*(s.1.getD j []).getD i 0:=⟨_,rfl⟩
 have hGs:=hpart s.1.length (Nat.le_refl _)
 rw[←hG]at hGs
 refine hGs.cgr λu hu=>?_
 have hbound: ∀v:Nat,v<V->(v:Int)∈s.2.1->f v=G v:=λv hv hm=>by
  obtain⟨i,hi,hv1⟩:=List.mem_iff_getElem.1 hm
  rw[hG]
  dsimp only
  have h1:=λj (hj:j<s.1.length)=>hrr.piv j hj i (by omega)
  rw[Ab hi,hv1,Int.toNat_natCast]at h1
  rw[Ek (m:=i) (by omega) λj hj hji=>by rw[h1 j hj,if_neg hji,Int.mul_zero],h1 i (by omega),if_pos rfl,Ab hi,hv1,Int.toNat_natCast,Int.mul_one]
 by_cases hm:(u:Int)∈s.2.1
 ·exact BC (hbound u hu hm)
 ·have h1:=h u hu hm
  have h2:cg p (AZ V λi=>G i*CL p s u i) 0:=Ju (λr hr=>hker u hu hm r (List.mem_append_left _ hr)) hGs
  have e:(AZ V λi=>f i*CL p s u i)+(-1)*(AZ V λi=>G i*CL p s u i)=f u-G u:=by
   rw[←Ej,Ek hu λj hj hju=>?_]
   ·have:CL p s u u=1:=by unfold CL;rw[if_pos (Ca.2 hm),if_pos rfl]
    rw[this];grind
   ·by_cases hb:(j:Int)∈s.2.1
    ·rw[hbound j hj hb];grind
    ·have:CL p s u j=0:=by unfold CL;rw[if_pos (Ca.2 hb),if_neg hju]
     rw[this];simp
  obtain⟨a,h1⟩:=h1
  obtain⟨b,h2⟩:=h2
  exact⟨a-b,by grind⟩
theorem Kp (hp:pr4 p) (h:SetOk p k ts) (h0:0<ts.length) (ha:El p ts=true) {x:List Int} (hx:TpI p k x):Gm p k (DE p k ts[0] (ts.map (Am p k ts[0]))) x↔x∈ts:=by
 have hm0:ts[0]∈ts:=List.getElem_mem h0
 have hD: ∀r∈ts.map (Am p k ts[0]),Aj p (k+1) r:=λr hr=>by
  obtain⟨t,_,rfl⟩:=List.mem_map.1 hr
  exact D7 hp
 have hs:=AK hp hD k (by omega)
 have hbase:=Ft h hm0
 have hrow: ∀g:Nat,g<k->(g:Int)∉(Ad p (ts.map (Am p k ts[0])) k).2.1->Em p k ts[0] (Ds p k (Ad p (ts.map (Am p k ts[0])) k) g)∈DE p k ts[0] (ts.map (Am p k ts[0])):=λg hg hgb=>by
  unfold DE Bu
  refine List.mem_map.2 ⟨_,List.mem_map.2 ⟨(g:Int),?_,rfl⟩,by rw[Int.toNat_natCast]⟩
  unfold Ap
  exact List.mem_map.2 ⟨g,List.mem_filter.2 ⟨List.mem_range.2 hg,by simpa using hgb⟩,rfl⟩
 have hker: ∀g:Nat,g<k->(g:Int)∉(Ad p (ts.map (Am p k ts[0])) k).2.1->Ds p k (Ad p (ts.map (Am p k ts[0])) k) g∈Bu p k (Ad p (ts.map (Am p k ts[0])) k):=λg hg hgb=>by
  unfold Bu
  refine List.mem_map.2 ⟨(g:Int),?_,by rw[Int.toNat_natCast]⟩
  unfold Ap
  exact List.mem_map.2 ⟨g,List.mem_filter.2 ⟨List.mem_range.2 hg,by simpa using hgb⟩,rfl⟩
 have hlen: ∀g:Nat,(Ds p k (Ad p (ts.map (Am p k ts[0])) k) g).length=k:=λg=>by simp[Ds]
 have heq: ∀(g:Nat) (hg:g<k) (hgb:(g:Int)∉(Ad p (ts.map (Am p k ts[0])) k).2.1),(cg p (AZ k λi=>(Em p k ts[0] (Ds p k (Ad p (ts.map (Am p k ts[0])) k) g)).getD i 0*x.getD i 0) ((Em p k ts[0] (Ds p k (Ad p (ts.map (Am p k ts[0])) k) g)).getD k 0)↔cg p (AZ k λi=>(x.getD i 0-(ts[0]).getD i 0)*CL p (Ad p (ts.map (Am p k ts[0])) k) g i) 0):=λg hg hgb=>by
  have hE:=(Ko hp hbase (G9 hp hs (hker g hg hgb))).2
  have e1: ∀y:List Int,(AZ k λi=>(Em p k ts[0] (Ds p k (Ad p (ts.map (Am p k ts[0])) k) g)).getD i 0*y.getD i 0)=AZ k λi=>y.getD i 0*CL p (Ad p (ts.map (Am p k ts[0])) k) g i:=λy=>CE λi hi=>by
   unfold Em
   rw[DW (by rw[hlen];exact hi),Lo hi,Int.mul_comm]
  rw[e1]at hE⊢
  have e2:(AZ k λi=>(x.getD i 0-(ts[0]).getD i 0)*CL p (Ad p (ts.map (Am p k ts[0])) k) g i)=(AZ k λi=>x.getD i 0*CL p (Ad p (ts.map (Am p k ts[0])) k) g i)+(-1)*(AZ k λi=>(ts[0]).getD i 0*CL p (Ad p (ts.map (Am p k ts[0])) k) g i):=by
   rw[←Ej];exact CE λi _=>by grind
  rw[e2]
  obtain⟨b,hE⟩:=hE
  constructor
  ·rintro ⟨a,h1⟩
   exact⟨a-b,by grind⟩
  ·rintro ⟨a,h1⟩
   exact⟨a+b,by grind⟩
 constructor
 ·intro ho
  have hsp:Sp p k (ts.map (Am p k ts[0])) λi=>x.getD i 0-(ts[0]).getD i 0:=JQ hp hD λg hg hgb=>(heq g hg hgb).1 (ho _ (hrow g hg hgb))
  obtain⟨t,ht,h1⟩:=Ik h h0 ha hsp
  have htp:TpI p k t:=⟨h.len t ht,λy hy=>by
   have:=List.all_eq_true.1 (h.el t ht) y hy
   simpa using this⟩
  have:t=x:=Ja htp hx λi hi=>AQ (h1 i hi) (BC (by omega))
  exact this▸ht
 ·intro hxm r hr
  unfold DE Bu at hr
  obtain⟨w,hw,rfl⟩:=List.mem_map.1 hr
  obtain⟨g,hg,rfl⟩:=List.mem_map.1 hw
  unfold Ap at hg
  obtain⟨u,hu,rfl⟩:=List.mem_map.1 hg
  rw[List.mem_filter]at hu
  have hu1:=List.mem_range.1 hu.1
  have hu2:(u:Int)∉(Ad p (ts.map (Am p k ts[0])) k).2.1:=by simpa using hu.2
  rw[Int.toNat_natCast]
  refine(heq u hu1 hu2).2 ?_
  have:=HM hp hD hu1 hu2 (List.mem_map.2 ⟨x,hxm,rfl⟩)
  refine AQ (FZ λi hi=>FW _ ?_) this
  exact Dy (E9 hi)
def eqR (p kk:Int) (ts:List (List Int)):Lin×Bool:=if Cp p&&Es p kk ts&&decide (0<ts.length)&&El p ts then((p,(kk,eqF p kk.toNat ts)),true)else((0,(0,[])),false)
theorem G3 {kk:Int} (hl:ts.length<=1099511627774) (hr: ∀t∈ts,t.length<=1099511627775):Dj p kk ts=some (eqR p kk ts)/\Au p kk ts=some (eqR p kk ts):=by
 obtain⟨R,e1,e2,_⟩:=Hd (p:=p) (kk:=kk) hl hr
 suffices Au p kk ts=some (eqR p kk ts) by
  refine⟨?_,this⟩
  rw[e1,←e2,this]
 unfold eqR
 cases hp:Cp p with
 |false=>unfold Au;rw[AU,hp];rfl
 |true=>
  cases hs:Es p kk ts with
  |false=>
   unfold Au
   rw[AU,hp]
   simp only[Option.bind_some,Bool.not_true,Bool.false_eq_true,if_false]
   rw[BV hl hr,hs];rfl
  |true=>
   have h:=Fj hp hs
   by_cases h0:0<ts.length
   ·cases ha:El p ts with
    |false=>
     unfold Au
     rw[AU,hp]
     simp only[Option.bind_some,Bool.not_true,Bool.false_eq_true,if_false]
     rw[BV hl hr,hs]
     simp only[Option.bind_some,Bool.not_true,Bool.false_eq_true,if_false]
     rw[if_neg (by simp;intro e;rw[e]at h0;simp at h0),GF h,ha];simp
    |true=>rw[GZ hp hs h0 ha hl hr];simp[h0]
   ·have:ts= []:=List.length_eq_zero_iff.1 (by omega)
    subst this
    unfold Au
    rw[AU,hp]
    simp only[Option.bind_some,Bool.not_true,Bool.false_eq_true,if_false]
    rw[BV hl hr,hs]
    simp
theorem Kn (hp:pr4 p) (h:SetOk p k ts) (h0:0<ts.length) (ha:El p ts=true):
  Hr (p,((k:Int),eqF p k ts))/\elR (p,((k:Int),eqF p k ts))=((p,((k:Int),eqF p k ts)),true)/\((liR (p,((k:Int),eqF p k ts))).2=true->(liR (p,((k:Int),eqF p k ts))).1=ts):=by
 have hh:ts.headD []=ts[0]:=by cases ts with|nil=>simp at h0|cons a l=>rfl
 have hk:=h.hk
 have hD: ∀r∈ts.map (Am p k ts[0]),Aj p (k+1) r:=λr hr=>by
  obtain⟨t,_,rfl⟩:=List.mem_map.1 hr
  exact D7 hp
 obtain⟨q1,q2,q3⟩:=G7 hp (Ft h (List.getElem_mem h0)) hD
 have hsol:=λx hx=>Kp hp h h0 ha (x:=x) hx
 have hF:eqF p k ts=(Ad p (DE p k ts[0] (ts.map (Am p k ts[0]))) k).1:=by unfold eqF;rw[hh]
 generalize DE p k ts[0] (ts.map (Am p k ts[0]))=A at*
 have hg:=Hs hp (V:=k) (by omega) (by omega) q1
 obtain⟨g1,g2,_⟩:=Ki hg
 have e0:elR (p,((k:Int),A))=((p,((k:Int),eqF p k ts)),true):=by
  unfold elR esA
  rw[hg]
  simp only[if_true,Int.toNat_natCast,q3,List.append_nil,←hF]
 rw[e0]at g1 g2
 have hR: ∀r∈eqF p k ts,Aj p (k+1) r:=λr hr=>by rw[hF]at hr;exact(AK hp q1 k (by omega)).t r hr
 have hRl:(eqF p k ts).length<=k:=by rw[hF];exact GW hp q1 (by omega)
 refine⟨g1,g2,λhli=>?_⟩
 have hg2:=Hs hp (V:=k) (by omega) (show(eqF p k ts).length<=8 by omega) hR
 have hsp:=HI hp q1 q3
 rw[←hF]at hsp
 have hob: ∀x,Gm p k (eqF p k ts) x↔Gm p k A x:=λx=>(Hw hsp).symm
 have hfl:(Ad p (eqF p k ts) k).2.2.filter (nzB k)= []:=by
  have hx:TpI p k ts[0]:=⟨h.len _ (List.getElem_mem h0),λy hy=>by
   have:=List.all_eq_true.1 (h.el _ (List.getElem_mem h0)) y hy
   simpa using this⟩
  have:=(hob ts[0]).2 ((hsol _ hx).2 (List.getElem_mem h0))
  exact HO hp hR (c:=λi=>(ts[0]).getD i 0) this
 have hfl':C2 k (Ad p (eqF p k ts) k)=false:=by
  unfold C2
  rw[List.any_eq_false]
  intro r hr
  have:=List.filter_eq_nil_iff.1 hfl r hr
  simpa using this
 have hiff:=λx=>KG hp hR hfl (by omega) (by omega) (x:=x)
 have hs:=AK hp hR k (by omega)
 unfold liR esA at hli⊢
 rw[hg2]at hli⊢
 simp only[if_true,Int.toNat_natCast,hfl',Bool.false_eq_true,if_false]at hli⊢
 obtain⟨F,hFe⟩: ∃F,F=Ap k (Ad p (eqF p k ts) k).2.1:=⟨_,rfl⟩
 rw[←hFe]at hli hiff⊢
 by_cases hbig:p^F.length>600
 ·rw[if_pos hbig]at hli;simp at hli
 ·rw[if_neg hbig]
  have hnd:((List.range (p.toNat^F.length)).map (DZ p k (Ad p (eqF p k ts) k) F)).Nodup:=by
   refine List.pairwise_map.2 (List.Pairwise.imp_of_mem ?_ List.nodup_range)
   intro i j hi hj hij e
   exact hij (Ie hp hs (show k<k+1 by omega) (by omega) (by omega) hFe (List.mem_range.1 hi) (List.mem_range.1 hj) e)
  refine Hp (Gg hnd) h.inc λu=>?_
  rw[(DH _).mem_iff,List.mem_map]
  constructor
  ·rintro ⟨i,hi,rfl⟩
   obtain⟨h1,h2⟩:=(hiff _).1 ⟨i,List.mem_range.1 hi,rfl⟩
   exact(hsol _ h1).1 ((hob _).1 h2)
  ·intro hu
   have hx:TpI p k u:=⟨h.len _ hu,λy hy=>by
    have:=List.all_eq_true.1 (h.el _ hu) y hy
    simpa using this⟩
   obtain⟨i,hi,e⟩:=(hiff u).2 ⟨hx,(hob _).2 ((hsol _ hx).2 hu)⟩
   exact⟨i,List.mem_range.2 hi,e⟩
end
end T
open Go Go.Va
namespace T
section
variable {p:Int} {n V W N k:Nat} {ts:List (List Int)} {f:Nat->Int} {A:List (List Int)}
def EI (n:Nat):List Int:=(List.range (n*n*n)).map (DK n)
theorem Gn:(EI n).length=n*n*n:=by simp[EI]
theorem HY (hn:1<=n): ∀x∈EI n,0<=x/\x<(n:Int):=λx hx=>by
 unfold EI at hx
 obtain⟨i,_,rfl⟩:=List.mem_map.1 hx
 unfold DK
 generalize (i/(n*n)+n-(i/n)%n+i%n)=q
 have:=Nat.mod_lt q (show 0<n by omega)
 omega
theorem J8 {a b c:Nat} (ha:a<n) (hb:b<n) (hc:c<n):(EI n).getD ((a*n+b)*n+c) 0=((a:Int)-b+c)%n:=by
 have hlt:=Im ha hb hc
 have hn:0<n:=by omega
 unfold EI
 rw[Ab (by simpa using hlt)]
 simp only[List.getElem_map,List.getElem_range]
 unfold DK
 have e1:((a*n+b)*n+c)/n=a*n+b:=by rw[Nat.mul_comm,Nat.mul_add_div hn,Nat.div_eq_of_lt hc];omega
 have e2:(a*n+b)/n=a:=by rw[Nat.mul_comm,Nat.mul_add_div hn,Nat.div_eq_of_lt hb];omega
 have e3:((a*n+b)*n+c)%n=c:=by rw[Nat.mul_comm,Nat.mul_add_mod,Nat.mod_eq_of_lt hc]
 have e4:(a*n+b)%n=b:=by rw[Nat.mul_comm,Nat.mul_add_mod,Nat.mod_eq_of_lt hb]
 have e5:((a*n+b)*n+c)/(n*n)=a:=by rw[←Nat.div_div_eq_div_mul,e1,e2]
 rw[e1,e3,e4,e5]
 have e6:(((a+n-b+c)%n:Nat):Int)=((a:Int)-b+c+n)%n:=by
  rw[Int.natCast_emod];congr 1;omega
 rw[e6]
 have:=Int.add_mul_emod_self_left ((a:Int)-b+c) n 1
 simpa using this
theorem Il {x y z:List Int} (hx:TpOk n k x) (hy:TpOk n k y) (hz:TpOk n k z) {j:Nat} (hj:j<k):(Ex n k (EI n) x y z).getD j 0=(x.getD j 0-y.getD j 0+z.getD j 0)%n:=by
 obtain⟨x1,x2,_⟩:=hx.get hj
 obtain⟨y1,y2,_⟩:=hy.get hj
 obtain⟨z1,z2,_⟩:=hz.get hj
 unfold Ex
 rw[Ab (by simpa using hj)]
 simp only[List.getElem_map,List.getElem_range]
 rw[J8 x1 y1 z1,←x2,←y2,←z2]
theorem IL (hn:1<=n/\n<=8) (hk:1<=k/\k<=4):T3Ok n k (EI n):=⟨hn,hk,Gn,HY hn.1⟩
theorem LO (hn:1<=n):opB (n:Int) (3,EI n)=true:=by
 unfold opB
 simp only[Bool.and_eq_true,decide_eq_true_eq]
 refine⟨⟨by omega,?_⟩,?_⟩
 ·rw[Gn,show Int.toNat 3=2+1 from rfl,Int.pow_succ,show(2:Nat)=1+1 from rfl,Int.pow_succ,show(1:Nat)=0+1 from rfl,Int.pow_succ,Int.pow_zero,Int.one_mul]
  push_cast;rfl
 ·unfold Ay;rw[List.all_eq_true];intro x hx;simpa using HY hn x hx
theorem HU (hn:1<=n/\n<=8):CB (n:Int)=some ((3,EI n),true)/\CC (n:Int)=some ((3,EI n),true):=by
 unfold CB CC
 have hb:Ef (n:Int)=true:=by unfold Ef;simp;omega
 rw[Db,ET,hb]
 exact⟨by simp[FD hn,EI],by simp[D3 hn,EI]⟩
theorem KP {m a b c:Nat} {T:List Int}:Gi n (3,T) ts m [a,b,c]=Ex n m T (ts.getD a []) (ts.getD b []) (ts.getD c []):=by
 unfold Gi Ex atF vt
 simp only[List.foldl_cons,List.foldl_nil,Nat.zero_mul,Nat.zero_add]
theorem Gj (h:SetOk (n:Int) k ts) {t:List Int} (ht:t∈ts):TpOk n k t:=Kc (h.len t ht) (h.el t ht)
theorem LX (h:SetOk (n:Int) k ts) (hk:1<=k):kB n 3 k (3,EI n) ((k:Int),ts)=El (n:Int) ts:=by
 have hp:=h.hp
 have hk4:=h.hk
 by_cases h0:0<ts.length
 ·have hh:ts.headD []=ts[0]:=by cases ts with|nil=>simp at h0|cons a l=>rfl
  have hb:=Gj h (List.getElem_mem h0)
  have hT:=IL (n:=n) (k:=k) (by omega) (by omega)
  rw[Bool.eq_iff_iff]
  constructor
  ·intro hkB
   unfold kB at hkB
   unfold El
   rw[List.all_eq_true]
   intro t ht
   rw[List.all_eq_true]
   intro u hu
   obtain⟨a,ha,rfl⟩:=List.mem_iff_getElem.1 ht
   obtain⟨c,hc,rfl⟩:=List.mem_iff_getElem.1 hu
   have hd:=Me (B:=ts.length) (a:=a) h0 hc
   rw[if_pos ha]at hd
   have hlt:=Im ha h0 hc
   have hpow:ts.length^3=ts.length*ts.length*ts.length:=by rw[Nat.pow_succ,Nat.pow_succ,Nat.pow_one]
   have h1:=List.all_eq_true.1 hkB ((a*ts.length+0)*ts.length+c) (List.mem_range.2 (by dsimp only;rw[hpow];exact hlt))
   dsimp only at h1
   rw[hd,KP,Ab ha,Ab h0,Ab hc,decide_eq_true_eq]at h1
   rw[decide_eq_true_eq,hh]
   have hx:=Gj h (List.getElem_mem ha)
   have hz:=Gj h (List.getElem_mem hc)
   have ho:=Gr hT hx hb hz
   have hcp:CR (n:Int) ts[a] ts[c] ts[0]=Ex n k (EI n) ts[a] ts[0] ts[c]:=by
    refine List.ext_getElem (by rw[comb_len,ho.1,hx.1]) λi i1 i2=>?_
    have hi:i<k:=by have:=ho.1;omega
    rw[Hi (by have:=hx.1;omega),←Ab (d:=0) i2,Il hx hb hz hi]
    congr 1;omega
   rw[hcp];exact h1
  ·intro ha
   unfold kB
   rw[List.all_eq_true]
   intro i _
   dsimp only
   rw[decide_eq_true_eq]
   obtain⟨a,b,c,hd⟩:=KE (EJ (b:=ts.length) (k:=3) (i:=i))
   have hlt:=Hj (b:=ts.length) (k:=3) (i:=i) h0
   rw[hd]at hlt⊢
   have h1:=hlt a (by simp);have h2:=hlt b (by simp);have h3:=hlt c (by simp)
   rw[KP]
   have m1:=AF (d:= []) h1;have m2:=AF (d:= []) h2;have m3:=AF (d:= []) h3
   generalize ts.getD a []=x at*
   generalize ts.getD b []=y at*
   generalize ts.getD c []=z at*
   have s1:Sp (n:Int) k (ts.map (Am n k ts[0])) λi=>(Am n k ts[0] x).getD i 0:=Sp.mem (List.mem_map.2 ⟨x,m1,rfl⟩)
   have s2:Sp (n:Int) k (ts.map (Am n k ts[0])) λi=>(Am n k ts[0] y).getD i 0:=Sp.mem (List.mem_map.2 ⟨y,m2,rfl⟩)
   have s3:Sp (n:Int) k (ts.map (Am n k ts[0])) λi=>(Am n k ts[0] z).getD i 0:=Sp.mem (List.mem_map.2 ⟨z,m3,rfl⟩)
   have s4:=(s1.lin s2 (-1)).lin s3 1
   obtain⟨t,ht,hti⟩:=Ik h h0 ha s4
   have hx:=Gj h m1;have hy:=Gj h m2;have hz:=Gj h m3
   have ho:=Gr hT hx hy hz
   have htt:=Gj h ht
   have:t=Ex n k (EI n) x y z:=Ja (p:=(n:Int)) (V:=k) htt ho λj hj=>by
    rw[Il hx hy hz hj]
    have d1:=E9 (p:=(n:Int)) (base:=ts[0]) (t:=x) hj
    have d2:=E9 (p:=(n:Int)) (base:=ts[0]) (t:=y) hj
    have d3:=E9 (p:=(n:Int)) (base:=ts[0]) (t:=z) hj
    have d4:=DD (DD d1 (FK (-1) d2)) (FK 1 d3)
    refine AQ (hti j hj) (AQ (DD (BC rfl) d4) ?_)
    refine AQ (BC ?_) (Dy (FV _))
    omega
   exact this▸ht
 ·have:ts= []:=List.length_eq_zero_iff.1 (by omega)
  subst this
  simp[kB,El]
theorem It {b:Nat} (hb:b<=1000):B5 (b:Int) 3=some (((b*b*b:Nat):Int)):=by
 obtain⟨f,hf⟩: ∃f,Aa=f+4:=⟨Aa-4,rfl⟩
 have h1:b*b<=1000*1000:=Nat.mul_le_mul hb hb
 have h2:b*b*b<=1000*1000*1000:=Nat.mul_le_mul h1 hb
 have e1:w64 (1*(b:Int))=((b:Nat):Int):=by rw[Int.one_mul];exact Ao (by omega) (by omega)
 have e2:w64 ((b:Int)*(b:Int))=((b*b:Nat):Int):=by rw[←Int.natCast_mul];exact Ao (by omega) (by omega)
 have e3:w64 (((b*b:Nat):Int)*(b:Int))=((b*b*b:Nat):Int):=by rw[←Int.natCast_mul];exact Ao (by omega) (by omega)
 unfold B5
 rw[hf]
 simp only[Cc,e1,e2,e3,show w64 (3-1)=2 from by decide,show w64 (2-1)=1 from by decide,show w64 (1-1)=0 from by decide,show decide ((3:Int)>0)=true from rfl,show decide ((2:Int)>0)=true from rfl,show decide ((1:Int)>0)=true from rfl,show decide ((0:Int)>0)=false from rfl,if_true,Bool.false_eq_true,if_false,Option.bind_some]
theorem HB (h:SetOk (n:Int) k ts) (hn:1<=n/\n<=8) (hk:1<=k/\k<=3) (hl:ts.length<=600):Cq (n:Int) (k:Int) ts=some (((k:Int),ts),true):=by
 have hb:Ef (n:Int)=true:=by unfold Ef;simp;omega
 unfold Cq
 rw[Db,hb]
 simp only[Option.bind_some,Bool.not_true,Bool.false_eq_true,if_false]
 rw[if_neg (by simp;omega),if_neg (by simp;omega),if_neg (by simp;omega)]
 have:=BL ts.length (λf (_:Unit) i=>BN f ((n:Int),(k:Int),ts,((0:Int),([]:List (List Int))),ts,(ts.length:Int),i)) (λ_=>()) (r:=some (.inl ((k:Int),ts,((0:Int),([]:List (List Int)))))) (λf i hi=>?_) (λf=>?_) (n:=Aa) (by unfold Aa;omega)
 ·have this:BN Aa ((n:Int),(k:Int),ts,((0:Int),([]:List (List Int))),ts,(ts.length:Int),0)=_:=this
  have hset:I7 ts=ts:=LA h.inc λ_=>Iff.rfl
  have e:=IZ (ar:=(k:Int)) (l:=ts) (by omega) λr hr=>by have:=h.len r hr;omega
  rw[hset]at e
  rw[this]
  simp only[Option.bind_some,e]
 ·have hm:=List.getElem_mem hi
  have h1:=h.len _ hm
  have e:=C9 (l:=ts[i]) (n:Int) (by omega)
  have h2:=h.el _ hm
  simp only[BN,Ae,hi,Ak hi,if_true,e,h2,Option.bind_some,Ac (show i<4611686018427387904 by omega)]
  rw[if_pos (by simp;omega),if_neg (by simp[h1]),if_neg (by simp)]
 ·simp only[BN]
  rw[if_neg (by simp)]
theorem Ij (h:SetOk (n:Int) k ts) (hn:1<=n/\n<=8) (hk:1<=k/\k<=3) (hl:ts.length<=600): ∃R:Bool×Bool,CZ (n:Int) (3,EI n) ((k:Int),ts)=some R/\(R.2=true->R.1=El (n:Int) ts):=by
 have hcube:=G5 hn
 unfold CZ Gu Fe
 have hb:Ef (n:Int)=true:=by unfold Ef;simp;omega
 have hrel:Lx (n:Int) ((k:Int),ts)=true:=by
  unfold Lx
  simp only[Bool.and_eq_true,decide_eq_true_eq,List.all_eq_true]
  exact⟨⟨by omega,λt ht=>⟨by rw[h.len t ht],h.el t ht⟩⟩,h.inc⟩
 have e1:=Ge (n:=(n:Int)) (r:=((k:Int),ts)) ⟨by show ts.length<=1048576;omega,λr hr=>by have:=h.len r hr;omega⟩
 have e2:=H8 (n:=(n:Int)) (f:=(3,EI n)) (by omega) (by show(EI n).length<=1048576;rw[Gn];omega)
 have e3:=It (b:=ts.length) (by omega)
 rw[LO hn.1]at e2
 rw[hrel]at e1
 dsimp only
 simp only[Db,hb,Option.bind_some,if_true,e1,e2,e3]
 by_cases hbig:((ts.length*ts.length*ts.length:Nat):Int)<=70000
 ·rw[if_neg (by simpa using hbig)]
  have hmany:ts.length<=64:=by
   rcases Nat.lt_or_ge 64 ts.length with h1|h1
   ·have h2:65*65<=ts.length*ts.length:=Nat.mul_le_mul h1 h1
    have h3:65*65*65<=ts.length*ts.length*ts.length:=Nat.mul_le_mul h2 h1
    omega
   ·exact h1
  have hK:KOk n 3 k (3,EI n) ((k:Int),ts):=⟨rfl,by omega,hn,by show(EI n).length=n^3;rw[Gn,Nat.pow_succ,Nat.pow_succ,Nat.pow_one],HY hn.1,rfl,by omega,h.len,λt ht x hx=>by
   have:=List.all_eq_true.1 (h.el t ht) x hx
   simpa using this,hmany,h.inc⟩
  obtain⟨z,e4,e5⟩:=Gd hK
  rw[e4]
  refine⟨(!z.2.2,true),rfl,λ_=>?_⟩
  show(!z.2.2)=_
  rw[e5,Bool.not_not,LX h hk.1]
 ·rw[if_pos (by simpa using hbig)]
  exact⟨(false,false),rfl,λe=>by simp at e⟩
end
end T
open Go Go.Va
namespace T
def GU (c:F4) (n k:Int) (out:List (List Int)):Option (F4×Int×Int×(List (List Int))):=
 (Ag (c.1,(c.2.1,c.2.2)) 40).bind λr9=>
 if r9.2==0 then
 (Af (r9.1.1,(r9.1.2.1,r9.1.2.2)) [0,9,4,6]).bind λr10=>
 some ((r10.1.1,(r10.1.2.1,r10.1.2.2)),r10.2,k,out)
 else
 if r9.2==1 then
 (Af (r9.1.1,(r9.1.2.1,r9.1.2.2)) [0,5,w64 (k+1)]).bind λr11=>
 some ((r11.1.1,(r11.1.2.1,r11.1.2.2)),n,r11.2,out)
 else
 if r9.2==2 then
 if 0<=k/\k<=k/\k<=lim then
 if out.length+ [List.replicate (Int.toNat k) (0:Int)].length<=lim then
 some ((r9.1.1,(r9.1.2.1,r9.1.2.2)),n,k,out++ [List.replicate (Int.toNat k) (0:Int)])
 else none
 else none
 else
 if r9.2==3 then
 some ((r9.1.1,(r9.1.2.1,r9.1.2.2)),n,k,[])
 else
 some ((r9.1.1,(r9.1.2.1,r9.1.2.2)),n,k,out)
structure SmallS (n k:Int) (o:List (List Int)):Prop where
 hn:0<=n/\n<=9
 hk:0<=k/\k<=5
 l:o.length<=60
 r: ∀t∈o,t.length<=5
theorem JX {j:Nat} {c:F4} (hc:Cur j c) (hj:j<=1000000) {n k:Int} (hn:0<=n/\n<=9) (hk:0<=k/\k<=4) {out:List (List Int)} (hl:out.length<=50) (hr: ∀t∈out,t.length<=5):
  ∃c' n' k' o',GU c n k out=some (c',n',k',o')/\Cur (j+4) c'/\SmallS n' k' o':=by
 obtain⟨c1,x1,e1,g1,_⟩:=Gy hc (by omega) 40 (by omega)
 have e1:Ag (c.1,(c.2.1,c.2.2)) 40=_:=e1
 unfold GU
 simp only[e1,Option.bind_some]
 by_cases h0:x1=0
 ·obtain⟨c2,x2,e2,g2,m2⟩:=Gq g1 (by omega) (l:= [0,9,4,6]) (by simp) (by simp)
  have e2:Af (c1.1,(c1.2.1,c1.2.2)) [0,9,4,6]=_:=e2
  rw[if_pos (by simpa using h0),e2]
  exact⟨c2,x2,k,out,rfl,g2.mono (by omega),⟨by simp at m2;omega,by omega,by omega,hr⟩⟩
 ·rw[if_neg (by simpa using h0)]
  by_cases h1:x1=1
  ·have ew:w64 (k+1)=k+1:=Ao (by omega) (by omega)
   obtain⟨c2,x2,e2,g2,m2⟩:=Gq g1 (by omega) (l:= [0,5,k+1]) (by simp) (by simp)
   have e2:Af (c1.1,(c1.2.1,c1.2.2)) [0,5,k+1]=_:=e2
   rw[if_pos (by simpa using h1),ew,e2]
   exact⟨c2,n,x2,out,rfl,g2.mono (by omega),⟨hn,by simp at m2;omega,by omega,hr⟩⟩
  ·rw[if_neg (by simpa using h1)]
   by_cases h2:x1=2
   ·rw[if_pos (by simpa using h2),if_pos (by unfold lim;omega),if_pos (by simp;unfold lim;omega)]
    refine⟨c1,n,k,_,rfl,g1.mono (by omega),⟨hn,by omega,by simp;omega,λt ht=>?_⟩⟩
    rcases List.mem_append.1 ht with ht|ht
    ·exact hr t ht
    ·rw[List.mem_singleton.1 ht];simp;omega
   ·rw[if_neg (by simpa using h2)]
    by_cases h3:x1=3
    ·rw[if_pos (by simpa using h3)]
     exact⟨c1,n,k,_,rfl,g1.mono (by omega),⟨hn,by omega,by simp,by simp⟩⟩
    ·rw[if_neg (by simpa using h3)]
     exact⟨c1,n,k,_,rfl,g1.mono (by omega),⟨hn,by omega,by omega,hr⟩⟩
theorem Ly {N:Nat} (hN:1<=N/\N<=9) {K:Nat} (hK:K<=4) (t9:List (List Int)) (t10:Int): ∀(d f j x:Nat) (c:F4) (o:List Int),x+d=K->d<f->Cur j c->j+2*d<=1000000->o.length=x->(∀y∈o,0<=y/\y<(N:Int))->
  ∃c' o',By f (c,(N:Int),(K:Int),t9,t10,o,(x:Int))=some (c',(N:Int),(K:Int),t9,t10,o')/\Cur (j+2*d) c'/\TpOk N K o':=by
 intro d
 induction d with
 |zero=>
  intro f j x c o hx hf hc hk ho hv
  obtain⟨f,rfl⟩: ∃z,f=z+1:=⟨f-1,by omega⟩
  refine⟨c,o,?_,hc,⟨by omega,hv⟩⟩
  simp only[By]
  rw[if_neg (by simp;omega)]
 |succ d ih=>
  intro f j x c o hx hf hc hk ho hv
  obtain⟨f,rfl⟩: ∃z,f=z+1:=⟨f-1,by omega⟩
  obtain⟨c1,x1,e1,g1,v1,v2,_⟩:=Gy hc (by omega) (N:Int) (by omega)
  have e1:Ag (c.1,(c.2.1,c.2.2)) (N:Int)=_:=e1
  obtain⟨c',o',e2,g2,l2⟩:=ih f (j+2) (x+1) c1 (o++ [x1]) (by omega) (by omega) g1 (by omega) (by simp;omega) (λy hy=>(List.mem_append.1 hy).elim (hv y) λh=>by rw[List.mem_singleton.1 h];exact⟨v1,v2 (by omega)⟩)
  refine⟨c',o',?_,g2.mono (by omega),l2⟩
  simp only[By,e1,Option.bind_some,Ac (show x<4611686018427387904 by omega)]
  rw[if_pos (by simp;omega),if_pos (by simp;unfold lim;omega)]
  exact e2
theorem L8 {N:Nat} (hN:1<=N/\N<=9) {K:Nat} (hK:K<=4): ∀(d f j:Nat) (c:F4) (o:List (List Int)),d<f->Cur j c->j+10*d<=500000->o.length+d<=1000->Dl o=true->(∀u∈o,TpOk N K u)->
  ∃c' o',AS f (c,(N:Int),(K:Int),o,(d:Int))=some (c',(N:Int),(K:Int),o')/\Cur (j+10*d) c'/\o'.length<=o.length+d/\(0<o.length+d->0<o'.length)/\ ∀u∈o',TpOk N K u:=by
 intro d
 induction d with
 |zero=>
  intro f j c o hf hc hk ho hi hl
  obtain⟨f,rfl⟩: ∃z,f=z+1:=⟨f-1,by omega⟩
  refine⟨c,o,?_,hc,by omega,λh=>h,hl⟩
  simp only[AS]
  rw[if_neg (by simp)]
 |succ d ih=>
  intro f j c o hf hc hk ho hi hl
  obtain⟨f,rfl⟩: ∃z,f=z+1:=⟨f-1,by omega⟩
  obtain⟨c1,t,e1,g1,l1⟩:=Ly hN hK o ((d+1:Nat):Int) K Aa j 0 c [] (by omega) (by unfold Aa;omega) hc (by omega) rfl (by simp)
  have e1:By Aa ((c.1,(c.2.1,c.2.2)),(N:Int),(K:Int),o,((d+1:Nat):Int),[],0)=_:=e1
  obtain⟨o1,p1,p2,p3,p4⟩:=Ga (list:=o) (t:=t) (k:=K) (by omega) (by omega) (λu hu=>(hl u hu).1) l1.1 hi
  have z1:=Lw p2 hi p3 p4
  have z2:0<o1.length:=List.length_pos_of_mem ((p3 t).2 (.inl rfl))
  obtain⟨c',o',e2,g2,l2,l3,l4⟩:=ih f (j+2*K) c1 o1 (by omega) g1 (by omega) (by omega) p2 (λu hu=>((p3 u).1 hu).elim (λh=>by rw[h];exact l1) (hl u))
  refine⟨c',o',?_,g2.mono (by omega),by omega,λ_=>l3 (by omega),l4⟩
  have ew:w64 (((d+1:Nat):Int)-1)=(d:Int):=by rw[Ao (by omega) (by omega)];omega
  simp only[AS,e1,LM,p1,Option.bind_some,ew]
  rw[if_pos (by simp)]
  exact e2
def I5 (c1:F4) (n k:Int):Option (F4×Int×Int×(List (List Int))):=
 (Ag (c1.1,(c1.2.1,c1.2.2)) 5).bind λr18=>
 (AS Aa ((r18.1.1,(r18.1.2.1,r18.1.2.2)),n,k,[],w64 (1+r18.2))).bind λs19=>
 (Ck (s19.1.1,(s19.1.2.1,s19.1.2.2)) 2).bind λr20=>
 if r20.2 then
 (CD s19.2.1).bind λr21=>
 (Dn 3 (s19.2.2.2.length:Int)).bind λr22=>
 if 0<=r22/\r22<=(s19.2.2.2.length:Int)/\0<(s19.2.2.2.length:Int)then
 (Cn (s19.2.1,[(r21.1,r21.2)]) s19.2.2.1 (s19.2.2.2,r22)).bind λr23=>
 if decide (r23.1.length=s19.2.2.2.length)then
 if r23.2.2 then GU r20.1 s19.2.1 s19.2.2.1 r23.2.1
 else GU r20.1 s19.2.1 s19.2.2.1 (r23.1.take (Int.toNat (s19.2.2.2.length:Int)))
 else none
 else none
 else GU r20.1 s19.2.1 s19.2.2.1 s19.2.2.2
theorem JW {j:Nat} {c:F4} (hc:Cur j c) (hj:j<=100000) {N K:Nat} (hN:1<=N/\N<=8) (hK:1<=K/\K<=4):
  ∃c' n' k' o',I5 c (N:Int) (K:Int)=some (c',n',k',o')/\Cur (j+100) c'/\SmallS n' k' o':=by
 obtain⟨c1,x1,e1,g1,v1,v2,_⟩:=Gy hc (by omega) 5 (by omega)
 have v2:=v2 (by omega)
 have e1:Ag (c.1,(c.2.1,c.2.2)) 5=_:=e1
 obtain⟨m,hm⟩: ∃m:Nat,w64 (1+x1)=(m:Int)/\1<=m/\m<=5:=⟨(1+x1).toNat,by rw[Ao (by omega) (by omega)];omega,by omega,by omega⟩
 obtain⟨hm,hm1,hm5⟩:=hm
 obtain⟨c2,o,e2,g2,l2,l3,l4⟩:=L8 (N:=N) (by omega) hK.2 m Aa (j+2) c1 [] (by unfold Aa;omega) g1 (by omega) (by simp;omega) rfl (by simp)
 have e2:AS Aa ((c1.1,(c1.2.1,c1.2.2)),(N:Int),(K:Int),[],(m:Int))=_:=e2
 have l3:=l3 (by simp;omega)
 simp only[List.length_nil,Nat.zero_add]at l2
 obtain⟨c3,x3,e3,g3⟩:=L6 g2 (by omega) 2 (by omega)
 have e3:Ck (c2.1,(c2.2.1,c2.2.2)) 2=_:=e3
 have hlen: ∀t∈o,t.length<=5:=λt ht=>by have:=(l4 t ht).1;omega
 have hcl: ∀out:List (List Int),out.length<=50->(∀t∈out,t.length<=5)-> ∃c' n' k' o',GU c3 (N:Int) (K:Int) out=some (c',n',k',o')/\Cur (j+100) c'/\SmallS n' k' o':=λout h1 h2=>by
  obtain⟨c',n',k',o',q1,q2,q3⟩:=JX g3 (by omega) (n:=(N:Int)) (k:=(K:Int)) (by omega) (by omega) h1 h2
  exact⟨c',n',k',o',q1,q2.mono (by omega),q3⟩
 unfold I5
 simp only[e1,Option.bind_some,hm,e2,e3]
 cases x3 with
 |false=>rw[if_neg (by simp)];exact hcl o (by omega) hlen
 |true=>
  rw[if_pos rfl,D3 hN]
  obtain⟨q,hq⟩: ∃q:Nat,Dn 3 (o.length:Int)=some (q:Int)/\q<=o.length:=by
   unfold Dn
   by_cases h:(3:Int)<(o.length:Int)
   ·exact⟨3,by rw[if_pos (by simpa using h)];rfl,by omega⟩
   ·exact⟨o.length,by rw[if_neg (by simpa using h)],by omega⟩
  obtain⟨L,hG,e5⟩:=GG (IL (n:=N) (k:=K) hN hK) (G:=o) (gb:=(q:Int)) (by omega) l4 (by omega)
  have e5:Cn ((N:Int),[(3,(List.range (N*N*N)).map (DK N))]) (K:Int) (o,(q:Int))=_:=e5
  simp only[Option.bind_some,hq.1]
  rw[if_pos (by omega),e5]
  simp only[Option.bind_some,decide_true,if_true]
  have hp:=DH L
  by_cases h40:L.length<=40
  ·rw[if_pos (by simpa using h40)]
   refine hcl _ (by rw[hp.length_eq];omega) λt ht=>?_
   have:=((hG.cl.sub t (hp.mem_iff.1 ht)).ok (IL hN hK) λu hu=>l4 u (List.mem_of_mem_take hu)).1
   omega
  ·rw[if_neg (by simpa using h40)]
   exact hcl _ (by rw[List.length_take];omega) λt ht=>hlen t (List.mem_of_mem_take ht)
theorem KQ {c:F4} (hc:Cur 0 c) (b:Bool): ∃c' n k o,D1 c b=some (c',n,k,o)/\Cur 200 c'/\SmallS n k o:=by
 obtain⟨c1,n,e1,g1,m1⟩:=Gq hc (by omega) (l:= [2,3,3,2,5,4]) (by simp) (by simp)
 obtain⟨c2,k,e2,g2,m2⟩:=Gq g1 (by omega) (l:= [1,2,2,3,3,4]) (by simp) (by simp)
 have e1:Af (c.1,(c.2.1,c.2.2)) [2,3,3,2,5,4]=_:=e1
 have e2:Af (c1.1,(c1.2.1,c1.2.2)) [1,2,2,3,3,4]=_:=e2
 have h1:2<=n/\n<=5:=by simp at m1;omega
 have h2:1<=k/\k<=4:=by simp at m2;omega
 obtain⟨N,rfl⟩: ∃N:Nat,n=(N:Int):=⟨n.toNat,by omega⟩
 obtain⟨K,rfl⟩: ∃K:Nat,k=(K:Int):=⟨k.toNat,by omega⟩
 have hR: ∀M:Nat,1<=M/\M<=8-> ∃c' n k o,I5 c2 (M:Int) (K:Int)=some (c',n,k,o)/\Cur 200 c'/\SmallS n k o:=λM hM=>by
  obtain⟨c',n',k',o',q1,q2,q3⟩:=JW g2 (by omega) hM (K:=K) (by omega)
  exact⟨c',n',k',o',q1,q2.mono (by omega),q3⟩
 unfold D1
 simp only[e1,e2,Option.bind_some]
 cases b with
 |false=>rw[if_neg (by simp)];exact hR N (by omega)
 |true=>
  rw[if_pos rfl]
  by_cases h4:(N:Int)=4
  ·rw[if_pos (by simpa using h4)];exact hR 7 (by omega)
  ·rw[if_neg (by simpa using h4)];exact hR N (by omega)
end T
open Go Go.Va
namespace T
theorem Mu {code:List Int} (h1:code.length<=65536) (h2: ∀x∈code,0<=x/\x<256):Cur 0 (code,(0,0)):=⟨h1,h2,by simp,by simp⟩
theorem Gb {code:List Int} (h1:code.length<=65536) (h2: ∀x∈code,0<=x/\x<256): ∃n k o,Dd code=some (n,k,o)/\SmallS n k o:=by
 obtain⟨c',n,k,o,e,_,hS⟩:=KQ (Mu h1 h2) true
 refine⟨n,k,o,?_,hS⟩
 unfold Dd Eg
 rw[e];rfl
theorem K1 {f:Opn} (h:f.2.length<=1048576):Fg f f=some true:=by
 unfold Fg
 rw[if_pos (by simp),Jb h];rfl
theorem FnAffineSets_law {code:List Int} (h:wfT (.slice (.num .u8)) code):EZ code=some true:=by
 unfold EZ HN
 simp only[Option.bind_some]
 by_cases hb:(code.length:Int)>65536
 ·rw[if_pos (decide_eq_true hb)]
 ·rw[if_neg (by simpa using hb)]
  have h1:code.length<=65536:=by omega
  have h2: ∀x∈code,0<=x/\x<256:=λx hx=>by
   have:IntKind.u8.min<=x/\x<=IntKind.u8.max:=h.2 x hx
   have e1:IntKind.u8.min=0:=by decide
   have e2:IntKind.u8.max=255:=by decide
   omega
  obtain⟨p,kk,ts,ed,hS⟩:=Gb h1 h2
  have hl:=hS.l
  have hr: ∀t∈ts,t.length<=1099511627775:=λt ht=>by have:=hS.r t ht;omega
  obtain⟨q1,q2⟩:=G3 (p:=p) (kk:=kk) (ts:=ts) (by omega) hr
  have i1:=Ew (p:=p) (k:=kk) (ts:=ts) (by omega) hr
  have i2:=F6 (p:=p) (k:=kk) (ts:=ts) (by omega) hr
  obtain⟨Q,a1,a2,a3⟩:=Ii p
  have a4:Fg (Q.1.1,Q.1.2) (Q.1.1,Q.1.2)=_:=K1 (f:=Q.1) (by omega)
  have hbe: ∀b:Bool,(b !=b)=false:=λb=>by cases b<;>rfl
  simp only[ed,q1,q2,i1,i2,a1,a2,a4,hbe,Option.bind_some,Bool.false_eq_true,if_false,Bool.not_true]
  have v0:Ai (0,(0,[])) (0,(0,[]))=some true:=GI ⟨by simp,by simp⟩
  cases hg:Cp p&&Es p kk ts with
  |false=>
   have e1:eqR p kk ts=((0,(0,[])),false):=by unfold eqR;rw[hg];rfl
   have e2:Gw p kk ts=(false,false):=by unfold Gw;rw[hg];rfl
   simp only[e1,e2,v0,Option.bind_some]
   simp
  |true=>
   have e2:Gw p kk ts=(El p ts,true):=by unfold Gw;rw[hg];rfl
   simp only[Bool.and_eq_true]at hg
   obtain⟨hp,hs⟩:=hg
   have hp4:=I3 hp
   have hSet:=Fj hp hs
   have hset:=hs
   unfold Es at hset
   simp only[Bool.and_eq_true,decide_eq_true_eq]at hset
   have hpb:2<=p/\p<=7:=hSet.hp
   obtain⟨N,rfl⟩: ∃N:Nat,p=(N:Int):=⟨p.toNat,by omega⟩
   obtain⟨K,rfl⟩: ∃K:Nat,kk=(K:Int):=⟨kk.toNat,by omega⟩
   rw[Int.toNat_natCast]at hSet
   obtain⟨w1,w2⟩:=HU (n:=N) (by omega)
   have hQ:Q=((3,EI N),true):=by rw[w1]at a1;exact(Option.some.inj a1).symm
   subst hQ
   have hrel:K<=3->Cq (N:Int) (K:Int) ts=some (((K:Int),ts),true):=λhk=>HB hSet (by omega) (by omega) (by omega)
   have hkeep:K<=3-> ∃R:Bool×Bool,CZ (N:Int) (3,EI N) ((K:Int),ts)=some R/\(R.2=true->R.1=El (N:Int) ts):=λhk=>Ij hSet (by omega) (by omega) (by omega)
   cases ha:El (N:Int) ts with
   |false=>
    rw[ha]at e2
    have e1:eqR (N:Int) (K:Int) ts=((0,(0,[])),false):=by unfold eqR;rw[hp,hs,ha];simp
    simp only[e1,e2,v0,Option.bind_some,Bool.not_true,Bool.false_eq_true,if_false,if_true,hbe]
    by_cases hk3:(K:Int)<=3
    ·obtain⟨R,k1,k2⟩:=hkeep (by omega)
     rw[ha]at k2
     simp only[hk3,decide_true,if_true,hrel (by omega),k1,Option.bind_some,Bool.not_true,Bool.false_eq_true,if_false]
     cases hR:R.2 with
     |false=>simp
     |true=>rw[k2 hR];simp
    ·simp[hk3]
   |true=>
    rw[ha]at e2
    by_cases h0:0<ts.length
    ·have e1:eqR (N:Int) (K:Int) ts=(((N:Int),((K:Int),eqF N K ts)),true):=by unfold eqR;rw[hp,hs,ha];simp[h0]
     obtain⟨f1,f2,f3⟩:=Kn hp4 hSet h0 ha
     have v1:Ai ((N:Int),((K:Int),eqF N K ts)) ((N:Int),((K:Int),eqF N K ts))=some true:=GI f1
     have el:=(J7 f1).1
     rw[f2]at el
     have li:=(IK f1).1
     have vt:AR ts ts=some true:=IH (by omega) λr hr=>by have:=hS.r r hr;omega
     have hd:decide ((ts.length:Int)>0)=true:=decide_eq_true (by omega)
     simp only[e1,e2,v1,Option.bind_some,Bool.not_true,Bool.false_eq_true,if_false,if_true,hbe,hd,el,li]
     have fin:(if(liR ((N:Int),((K:Int),eqF N K ts))).2 then(AR (liR ((N:Int),((K:Int),eqF N K ts))).1 ts).bind (λr13=>if !r13 then some false else some true)else some true)=some true:=by
      cases hli:(liR ((N:Int),((K:Int),eqF N K ts))).2 with
      |false=>simp
      |true=>rw[f3 hli,vt];simp
     by_cases hk3:(K:Int)<=3
     ·obtain⟨R,k1,k2⟩:=hkeep (by omega)
      rw[ha]at k2
      simp only[hk3,decide_true,if_true,hrel (by omega),k1,Option.bind_some,Bool.not_true,Bool.false_eq_true,if_false]
      cases hR:R.2 with
      |false=>simpa using fin
      |true=>rw[k2 hR];simpa using fin
     ·simpa[hk3]using fin
    ·have hts:ts= []:=List.length_eq_zero_iff.1 (by omega)
     have e1:eqR (N:Int) (K:Int) ts=((0,(0,[])),false):=by unfold eqR;rw[hp,hs,ha];simp[h0]
     have hd:decide ((ts.length:Int)>0)=false:=decide_eq_false (by omega)
     simp only[e1,e2,v0,Option.bind_some,Bool.not_true,Bool.false_eq_true,if_false,if_true,hbe,hd]
     by_cases hk3:(K:Int)<=3
     ·obtain⟨R,k1,k2⟩:=hkeep (by omega)
      rw[ha]at k2
      simp only[hk3,decide_true,if_true,hrel (by omega),k1,Option.bind_some,Bool.not_true,Bool.false_eq_true,if_false]
      cases hR:R.2 with
      |false=>simp
      |true=>rw[k2 hR];simp
     ·simp[hk3]
end T
open Go Go.Va
namespace T
section
variable {n:Int} {k:Nat} {ts W:List (List Int)}
def WitOf (ts:List (List Int)) (k:Nat) (W:List (List Int)):Prop:= ∀w,w∈W↔ ∃(i:Nat) (x y:Int) (p q:Nat),i<k/\KK ts i x y=some (p,q)/\(w=ts.getD p []∨w=ts.getD q [])
theorem WitOf.sub (h:WitOf ts k W) {w:List Int} (hw:w∈W):w∈ts:=by
 obtain⟨i,x,y,p,q,_,h2,h3⟩:=(h w).1 hw
 obtain⟨g1,g2,_⟩:=I1 h2
 rcases h3 with rfl|rfl
 ·exact AF g1
 ·exact AF g2
theorem WitOf.set {N:Int} {kk:Int} (h:WitOf ts kk.toNat W) (hs:Es N kk ts=true) (hi:Dl W=true):Es N kk W=true:=by
 unfold Es at hs⊢
 simp only[Bool.and_eq_true,List.all_eq_true]at hs⊢
 exact⟨⟨hs.1.1,λw hw=>hs.1.2 w (h.sub hw)⟩,hi⟩
end
end T
