/- Plain lemmas on the typed functions of the program, and the plain law of FnWitnesses; no conditions. -/
import Derived.Test.YtgeboeaoblppcaaV1
import Derived.Test.YtgeboeaoblppcaaV5
import Derived.KernelRfl
import Derived.Test.YtgeboeaoblppcaaOFnWitnesses
set_option linter.all false
open Go Go.Va
namespace T
section
variable {n:Int} {k:Nat} {ts:List (List Int)}
def FZ (ts:List (List Int)) (i a b:Nat) (fs:List (List Int)):Prop:=(∀r∈fs,∃j,a<=j/\j<b/\r=ts.getD j []/\ ∀j',a<=j'->j'<j->AP ts i j'≠AP ts i j)/\(∀j,a<=j->j<b-> ∃r∈fs,r.getD i 0=AP ts i j)/\fs.length<=b-a
theorem Fw (h:TupS n k ts) {i a b:Nat} (hi:i<k) (ha:a<ts.length) (hb:b<ts.length):Av ts (i+1) a=Av ts (i+1) b↔Av ts i a=Av ts i b/\AP ts i a=AP ts i b:=by
 have la:=h.lenj ha
 have lb:=h.lenj hb
 unfold Av AP
 rw[List.take_succ_eq_append_getElem (show i<(ts.getD a []).length by omega),List.take_succ_eq_append_getElem (show i<(ts.getD b []).length by omega),AC (show i<(ts.getD a []).length by omega),AC (show i<(ts.getD b []).length by omega)]
 constructor
 ·intro e
  have:=List.append_inj' e rfl
  exact⟨this.1,by simpa using this.2⟩
 ·rintro ⟨e1,e2⟩
  rw[e1,e2]
theorem Hi (h:TupS n k ts) {i a b:Nat} (hi:i<k) (hb:b<ts.length) (hp: ∀j,a<=j->j<b+1->Av ts i j=Av ts i a) (hv:a<b->AP ts i b≠AP ts i (b-1)): ∀j',a<=j'->j'<b->AP ts i j'≠AP ts i b:=by
 intro j' h1 h2 e
 have hpe:Av ts i j'=Av ts i b:=(hp j' h1 (by omega)).trans (hp b (by omega) (by omega)).symm
 have h3:=(Fw h hi (by omega) hb).2 ⟨hpe,e⟩
 have h4:=h.conv (show j'<=b-1 by omega) (show b-1<=b by omega) hb h3
 have h5:=(Fw h hi (show b-1<ts.length by omega) (show j'<ts.length by omega)).1 h4
 exact hv (by omega) (e.symm.trans h5.2.symm)
theorem HR (h:TupS n k ts) {i:Nat} (hi:i<k) {a:Nat} (ha:a<ts.length) (t2:WSt): ∀(d f b:Nat) (fs:List (List Int)),b+d=ts.length->d<f->a<=b->(∀j,a<=j->j<b->Av ts i j=Av ts i a)->FZ ts i a b fs->
  ∃(b':Nat) (fs':List (List Int)),Ac f ((k:Int),ts,t2,(i:Int),(a:Int),(b:Int),fs)=some ((k:Int),ts,t2,(i:Int),(b':Int),fs')/\b<=b'/\b'<=ts.length/\(∀j,a<=j->j<b'->Av ts i j=Av ts i a)/\(b'<ts.length->Av ts i b'≠Av ts i a)/\FZ ts i a b' fs':=by
 have hc:=h.count
 have hlim:lim=1099511627776:=rfl
 intro d
 induction d with
 |zero=>
  intro f b fs hb hf hab hp hF
  obtain⟨f,rfl⟩: ∃z,f=z+1:=⟨f-1,by omega⟩
  refine⟨b,fs,?_,Nat.le_refl _,by omega,hp,λhh=>by omega,hF⟩
  simp only[Ac]
  rw[if_neg (by simp;omega)]
 |succ d ih=>
  intro f b fs hb hf hab hp hF
  obtain⟨f,rfl⟩: ∃z,f=z+1:=⟨f-1,by omega⟩
  have hbl:b<ts.length:=by omega
  have la:=h.lenj ha
  have lb:=h.lenj hbl
  have ga:gd ts (a:Int) []=ts.getD a []:=by unfold gd;simp
  have gb:gd ts (b:Int) []=ts.getD b []:=by unfold gd;simp
  have hs:=Dk (x:=(ts.getD a []).take i) (y:=(ts.getD b []).take i) (by have:=h.hk;rw[List.length_take];omega)
  have e0:(Ac (f+1) ((k:Int),ts,t2,(i:Int),(a:Int),(b:Int),fs))=if Av ts i a=Av ts i b then(if(b:Int)==(a:Int)then Ac f ((k:Int),ts,t2,(i:Int),(a:Int),((b+1:Nat):Int),fs++ [ts.getD b []])else if AP ts i b !=AP ts i (b-1)then Ac f ((k:Int),ts,t2,(i:Int),(a:Int),((b+1:Nat):Int),fs++ [ts.getD b []])else Ac f ((k:Int),ts,t2,(i:Int),(a:Int),((b+1:Nat):Int),fs))else some ((k:Int),ts,t2,(i:Int),(b:Int),fs):=by
   have hFl:=hF.2.2
   simp only[Ac,Aj,ha,hbl,if_true,ga,gb,GR,hs,Option.bind_some,Af (show b<4611686018427387904 by omega)]
   rw[if_pos (by simp;omega),if_pos (by omega),if_pos (by omega)]
   unfold Av
   by_cases hpe:(ts.getD a []).take i=(ts.getD b []).take i
   ·rw[if_pos (by simpa using hpe),if_pos hpe]
    by_cases hba:(b:Int)==(a:Int)
    ·rw[if_pos hba,if_pos hba,if_pos (by simp;omega)]
    ·rw[if_neg hba,if_neg hba]
     have hb0:0<b:=by simp at hba;omega
     have hb1:b-1<ts.length:=by omega
     have lb1:=h.lenj hb1
     have gb1:gd ts ((b-1:Nat):Int) []=ts.getD (b-1) []:=by unfold gd;simp
     have q1:i<(ts.getD b []).length:=by omega
     have q2:i<(ts.getD (b-1) []).length:=by omega
     simp only[Ej (show b<4611686018427387904 by omega) hb0,Aj,hb1,gb1,q1,q2,if_true,Ec]
     unfold AP
     by_cases hv:(ts.getD b []).getD i 0=(ts.getD (b-1) []).getD i 0
     ·rw[if_neg (by simp only[hv];simp),if_neg (by simp only[hv];simp)]
     ·rw[if_pos (by simpa using hv),if_pos (by simp;omega),if_pos (by simpa using hv)]
   ·rw[if_neg (by simpa using hpe),if_neg hpe]
  rw[e0]
  by_cases hpe:Av ts i a=Av ts i b
  ·rw[if_pos hpe]
   have hp': ∀j,a<=j->j<b+1->Av ts i j=Av ts i a:=λj h1 h2=>by
    rcases Nat.lt_or_ge j b with hlt|hge
    ·exact hp j h1 hlt
    ·have:j=b:=by omega
     rw[this,hpe]
   have add:(a<b->AP ts i b≠AP ts i (b-1))->FZ ts i a (b+1) (fs++ [ts.getD b []]):=λhnew=>by
    refine⟨λr hr=>?_,λj h1 h2=>?_,?_⟩
    ·rcases List.mem_append.1 hr with hr|hr
     ·obtain⟨j,q1,q2,q3⟩:=hF.1 r hr
      exact⟨j,q1,by omega,q3⟩
     ·exact⟨b,hab,by omega,List.mem_singleton.1 hr,Hi h hi hbl hp' hnew⟩
    ·rcases Nat.lt_or_ge j b with hlt|hge
     ·obtain⟨r,q1,q2⟩:=hF.2.1 j h1 hlt
      exact⟨r,List.mem_append_left _ q1,q2⟩
     ·have:j=b:=by omega
      subst this
      exact⟨_,List.mem_append_right _ (List.mem_singleton.2 rfl),rfl⟩
    ·have:=hF.2.2
     rw[List.length_append,List.length_singleton];omega
   have nx: ∀fs',FZ ts i a (b+1) fs'-> ∃(b':Nat) (fs'':List (List Int)),Ac f ((k:Int),ts,t2,(i:Int),(a:Int),((b+1:Nat):Int),fs')=some ((k:Int),ts,t2,(i:Int),(b':Int),fs'')/\b<=b'/\b'<=ts.length/\(∀j,a<=j->j<b'->Av ts i j=Av ts i a)/\(b'<ts.length->Av ts i b'≠Av ts i a)/\FZ ts i a b' fs'':=λfs' hF'=>by
    obtain⟨b',fs'',q1,q2,q3⟩:=ih f (b+1) fs' (by omega) (by omega) (by omega) hp' hF'
    exact⟨b',fs'',q1,by omega,q3⟩
   by_cases hba:(b:Int)==(a:Int)
   ·rw[if_pos hba];exact nx _ (add λh=>by simp at hba;omega)
   ·rw[if_neg hba]
    by_cases hv:AP ts i b=AP ts i (b-1)
    ·rw[if_neg (by simp[hv])]
     have hb0:a<b:=by simp at hba;omega
     refine nx _ ⟨λr hr=>?_,λj h1 h2=>?_,?_⟩
     ·obtain⟨j,q1,q2,q3⟩:=hF.1 r hr
      exact⟨j,q1,by omega,q3⟩
     ·rcases Nat.lt_or_ge j b with hlt|hge
      ·exact hF.2.1 j h1 hlt
      ·have:j=b:=by omega
       subst this
       rw[hv]
       exact hF.2.1 (j-1) (by omega) (by omega)
     ·have:=hF.2.2;omega
    ·rw[if_pos (by simpa using hv)];exact nx _ (add λ_=>hv)
  ·rw[if_neg hpe]
   exact⟨b,fs,rfl,Nat.le_refl _,by omega,hp,λ_ e=>hpe e.symm,hF⟩
theorem EN {p:Nat->Bool} {N a:Nat} (h:(List.range N).find? p=some a):a<N/\p a=true/\ ∀b,b<a->p b=false:=by
 refine⟨List.mem_range.1 (List.mem_of_find?_eq_some h),List.find?_some h,λb hb=>?_⟩
 rw[List.find?_range_eq_some]at h
 have:=h.2.2 b hb
 simpa using this
theorem E4 {i:Nat} {x y:Int} {p q:Nat}:Ch ts i x y=some (p,q)↔p<ts.length/\q<ts.length/\AP ts i p=x/\AP ts i q=y/\Av ts i p=Av ts i q/\
  (∀p' q',p'<ts.length->q'<ts.length->AP ts i p'=x->AP ts i q'=y->Av ts i p'=Av ts i q'->p<=p')/\(∀q',q'<ts.length->AP ts i q'=y->Av ts i p=Av ts i q'->q<=q'):=by
 have cb: ∀a b,Eu ts i x y a b=true↔AP ts i a=x/\AP ts i b=y/\Av ts i a=Av ts i b:=λa b=>by
  unfold Eu;simp only[Bool.and_eq_true,beq_iff_eq,decide_eq_true_eq]
 have fwd: ∀ {p q},Ch ts i x y=some (p,q)->p<ts.length/\q<ts.length/\AP ts i p=x/\AP ts i q=y/\Av ts i p=Av ts i q/\
  (∀p' q',p'<ts.length->q'<ts.length->AP ts i p'=x->AP ts i q'=y->Av ts i p'=Av ts i q'->p<=p')/\(∀q',q'<ts.length->AP ts i q'=y->Av ts i p=Av ts i q'->q<=q'):=fun {p q} h=>by
  obtain⟨h1,h2,h3,h4,h5⟩:=Bt h
  unfold Ch at h
  rw[List.findSome?_eq_some_iff]at h
  obtain⟨l1,a,l2,hl,ha,hn⟩:=h
  obtain⟨b,hb,hab⟩:=Option.map_eq_some_iff.1 ha
  obtain⟨rfl,rfl⟩:=Prod.mk.inj hab
  obtain⟨g1,g2,g3⟩:=EN hb
  refine⟨h1,h2,h3,h4,h5,λp' q' hp hq e1 e2 e3=>?_,λq' hq e1 e2=>?_⟩
  ·rcases Nat.lt_or_ge p' a with hlt|hge
   ·have hm:p'∈l1:=by
     have hr:(List.range ts.length).Pairwise (· < ·):=List.pairwise_lt_range
     rw[hl]at hr
     have hp':p'∈List.range ts.length:=List.mem_range.2 hp
     rw[hl,List.mem_append,List.mem_cons]at hp'
     rcases hp' with h|h|h
     ·exact h
     ·omega
     ·rw[List.pairwise_append]at hr
      have:=(List.pairwise_cons.1 hr.2.1).1 p' h
      omega
    have hnone:=hn p' hm
    rw[Option.map_eq_none_iff]at hnone
    unfold bO at hnone
    rw[List.find?_eq_none]at hnone
    exact absurd ((cb p' q').2 ⟨e1,e2,e3⟩) (hnone q' (List.mem_range.2 hq))
   ·exact hge
  ·rcases Nat.lt_or_ge q' b with hlt|hge
   ·have:=g3 q' hlt
    rw[(cb a q').2 ⟨h3,e1,e2⟩]at this;cases this
   ·exact hge
 refine⟨fwd,λ⟨h1,h2,h3,h4,h5,h6,h7⟩=>?_⟩
 cases hp:Ch ts i x y with
 |none=>exact(D6 hp h1 h2 h3 h4 h5).elim
 |some r=>
  obtain⟨p',q'⟩:=r
  obtain⟨g1,g2,g3,g4,g5,g6,g7⟩:=fwd hp
  have e1:p'=p:=Nat.le_antisymm (g6 p q h1 h2 h3 h4 h5) (h6 p' q' g1 g2 g3 g4 g5)
  subst e1
  have e2:q'=q:=Nat.le_antisymm (g7 q h2 h4 h5) (h7 q' g2 g4 g5)
  rw[e2]
def WB (i a i' p q:Nat):Prop:=i'<i∨(i'=i/\p<a/\q<a)
structure WInv (ts:List (List Int)) (i a:Nat) (s:WSt):Prop where
 key: ∀(i':Nat) (x y:Int),YbP [(i':Int),x,y]∈s.1↔ ∃p q,p<ts.length/\q<ts.length/\AP ts i' p=x/\AP ts i' q=y/\Av ts i' p=Av ts i' q/\WB i a i' p q
 mem: ∀w,w∈s.2↔ ∃(i':Nat) (x y:Int) (p q:Nat),Ch ts i' x y=some (p,q)/\WB i a i' p q/\(w=ts.getD p []∨w=ts.getD q [])
theorem WInv.next {i:Nat} {s:WSt} (h:WInv ts i ts.length s):WInv ts (i+1) 0 s:=by
 have e: ∀i' p q,p<ts.length->q<ts.length->(WB i ts.length i' p q↔WB (i+1) 0 i' p q):=λi' p q h1 h2=>by unfold WB;omega
 refine⟨λi' x y=>(h.key i' x y).trans ⟨?_,?_⟩,λw=>(h.mem w).trans ⟨?_,?_⟩⟩
 ·rintro ⟨p,q,h1,h2,h3,h4,h5,h6⟩;exact⟨p,q,h1,h2,h3,h4,h5,(e i' p q h1 h2).1 h6⟩
 ·rintro ⟨p,q,h1,h2,h3,h4,h5,h6⟩;exact⟨p,q,h1,h2,h3,h4,h5,(e i' p q h1 h2).2 h6⟩
 ·rintro ⟨i',x,y,p,q,h1,h2,h3⟩
  have:=Bt h1
  exact⟨i',x,y,p,q,h1,(e i' p q this.1 this.2.1).1 h2,h3⟩
 ·rintro ⟨i',x,y,p,q,h1,h2,h3⟩
  have:=Bt h1
  exact⟨i',x,y,p,q,h1,(e i' p q this.1 this.2.1).2 h2,h3⟩
theorem WInv.group (h:TupS n k ts) {i a b:Nat} (hab:a<b) (hb:b<=ts.length) (hp: ∀j,a<=j->j<b->Av ts i j=Av ts i a) (hq:b<ts.length->Av ts i b≠Av ts i a) (h0:0<a->Av ts i (a-1)≠Av ts i a)
  {fs:List (List Int)} (hF:FZ ts i a b fs) {s s':WSt} (hs:WInv ts i a s) (hP:PairsW i s (λt u=>t∈fs/\u∈fs) s'):WInv ts i b s':=by
 have inG: ∀j l,a<=j->j<b->l<ts.length->Av ts i j=Av ts i l->a<=l/\l<b:=λj l h1 h2 h3 h4=>by
  constructor
  ·rcases Nat.lt_or_ge l a with hlt|hge
   ·exfalso
    have h5:=h.conv (i:=i) (show l<=a-1 by omega) (show a-1<=j by omega) (by omega) h4.symm
    exact h0 (by omega) (h5.trans (h4.symm.trans (hp j h1 h2)))
   ·exact hge
  ·rcases Nat.lt_or_ge l b with hlt|hge
   ·exact hlt
   ·exfalso
    have h5:=h.conv (i:=i) (show j<=b by omega) hge h3 h4
    exact hq (by omega) (h5.trans (hp j h1 h2))
 have valg: ∀j,(ts.getD j []).getD i 0=AP ts i j:=λj=>rfl
 refine⟨λi' x y=>?_,λw=>?_⟩
 ·rw[hP.key,hs.key]
  constructor
  ·rintro (⟨p,q,h1,h2,h3,h4,h5,h6⟩|⟨t,u,⟨ht,hu⟩,hk⟩)
   ·exact⟨p,q,h1,h2,h3,h4,h5,by unfold WB at h6⊢;omega⟩
   ·obtain⟨j,j1,j2,rfl,_⟩:=hF.1 t ht
    obtain⟨l,l1,l2,rfl,_⟩:=hF.1 u hu
    have hk:=Yem hk
    simp only[List.cons.injEq,and_true]at hk
    obtain⟨k1,rfl,rfl⟩:=hk
    have:i'=i:=by omega
    subst this
    exact⟨j,l,by omega,by omega,rfl,rfl,(hp j j1 j2).trans (hp l l1 l2).symm,.inr ⟨rfl,j2,l2⟩⟩
  ·rintro ⟨p,q,h1,h2,h3,h4,h5,h6⟩
   rcases h6 with h6|⟨rfl,h6,h7⟩
   ·exact .inl ⟨p,q,h1,h2,h3,h4,h5,.inl h6⟩
   ·rcases Nat.lt_or_ge p a with hlt|hge
    ·rcases Nat.lt_or_ge q a with hlt'|hge'
     ·exact .inl ⟨p,q,h1,h2,h3,h4,h5,.inr ⟨rfl,hlt,hlt'⟩⟩
     ·have:=(inG q p hge' h7 h1 h5.symm).1;omega
    ·have hq':=(inG p q hge h6 h2 h5).1
     obtain⟨t,ht,et⟩:=hF.2.1 p hge h6
     obtain⟨u,hu,eu⟩:=hF.2.1 q hq' h7
     refine .inr ⟨t,u,⟨ht,hu⟩,?_⟩
     unfold Ee
     rw[et,eu,h3,h4]
 ·rw[hP.mem,hs.mem]
  constructor
  ·rintro (⟨i',x,y,p,q,h1,h2,h3⟩|⟨t,u,⟨ht,hu⟩,hk,hw⟩)
   ·exact⟨i',x,y,p,q,h1,by unfold WB at h2⊢;omega,h3⟩
   ·obtain⟨j,j1,j2,rfl,j3⟩:=hF.1 t ht
    obtain⟨l,l1,l2,rfl,l3⟩:=hF.1 u hu
    refine⟨i,AP ts i j,AP ts i l,j,l,E4.2 ⟨by omega,by omega,rfl,rfl,(hp j j1 j2).trans (hp l l1 l2).symm,λp' q' e1 e2 e3 e4 e5=>?_,λq' e1 e2 e3=>?_⟩,.inr ⟨rfl,j2,l2⟩,hw⟩
    ·rcases Nat.lt_or_ge p' a with hlt|hge
     ·exfalso
      rcases Nat.lt_or_ge q' a with hlt'|hge'
      ·refine hk ?_
       unfold Ee
       rw[hs.key]
       exact⟨p',q',e1,e2,e3,e4,e5,.inr ⟨rfl,hlt,hlt'⟩⟩
      ·rcases Nat.lt_or_ge q' b with hlt2|hge2
       ·have:=(inG q' p' hge' hlt2 e1 e5.symm).1;omega
       ·have h5:=h.conv (i:=i) (show p'<=a-1 by omega) (show a-1<=q' by omega) e2 e5
        have h6:=h.conv (i:=i) (show p'<=a by omega) (show a<=q' by omega) e2 e5
        exact h0 (by omega) (h5.trans h6.symm)
     ·rcases Nat.lt_or_ge p' j with hlt|hge2
      ·exact absurd e3 (j3 p' hge hlt)
      ·exact hge2
    ·obtain⟨g1,g2⟩:=inG j q' j1 j2 e1 e3
     rcases Nat.lt_or_ge q' l with hlt|hge2
     ·exact absurd e2 (l3 q' g1 hlt)
     ·exact hge2
  ·rintro ⟨i',x,y,p,q,h1,h2,h3⟩
   rcases h2 with h2|⟨rfl,h6,h7⟩
   ·exact .inl ⟨i',x,y,p,q,h1,.inl h2,h3⟩
   ·obtain⟨g1,g2,g3,g4,g5,g6,g7⟩:=E4.1 h1
    rcases Nat.lt_or_ge p a with hlt|hge
    ·rcases Nat.lt_or_ge q a with hlt'|hge'
     ·exact .inl ⟨i',x,y,p,q,h1,.inr ⟨rfl,hlt,hlt'⟩,h3⟩
     ·have:=(inG q p hge' h7 g1 g5.symm).1;omega
    ·have hq':=(inG p q hge h6 g2 g5).1
     obtain⟨t,ht,et⟩:=hF.2.1 p hge h6
     obtain⟨u,hu,eu⟩:=hF.2.1 q hq' h7
     obtain⟨j,j1,j2,rfl,j3⟩:=hF.1 t ht
     obtain⟨l,l1,l2,rfl,l3⟩:=hF.1 u hu
     have et:AP ts i' j=AP ts i' p:=et
     have eu:AP ts i' l=AP ts i' q:=eu
     have ej:j=p:=by
      have a1:=g6 j q (by omega) g2 (et.trans g3) g4 ((hp j j1 j2).trans (hp q hq' h7).symm)
      rcases Nat.lt_or_ge p j with hlt|hge2
      ·exact absurd et.symm (j3 p hge hlt)
      ·omega
     have el:l=q:=by
      have a1:=g7 l (by omega) (eu.trans g4) ((hp p hge h6).trans (hp l l1 l2).symm)
      rcases Nat.lt_or_ge q l with hlt|hge2
      ·exact absurd eu.symm (l3 q hq' hlt)
      ·omega
     subst ej
     subst el
     refine .inr ⟨_,_,⟨ht,hu⟩,λhk=>?_,h3⟩
     unfold Ee at hk
     rw[hs.key]at hk
     obtain⟨p',q',e1,e2,e3,e4,e5,e6⟩:=hk
     have e3:AP ts i' p'=AP ts i' j:=e3
     have e4:AP ts i' q'=AP ts i' l:=e4
     have:=g6 p' q' e1 e2 (e3.trans g3) (e4.trans g4) e5
     unfold WB at e6
     omega
theorem HQ (h:TupS n k ts) {i:Nat} (hi:i<k): ∀(d f a:Nat) (s:WSt),a+d=ts.length->d<f->(0<a->a<ts.length->Av ts i (a-1)≠Av ts i a)->WInv ts i a s->s.2.length+8192*d<=700000000->
  ∃s',Ai f ((k:Int),ts,s,(i:Int),(a:Int))=some ((k:Int),ts,s',(i:Int))/\WInv ts i ts.length s'/\s'.2.length<=s.2.length+8192*d:=by
 have hc:=h.count
 intro d
 induction d using Nat.strongRecOn with
 |_ d ih=>
  intro f a s ha hf h0 hs ho
  obtain⟨f,rfl⟩: ∃z,f=z+1:=⟨f-1,by omega⟩
  rcases Nat.eq_zero_or_pos d with hd0|hd0
  ·have:a=ts.length:=by omega
   subst this
   refine⟨s,?_,hs,by omega⟩
   simp only[Ai]
   rw[if_neg (by simp)]
  ·have hal:a<ts.length:=by omega
   obtain⟨b,fs,e1,hb1,hb2,hp,hq,hF⟩:=HR h hi hal s d Aa a [] ha (by unfold Aa;omega) (Nat.le_refl _) (λj h1 h2=>by omega) ⟨λr hr=>(by cases hr),λj h1 h2=>(by omega),by simp⟩
   have hab:a<b:=by
    rcases Nat.lt_or_ge a b with h1|h1
    ·exact h1
    ·have:b=a:=by omega
     subst this
     exact absurd rfl (hq hal)
   have hfl:=hF.2.2
   have hfs: ∀u∈fs,i<u.length:=λu hu=>by
    obtain⟨j,q1,q2,rfl,_⟩:=hF.1 u hu
    have:=h.lenj (show j<ts.length by omega);omega
   have e2:=Hs (ts:=ts) (t0:=(k:Int)) hfs (by omega) s (by omega) (b:Int)
   have hl2:=EI (i:=i) (fs:=fs) fs s
   have hl3:fs.length*(2*fs.length)<=(b-a)*8192:=Nat.mul_le_mul hfl (by omega)
   have hd: ∀r∈fs,∀r'∈fs,r.getD i 0=r'.getD i 0->r=r':=λr hr r' hr' e=>by
    obtain⟨j,j1,j2,rfl,j3⟩:=hF.1 r hr
    obtain⟨l,l1,l2,rfl,l3⟩:=hF.1 r' hr'
    have e:AP ts i j=AP ts i l:=e
    rcases Nat.lt_trichotomy j l with hlt|heq|hgt
    ·exact absurd e (l3 j j1 hlt)
    ·rw[heq]
    ·exact absurd e.symm (j3 l l1 hgt)
   have hW:=WInv.group h hab hb2 hp hq (λh1=>h0 h1 hal) hF hs (G9 hd s)
   obtain⟨s',e3,hE,hEl⟩:=ih (ts.length-b) (by omega) f b (Em i fs fs s) (by omega) (by omega) (λ_ h2 e=>by
    have:=hp (b-1) (by omega) (by omega)
    exact hq h2 (e.symm.trans this)) hW (by omega)
   refine⟨s',?_,hE,by omega⟩
   simp only[Ai,e1,Option.bind_some,e2,e3]
   rw[if_pos (by simp;omega)]
theorem Fq (h:TupS n k ts): ∃s:WSt,AM (k:Int) ts ([],[])=some s/\(∀w,w∈s.2↔ ∃(i:Nat) (x y:Int) (p q:Nat),i<k/\Ch ts i x y=some (p,q)/\(w=ts.getD p []∨w=ts.getD q []))/\s.2.length<=200000000:=by
 have hc:=h.count
 have hk:=h.hk
 have key: ∀(d f i:Nat) (s:WSt),i+d=k->d<f->s.2.length<=33554432*i->WInv ts i 0 s->
   ∃s',Ah f ((k:Int),ts,s,(i:Int))=some s'/\WInv ts k 0 s'/\s'.2.length<=33554432*k:=by
  intro d
  induction d with
  |zero=>
   intro f i s hi hf ho hm
   obtain⟨f,rfl⟩: ∃z,f=z+1:=⟨f-1,by omega⟩
   have:i=k:=by omega
   subst this
   refine⟨s,?_,hm,ho⟩
   simp only[Ah]
   rw[if_neg (by simp)]
  |succ d ih=>
   intro f i s hi hf ho hm
   obtain⟨f,rfl⟩: ∃z,f=z+1:=⟨f-1,by omega⟩
   obtain⟨s',e1,hE,hEl⟩:=HQ h (i:=i) (by omega) ts.length Aa 0 s (by omega) (by unfold Aa;omega) (λh1=>by omega) hm (by omega)
   have e1:Ai Aa ((k:Int),ts,s,(i:Int),0)=_:=e1
   have e1:Ai Aa ((k:Int),ts,(s.1,s.2),(i:Int),0)=_:=e1
   obtain⟨s2,e2,hE',hl'⟩:=ih f (i+1) s' (by omega) (by omega) (by omega) hE.next
   have e2:Ah f ((k:Int),ts,(s'.1,s'.2),((i+1:Nat):Int))=_:=e2
   refine⟨s2,?_,hE',hl'⟩
   simp only[Ah,e1,Option.bind_some,Af (show i<4611686018427387904 by omega),e2]
   rw[if_pos (by simp;omega)]
 obtain⟨s,e,hm,hl⟩:=key k Aa 0 ([],[]) (by omega) (by unfold Aa;omega) (by simp) ⟨λi' x y=>⟨λh=>(by cases h),λ⟨p,q,_,_,_,_,_,h⟩=>(by unfold WB at h;omega)⟩,λw=>⟨λh=>(by cases h),λ⟨i',x,y,p,q,_,h,_⟩=>(by unfold WB at h;omega)⟩⟩
 refine⟨s,?_,λw=>(hm.mem w).trans ⟨?_,?_⟩,by omega⟩
 ·unfold AM
  have e:Ah Aa ((k:Int),ts,([],[]),0)=_:=e
  rw[e];rfl
 ·rintro ⟨i',x,y,p,q,h1,h2,h3⟩
  exact⟨i',x,y,p,q,by unfold WB at h2;omega,h1,h3⟩
 ·rintro ⟨i',x,y,p,q,h1,h2,h3⟩
  exact⟨i',x,y,p,q,h2,.inl h1,h3⟩
theorem ET {rows:List (List Int)} (hN:rows.length<=1000000000) (hr: ∀r∈rows,r.length<=100000):CY rows=some rows:=by
 unfold CY
 have:=DC rows.length (λf o i=>Bh f (o,rows,(rows.length:Int),i)) (λk=>rows.take k) (r:=some rows) (λf k hk=>by
  have hl:=hr _ (List.getElem_mem hk)
  have hcl:CE rows[k]=some rows[k]:=by
   unfold CE
   rw[if_pos (by simp;unfold lim;omega)];simp
  simp only[Bh,Aj,hk,AK hk,hcl,Option.bind_some,List.take_succ_eq_append_getElem hk,if_true,Af (show k<4611686018427387904 by omega)]
  rw[if_pos (by simp;omega),if_pos (by simp;unfold lim;omega)]) (λf=>by
  simp only[Bh,List.take_length]
  rw[if_neg (by simp)]) (n:=Aa) (by unfold Aa;omega)
 have this:Bh Aa ([],rows,(rows.length:Int),0)=_:=this
 rw[this];rfl
theorem EP {l:List (List Int)} (hl:l.length<=1000000000) (hr: ∀r∈l,r.length<=100000):BV l=some (Zn cmpL l):=by
 unfold BV
 rw[ET hl hr]
 have:Au l ()=some (Zn cmpL l):=by
  unfold Au
  rw[if_pos]
  refine⟨by unfold lim;omega,?_⟩
  rw[List.all_eq_true]
  intro r h
  rw[decide_eq_true_iff]
  have:=hr r h;unfold lim;omega
 simp only[Option.bind_some,this]
theorem EE {n kk:Int} (hl:ts.length<=1099511627774) (hr: ∀t∈ts,t.length<=1099511627775): ∃R:List (List Int)×Bool,CD n kk ts=some R/\CG n kk ts=some R/\R.1.length<=512/\(∀r∈R.1,r.length<=4)/\(R.2=C2 n kk ts)/\(R.2=true->B7 R.1=true/\ ∀w,w∈R.1↔ ∃(i:Nat) (x y:Int) (p q:Nat),i<kk.toNat/\Ch ts i x y=some (p,q)/\(w=ts.getD p []∨w=ts.getD q [])):=by
 unfold CD CG
 rw[Cm hl hr,B2 hl hr]
 simp only[Option.bind_some]
 cases hs:C2 n kk ts with
 |false=>exact⟨([],false),rfl,rfl,by simp,by simp,rfl,by simp⟩
 |true=>
  obtain⟨h,hk⟩:=DY hs
  have hn:=h.hn
  have hk':=h.hk
  obtain⟨N,rfl⟩: ∃N:Nat,n=(N:Int):=⟨n.toNat,by omega⟩
  obtain⟨K,hK⟩: ∃K,K=kk.toNat:=⟨_,rfl⟩
  rw[←hK]at h hk hk'⊢
  subst hk
  obtain⟨s,e1,hE,hEl⟩:=Fq h
  obtain⟨F,A,e2,hFA⟩:=CL h
  have hlim:lim=1099511627776:=rfl
  have hval: ∀i j,i<K->j<ts.length-> ∃x:Nat,x<N/\AP ts i j=(x:Int):=λi j hi hj=>by
   have h1:=h.lenj hj
   have h2:=D2 (h.el _ (AL (d:= []) hj)) i (by omega)
   unfold AP
   rw[AC (show i<(ts.getD j []).length by omega)]
   exact⟨((ts.getD j [])[i]'(by omega)).toNat,by omega,by omega⟩
  have hmA: ∀w,w∈A↔w∈s.2:=λw=>by
   rw[hFA.memA,hE]
   constructor
   ·rintro ⟨i,x,y,a,b,q1,q2,q3,q4,q5⟩
    exact⟨i,x,y,a,b,by unfold DI at q3;omega,q4,q5⟩
   ·rintro ⟨i,x,y,a,b,q1,q2,q3⟩
    obtain⟨g1,g2,g3,g4,g5⟩:=Bt q2
    obtain⟨x',hx',ex⟩:=hval i a q1 g1
    obtain⟨y',hy',ey⟩:=hval i b q1 g2
    refine⟨i,x',y',a,b,hx',hy',by unfold DI;omega,?_,q3⟩
    rw[←ex,←ey,g3,g4];exact q2
  have hEr: ∀r∈s.2,r.length=K:=λr hr=>by
   obtain⟨i,x,y,p,q,_,h2,h3⟩:=(hE r).1 hr
   obtain⟨g1,g2,_⟩:=Bt h2
   rcases h3 with rfl|rfl
   ·exact h.lenj g1
   ·exact h.lenj g2
  have e3:=EP (l:=s.2) (by omega) λr hr=>by have:=hEr r hr;omega
  have hp:=Bc s.2
  have e4:BF (Zn cmpL s.2)=some A:=by
   unfold BF
   rw[if_pos]
   ·exact congrArg some (FX hFA.incA hmA)
   ·refine⟨by rw[hp.length_eq];omega,?_⟩
    rw[List.all_eq_true]
    intro r hr
    rw[decide_eq_true_iff,hEr r (hp.mem_iff.1 hr)];omega
  have hcode:2*((K*N+0)*N+0)<=512:=by
   have h1:K*N<=4*8:=Nat.mul_le_mul (by omega) (by omega)
   have h2:(K*N+0)*N<=32*8:=Nat.mul_le_mul (by omega) (by omega)
   omega
  have:=hFA.lenA
  have e1:AM (K:Int) ts ([],[])=_:=e1
  simp only[e1,e2,e3,e4,Option.bind_some,Bool.not_true,Bool.false_eq_true,if_false]
  refine⟨(A,true),rfl,rfl,by dsimp only;omega,λr hr=>?_,rfl,λ_=>⟨hFA.incA,λw=>(hmA w).trans (hE w)⟩⟩
  rw[hEr r ((hmA r).1 hr)];omega
end
end T
set_option linter.unusedVariables false
open Go Go.Va
namespace T
def C3:Nat->((Int×(List (Int×(List Int))))×Int×Int)->Option (Int)
 |0,_=>none
 |n+1,(a,most,k)=>
 if decide (k<(a.2.length:Int))then
 if inb k a.2 then
 (Ey most ((gd a.2 k (0,[])).1)).bind λr1=>
 C3 n ((a.1,a.2),r1,w64 (k+1))
 else none
 else
 some most
def Db (a:Int×(List (Int×(List Int)))):Option (Int):=
 (C3 Aa ((a.1,a.2),0,0)).bind λs1=>
 if s1==3 then
 some 40
 else
 if s1==2 then
 some 200
 else
 some 300
def Bv:Nat->((List (List Int))×(List Int)×(List (List Int))×Int)->Option ((List (List Int))×(List (List Int)))
 |0,_=>none
 |n+1,(line,numbers,out,i)=>
 if decide (i<(numbers.length:Int))then
 if inb i numbers then
 if inb (gd numbers i 0) line then
 if out.length+ [gd line (gd numbers i 0) []].length<=lim then
 Bv n (line,numbers,out++ [gd line (gd numbers i 0) []],w64 (i+1))
 else none
 else none
 else none
 else
 some (line,out)
def Cl (line:List (List Int)) (numbers:List Int):Option ((List (List Int))×(List (List Int))):=
 (Bv Aa (line,numbers,[],0)).bind λs1=>
 some (s1.1,s1.2)
def BA:Nat->(Int×(List (List Int))×(Int×(List (Int×(List Int))))×(List (List Int))×(List (List Int))×Int×(List (List Int))×Int)->Option (Int×(Int×(List (Int×(List Int))))×(List (List Int))×(List (List Int))×Int×(List (List Int)))
 |0,_=>none
 |n+1,(t1,t2,t3,t8,t9,t10,t11,t12)=>
 if decide (t12<(t2.length:Int))then
 if inb t12 t2 then
 (B0 (gd t2 t12 [])).bind λr2=>
 if t11.length+ [r2].length<=lim then
 BA n (t1,t2,(t3.1,t3.2),t8,t9,t10,t11++ [r2],w64 (t12+1))
 else none
 else none
 else
 some (t1,(t3.1,t3.2),t8,t9,t10,t11)
def BR:Nat->(Int×(Int×(List (Int×(List Int))))×(List (List Int))×(List (List Int))×Int×(List (List Int))×Int)->Option (Int×(Int×(List (Int×(List Int))))×(List (List Int))×(List (List Int))×Int×(List (List Int)))
 |0,_=>none
 |n+1,(t1,t3,t8,t9,t10,t11,t13)=>
 if decide (t13<(t3.2.length:Int))then
 if inb t13 t3.2 then
 if((gd t3.2 t13 (0,[])).1)==0 then
 (Cb (t3.1,t3.2) t13 [] t1).bind λr4=>
 if t11.length+ [r4].length<=lim then
 BR n (t1,(t3.1,t3.2),t8,t9,t10,t11++ [r4],w64 (t13+1))
 else none
 else
 BR n (t1,(t3.1,t3.2),t8,t9,t10,t11,w64 (t13+1))
 else none
 else
 some (t1,(t3.1,t3.2),t8,t9,t10,t11)
def Bd:Nat->(Int×(Int×(List (Int×(List Int))))×(List (List Int))×(List (List Int))×Int×(List (List Int))×Int)->Option (Int×(Int×(List (Int×(List Int))))×(List (List Int))×(List (List Int))×Int)
 |0,_=>none
 |n+1,(t1,t3,t8,t9,t10,t11,t14)=>
 if decide (t14<(t11.length:Int))then
 if inb t14 t11 then
 (BC t8 (gd t11 t14 [])).bind λr6=>
 if !r6.2 then
 if inb t14 t11 then
 (BO t8 (gd t11 t14 [])).bind λr7=>
 if inb t14 t11 then
 if t9.length+ [gd t11 t14 []].length<=lim then
 Bd n (t1,(t3.1,t3.2),r7,t9++ [gd t11 t14 []],t10,t11,w64 (t14+1))
 else none
 else none
 else none
 else
 Bd n (t1,(t3.1,t3.2),t8,t9,t10,t11,w64 (t14+1))
 else none
 else
 some (t1,(t3.1,t3.2),t8,t9,t10)
def Aw:Nat->(Int×(Int×(List (Int×(List Int))))×(List (List Int))×(List (List Int))×Int×Int×Int×(List Int)×Bool)->Option (Int×(Int×(List (Int×(List Int))))×(List (List Int))×(List (List Int))×Int×Int×Int)
 |0,_=>none
 |n+1,(t1,t3,t8,t9,t10,t17,t18,t19,t20)=>
 if t20 then
 if decide ((t9.length:Int)<=t10)then
 (Dx t19 t17).bind λr9=>
 if r9 then
 (Cl t9 t19).bind λr10=>
 (Cb (t3.1,t3.2) t18 r10.2 t1).bind λr11=>
 (BC t8 r11).bind λr12=>
 if !r12.2 then
 (BO t8 r11).bind λr13=>
 if r10.1.length+ [r11].length<=lim then
 (BN t19 (w64 (t17+1))).bind λr14=>
 Aw n (t1,(t3.1,t3.2),r13,r10.1++ [r11],t10,t17,t18,r14.1,r14.2)
 else none
 else
 (BN t19 (w64 (t17+1))).bind λr15=>
 Aw n (t1,(t3.1,t3.2),t8,r10.1,t10,t17,t18,r15.1,r15.2)
 else
 (BN t19 (w64 (t17+1))).bind λr16=>
 Aw n (t1,(t3.1,t3.2),t8,t9,t10,t17,t18,r16.1,r16.2)
 else
 some (t1,(t3.1,t3.2),t8,t9,t10,t17,t18)
 else
 some (t1,(t3.1,t3.2),t8,t9,t10,t17,t18)
def Bq:Nat->(Int×(Int×(List (Int×(List Int))))×(List (List Int))×(List (List Int))×Int×Int×Int)->Option (Int×(Int×(List (Int×(List Int))))×(List (List Int))×(List (List Int))×Int×Int)
 |0,_=>none
 |n+1,(t1,t3,t8,t9,t10,t17,t18)=>
 if decide (t18<(t3.2.length:Int))then
 if inb t18 t3.2 then
 if 0<=((gd t3.2 t18 (0,[])).1)/\((gd t3.2 t18 (0,[])).1)<=((gd t3.2 t18 (0,[])).1)/\((gd t3.2 t18 (0,[])).1)<=lim then
 if inb t18 t3.2 then
 (Aw Aa (t1,(t3.1,t3.2),t8,t9,t10,t17,t18,List.replicate (Int.toNat ((gd t3.2 t18 (0,[])).1)) (0:Int),decide (((gd t3.2 t18 (0,[])).1)>0))).bind λs9=>
 Bq n (s9.1,(s9.2.1.1,s9.2.1.2),s9.2.2.1,s9.2.2.2.1,s9.2.2.2.2.1,s9.2.2.2.2.2.1,w64 (s9.2.2.2.2.2.2+1))
 else none
 else none
 else none
 else
 some (t1,(t3.1,t3.2),t8,t9,t10,t17)
def A7:Nat->(Int×(Int×(List (Int×(List Int))))×(List (List Int))×(List (List Int))×Int×Int)->Option ((List (List Int))×Int)
 |0,_=>none
 |n+1,(t1,t3,t8,t9,t10,t17)=>
 if decide (t17<(t9.length:Int))then
 if decide ((t9.length:Int)<=t10)then
 (Bq Aa (t1,(t3.1,t3.2),t8,t9,t10,t17,0)).bind λs9=>
 A7 n (s9.1,(s9.2.1.1,s9.2.1.2),s9.2.2.1,s9.2.2.2.1,s9.2.2.2.2.1,w64 (s9.2.2.2.2.2+1))
 else
 some (t8,t10)
 else
 some (t8,t10)
def Dz (t0:Int×(List (Int×(List Int)))) (t1:Int) (t2:List (List Int)):Option ((List (List Int))×Bool):=
 (Db (t0.1,t0.2)).bind λr1=>
 (BA Aa (t1,t2,(t0.1,t0.2),[],[],r1,[],0)).bind λs2=>
 (BR Aa (s2.1,(s2.2.1.1,s2.2.1.2),s2.2.2.1,s2.2.2.2.1,s2.2.2.2.2.1,s2.2.2.2.2.2,0)).bind λs3=>
 (Bd Aa (s3.1,(s3.2.1.1,s3.2.1.2),s3.2.2.1,s3.2.2.2.1,s3.2.2.2.2.1,s3.2.2.2.2.2,0)).bind λs4=>
 (A7 Aa (s4.1,(s4.2.1.1,s4.2.1.2),s4.2.2.1,s4.2.2.2.1,s4.2.2.2.2,0)).bind λs5=>
 some (s5.1,decide ((s5.1.length:Int)<=s5.2))
def AH (n_:Int) (op:Int×(List Int)) (k:Int) (tuples:List (List Int)):Option ((List (List Int))×Bool):=
 (Bl n_ k tuples).bind λr1=>
 if !r1 then
 some ([],false)
 else
 if decide ((tuples.length:Int)>20)then
 some ([],false)
 else
 if op.1 !=3 then
 some ([],false)
 else
 (Er n_ (op.1,op.2)).bind λr2=>
 if !r2 then
 some ([],false)
 else
 (Dz (n_,[(op.1,op.2)]) k tuples).bind λr3=>
 if !r3.2 then
 some ([],false)
 else
 some (r3.1,true)
def Df (k:Int):Option (Bool):=
 if decide (k≥1)then
 some (decide (k<=64))
 else
 some false
def Bg:Nat->(Int×(Int×(List (Int×(List Int))))×(List (List Int))×Int×Int)->Option ((Unit)⊕(Bool))
 |0,_=>none
 |n+1,(k,a,t9,t10,t11)=>
 if decide (t11<t10)then
 if inb t11 t9 then
 if((gd t9 t11 []).length:Int) !=k then
 some (.inr false)
 else
 (CP (gd t9 t11 []) a.1).bind λr1=>
 if !r1 then
 some (.inr false)
 else
 Bg n (k,(a.1,a.2),t9,t10,w64 (t11+1))
 else none
 else
 some (.inl ())
def CX (a:Int×(List (Int×(List Int)))) (k:Int) (tuples:List (List Int)):Option (Bool):=
 (Bg Aa (k,(a.1,a.2),tuples,(tuples.length:Int),0)).bind λs1=>
  match s1 with
  | .inl s2=>
   some true
  | .inr s3=>
   some s3
def CU (a:Int×(List (Int×(List Int)))) (k:Int) (gens:List (List Int)):Option (Bool):=
 (CV (a.1,a.2)).bind λr1=>
 if r1 then
 (Df k).bind λr2=>
 if r2 then
 if decide ((gens.length:Int)<=20)then
 (CX (a.1,a.2) k gens).bind λr3=>
 some r3
 else
 some false
 else
 some false
 else
 some false
def Cf (s:(Int×(List (Int×(List Int))))×(Int×((List (List Int))×(List ByteArray)))) (t:List Int):Option (((Int×(List (Int×(List Int))))×(Int×((List (List Int))×(List ByteArray))))):=
 (C0 t).bind λr1=>
 if !(Xs s.2.2.2 r1)then
 (C0 t).bind λr2=>
 if s.2.2.1.length+ [t].length<=lim then
 some ((s.1.1,s.1.2),(s.2.1,(s.2.2.1++ [t],YhI s.2.2.2 r2)))
 else none
 else
 some ((s.1.1,s.1.2),(s.2.1,(s.2.2.1,s.2.2.2)))
def Cn:Nat->(Int×(List (Int×(List Int)))×Int×Int)->Option (Int)
 |0,_=>none
 |n+1,(arity,t7,t8,t9)=>
 if decide (t9<t8)then
 if inb t9 t7 then
 Cn n (Yiv arity ((gd t7 t9 (0,[])).1),t7,t8,w64 (t9+1))
 else none
 else
 some arity
def Bk (a:Int×(List (Int×(List Int)))):Option (Int):=
 (Cn Aa (0,a.2,(a.2.length:Int),0)).bind λs1=>
 if s1==3 then
 some 40
 else
 if s1==2 then
 some 200
 else
 some 300
def BE:Nat->(Unit×((List (List Int))×Int)×(Int×(List (Int×(List Int))))×(Int×(List Int))×(List Int)×Int×Int×Int×Int×Int×Int)->Option (((List (List Int))×Int)×(Int×(List (Int×(List Int))))×(Int×(List Int))×(List Int)×Int×Int×Int×Int)
 |0,_=>none
 |n+1,(al21,tuples,a,f,value,i,at_,t17,t18,t22,t23)=>
 if decide (t23<t22)then
 if 0<=t23/\t23<tuples.2 then
 if inb i (gd tuples.1 t23 [])then
 BE n ((),(tuples.1,tuples.2),(a.1,a.2),(f.1,f.2),value,i,w64 ((w64 (at_*a.1))+(gd (gd tuples.1 t23 []) i 0)),t17,t18,t22,w64 (t23+1))
 else none
 else none
 else
 some ((tuples.1,tuples.2),(a.1,a.2),(f.1,f.2),value,i,at_,t17,t18)
def Ba:Nat->(((List (List Int))×Int)×(Int×(List (Int×(List Int))))×(Int×(List Int))×(List Int)×Int×Int)->Option (((List (List Int))×Int)×(List Int))
 |0,_=>none
 |n+1,(tuples,a,f,value,t17,t18)=>
 if decide (t18<t17)then
 (BE Aa ((),(tuples.1,tuples.2),(a.1,a.2),(f.1,f.2),value,t18,0,t17,t18,tuples.2,0)).bind λs1=>
 if inb s1.2.2.2.2.2.1 s1.2.2.1.2 then
 if inb s1.2.2.2.2.1 s1.2.2.2.1 then
 Ba n ((s1.1.1,s1.1.2),(s1.2.1.1,s1.2.1.2),(s1.2.2.1.1,s1.2.2.1.2),stt s1.2.2.2.1 s1.2.2.2.2.1 (gd s1.2.2.1.2 s1.2.2.2.2.2.1 0),s1.2.2.2.2.2.2.1,w64 (s1.2.2.2.2.2.2.2+1))
 else none
 else none
 else
 some ((tuples.1,tuples.2),value)
def B6 (a:Int×(List (Int×(List Int)))) (f:Int×(List Int)) (k:Int) (tuples:(List (List Int))×Int):Option ((List (List Int))×(List Int)):=
 if 0<=k/\k<=k/\k<=lim then
 (Ba Aa ((tuples.1,tuples.2),(a.1,a.2),(f.1,f.2),List.replicate (Int.toNat k) (0:Int),((List.replicate (Int.toNat k) (0:Int)).length:Int),0)).bind λs1=>
 some (s1.1.1,s1.2)
 else none
def Ay (rec:(((Int×(List (Int×(List Int))))×(Int×((List (List Int))×(List ByteArray))))×(Int×(List Int))×((List (List Int))×Int)×Int×Int×Bool)->Option (((Int×(List (Int×(List Int))))×(Int×((List (List Int))×(List ByteArray))))×(List (List Int))×Bool)):Nat->(((Int×(List (Int×(List Int))))×(Int×((List (List Int))×(List ByteArray))))×((List (List Int))×Int)×Int×Int×Bool×(Int×(List Int))×Int)->Option ((((Int×(List (Int×(List Int))))×(Int×((List (List Int))×(List ByteArray))))×((List (List Int))×Int))⊕(((Int×(List (Int×(List Int))))×(Int×((List (List Int))×(List ByteArray))))×((List (List Int))×Int)×Bool))
 |0,_=>none
 |n+1,(t0,t2,t3,t4,t5,t7,t13)=>
 if decide (t13<t4)then
 if inb t13 t0.2.2.1 then
 if 0<([gd t0.2.2.1 t13 []].length:Int)/\t2.2+([gd t0.2.2.1 t13 []].length:Int)<=(t2.1.length:Int)then
 if t5 then
 (rec (((t0.1.1,t0.1.2),(t0.2.1,(t0.2.2.1,t0.2.2.2))),(t7.1,t7.2),(Yda t2.1 t2.2 [gd t0.2.2.1 t13 []],t2.2+([gd t0.2.2.1 t13 []].length:Int)),t3,t4,true)).bind λr9=>
 if(decide (r9.2.1.length=(Yda t2.1 t2.2 [gd t0.2.2.1 t13 []]).length)&&true)then
 if !r9.2.2 then
 some (.inr (((r9.1.1.1,r9.1.1.2),(r9.1.2.1,(r9.1.2.2.1,r9.1.2.2.2))),(r9.2.1,t2.2),false))
 else
 Ay rec n (((r9.1.1.1,r9.1.1.2),(r9.1.2.1,(r9.1.2.2.1,r9.1.2.2.2))),(r9.2.1,t2.2),t3,t4,t5,(t7.1,t7.2),w64 (t13+1))
 else none
 else
 (rec (((t0.1.1,t0.1.2),(t0.2.1,(t0.2.2.1,t0.2.2.2))),(t7.1,t7.2),(Yda t2.1 t2.2 [gd t0.2.2.1 t13 []],t2.2+([gd t0.2.2.1 t13 []].length:Int)),t3,t4,decide (t13≥t3))).bind λr10=>
 if(decide (r10.2.1.length=(Yda t2.1 t2.2 [gd t0.2.2.1 t13 []]).length)&&true)then
 if !r10.2.2 then
 some (.inr (((r10.1.1.1,r10.1.1.2),(r10.1.2.1,(r10.1.2.2.1,r10.1.2.2.2))),(r10.2.1,t2.2),false))
 else
 Ay rec n (((r10.1.1.1,r10.1.1.2),(r10.1.2.1,(r10.1.2.2.1,r10.1.2.2.2))),(r10.2.1,t2.2),t3,t4,t5,(t7.1,t7.2),w64 (t13+1))
 else none
 else none
 else none
 else
 some (.inl (((t0.1.1,t0.1.2),(t0.2.1,(t0.2.2.1,t0.2.2.2))),(t2.1,t2.2)))
def BH (rec:(((Int×(List (Int×(List Int))))×(Int×((List (List Int))×(List ByteArray))))×(Int×(List Int))×((List (List Int))×Int)×Int×Int×Bool)->Option (((Int×(List (Int×(List Int))))×(Int×((List (List Int))×(List ByteArray))))×(List (List Int))×Bool)) (t0:(Int×(List (Int×(List Int))))×(Int×((List (List Int))×(List ByteArray)))) (t1:Int×(List Int)) (t2:(List (List Int))×Int) (t3:Int) (t4:Int) (t5:Bool):Option (((Int×(List (Int×(List Int))))×(Int×((List (List Int))×(List ByteArray))))×(List (List Int))×Bool):=
 if t2.2==t1.1 then
  if t5 then
   (B6 (t0.1.1,t0.1.2) (t1.1,t1.2) t0.2.1 (t2.1,t2.2)).bind λr1=>
    if decide (r1.1.length=t2.1.length)then
     (Cf ((t0.1.1,t0.1.2),(t0.2.1,(t0.2.2.1,t0.2.2.2))) r1.2).bind λr2=>
      (Bk (r2.1.1,r2.1.2)).bind λr3=>
       some (((r2.1.1,r2.1.2),(r2.2.1,(r2.2.2.1,r2.2.2.2))),r1.1,decide ((r2.2.2.1.length:Int)<=r3))
    else none
  else
   if t1.1==0 then
    if t3==0 then
     (B6 (t0.1.1,t0.1.2) (t1.1,t1.2) t0.2.1 (t2.1,t2.2)).bind λr4=>
      if decide (r4.1.length=t2.1.length)then
       (Cf ((t0.1.1,t0.1.2),(t0.2.1,(t0.2.2.1,t0.2.2.2))) r4.2).bind λr5=>
        (Bk (r5.1.1,r5.1.2)).bind λr6=>
         some (((r5.1.1,r5.1.2),(r5.2.1,(r5.2.2.1,r5.2.2.2))),r4.1,decide ((r5.2.2.1.length:Int)<=r6))
      else none
    else
     (Bk (t0.1.1,t0.1.2)).bind λr7=>
      some (((t0.1.1,t0.1.2),(t0.2.1,(t0.2.2.1,t0.2.2.2))),t2.1,decide ((t0.2.2.1.length:Int)<=r7))
   else
    (Bk (t0.1.1,t0.1.2)).bind λr8=>
     some (((t0.1.1,t0.1.2),(t0.2.1,(t0.2.2.1,t0.2.2.2))),t2.1,decide ((t0.2.2.1.length:Int)<=r8))
 else
  (Ay rec Aa (((t0.1.1,t0.1.2),(t0.2.1,(t0.2.2.1,t0.2.2.2))),(t2.1,t2.2),t3,t4,t5,(t1.1,t1.2),0)).bind λs9=>
   match s9 with
   | .inl s10=>
    some (((s10.1.1.1,s10.1.1.2),(s10.1.2.1,(s10.1.2.2.1,s10.1.2.2.2))),s10.2.1,true)
   | .inr s11=>
    some (((s11.1.1.1,s11.1.1.2),(s11.1.2.1,(s11.1.2.2.1,s11.1.2.2.2))),s11.2.1.1,s11.2.2)
def AE:Nat->(((Int×(List (Int×(List Int))))×(Int×((List (List Int))×(List ByteArray))))×(Int×(List Int))×((List (List Int))×Int)×Int×Int×Bool)->Option (((Int×(List (Int×(List Int))))×(Int×((List (List Int))×(List ByteArray))))×(List (List Int))×Bool)
 |0,_=>none
 |d+1,x=>BH (AE d) x.1 x.2.1 x.2.2.1 x.2.2.2.1 x.2.2.2.2.1 x.2.2.2.2.2
def Bs:Nat->((Int×(List (Int×(List Int))))×((Int×(List (Int×(List Int))))×(Int×((List (List Int))×(List ByteArray))))×(List (List Int))×Int×Int)->Option ((Int×(List (Int×(List Int))))×((Int×(List (Int×(List Int))))×(Int×((List (List Int))×(List ByteArray)))))
 |0,_=>none
 |n+1,(t3,t8,t21,t22,t23)=>
 if decide (t23<t22)then
 if inb t23 t21 then
 (CE (gd t21 t23 [])).bind λr1=>
 (Cf ((t8.1.1,t8.1.2),(t8.2.1,(t8.2.2.1,t8.2.2.2))) r1).bind λr2=>
 Bs n ((t3.1,t3.2),((r2.1.1,r2.1.2),(r2.2.1,(r2.2.2.1,r2.2.2.2))),t21,t22,w64 (t23+1))
 else none
 else
 some ((t3.1,t3.2),((t8.1.1,t8.1.2),(t8.2.1,(t8.2.2.1,t8.2.2.2))))
def AG:Nat->((Int×(List (Int×(List Int))))×((Int×(List (Int×(List Int))))×(Int×((List (List Int))×(List ByteArray))))×Int×Int×(List (Int×(List Int)))×Int×Int)->Option (((Int×(List (Int×(List Int))))×((Int×(List (Int×(List Int))))×(Int×((List (List Int))×(List ByteArray))))×Int)⊕((Bool×(Int×(List (Int×(List Int))))×Int×(List (List Int))×(List ByteArray))×Bool))
 |0,_=>none
 |n+1,(t3,t8,t11,t13,t56,t57,t58)=>
 if decide (t58<t57)then
 if inb t58 t56 then
 if(0:Int)<=0/\(0:Int)<=3/\3<=lim then
 (AE Aa (((t8.1.1,t8.1.2),(t8.2.1,(t8.2.2.1,t8.2.2.2))),((gd t56 t58 (0,[])).1,(gd t56 t58 (0,[])).2),(List.replicate (Int.toNat 3) ([]:List Int),0),t11,t13,false)).bind λr5=>
 if(decide (r5.2.1.length=(List.replicate (Int.toNat 3) ([]:List Int)).length)&&true)then
 if !r5.2.2 then
 some (.inr ((false,((0,[]),(0,([],[])))),false))
 else
 AG n ((t3.1,t3.2),((r5.1.1.1,r5.1.1.2),(r5.1.2.1,(r5.1.2.2.1,r5.1.2.2.2))),t11,t13,t56,t57,w64 (t58+1))
 else none
 else none
 else none
 else
 some (.inl ((t3.1,t3.2),((t8.1.1,t8.1.2),(t8.2.1,(t8.2.2.1,t8.2.2.2))),t13))
def AB:Nat->((Int×(List (Int×(List Int))))×((Int×(List (Int×(List Int))))×(Int×((List (List Int))×(List ByteArray))))×Int×Bool)->Option ((((Int×(List (Int×(List Int))))×(Int×((List (List Int))×(List ByteArray)))))⊕((Bool×(Int×(List (Int×(List Int))))×Int×(List (List Int))×(List ByteArray))×Bool))
 |0,_=>none
 |n+1,(t3,t8,t11,t12)=>
  if t12 then
   (AG Aa ((t3.1,t3.2),((t8.1.1,t8.1.2),(t8.2.1,(t8.2.2.1,t8.2.2.2))),t11,(t8.2.2.1.length:Int),t3.2,(t3.2.length:Int),0)).bind λs5=>
    match s5 with
    | .inl s6=>
     AB n ((s6.1.1,s6.1.2),((s6.2.1.1.1,s6.2.1.1.2),(s6.2.1.2.1,(s6.2.1.2.2.1,s6.2.1.2.2.2))),s6.2.2,false)
    | .inr s7=>
     some (.inr (s7.1,s7.2))
  else
   if decide (t11<(t8.2.2.1.length:Int))then
    (AG Aa ((t3.1,t3.2),((t8.1.1,t8.1.2),(t8.2.1,(t8.2.2.1,t8.2.2.2))),t11,(t8.2.2.1.length:Int),t3.2,(t3.2.length:Int),0)).bind λs8=>
     match s8 with
     | .inl s9=>
      AB n ((s9.1.1,s9.1.2),((s9.2.1.1.1,s9.2.1.1.2),(s9.2.1.2.1,(s9.2.1.2.2.1,s9.2.1.2.2.2))),s9.2.2,false)
     | .inr s10=>
      some (.inr (s10.1,s10.2))
   else
    some (.inl ((t8.1.1,t8.1.2),(t8.2.1,(t8.2.2.1,t8.2.2.2))))
def C7 (t0:Int×(List (Int×(List Int)))) (t1:Int) (t2:List (List Int)):Option ((Bool×(Int×(List (Int×(List Int))))×Int×(List (List Int))×(List ByteArray))×Bool):=
 (Bs Aa ((t0.1,t0.2),((t0.1,t0.2),(t1,([],[]))),t2,(t2.length:Int),0)).bind λs1=>
  (Bk (s1.1.1,s1.1.2)).bind λr2=>
   if decide ((s1.2.2.2.1.length:Int)>r2)then
    some ((false,((0,[]),(0,([],[])))),false)
   else
    (AB Aa ((s1.1.1,s1.1.2),((s1.2.1.1,s1.2.1.2),(s1.2.2.1,(s1.2.2.2.1,s1.2.2.2.2))),0,true)).bind λs3=>
     match s3 with
     | .inl s4=>
      some ((true,((s4.1.1,s4.1.2),(s4.2.1,(s4.2.2.1,s4.2.2.2)))),true)
     | .inr s5=>
      some (s5.1,s5.2)
def AQ (a:Int×(List (Int×(List Int)))) (k:Int) (gens:List (List Int)):Option ((List (List Int))×Bool):=
 (CU (a.1,a.2) k gens).bind λr1=>
 if !r1 then
 some ([],false)
 else
 (C7 (a.1,a.2) k gens).bind λr2=>
 if !r2.2 then
 some ([],false)
 else
 if r2.1.1=true then
 (BV r2.1.2.2.2.1).bind λr3=>
 some (r3,true)
 else none
def AF (n_:Int) (op:Int×(List Int)) (k:Int) (tuples:List (List Int)):Option ((List (List Int))×Bool):=
 (BP n_ k tuples).bind λr1=>
 if !r1 then
 some ([],false)
 else
 if decide ((tuples.length:Int)>20)then
 some ([],false)
 else
 if op.1 !=3 then
 some ([],false)
 else
 (DT (op.1,op.2) n_).bind λr2=>
 if !r2 then
 some ([],false)
 else
 (AQ (n_,[(op.1,op.2)]) k tuples).bind λr3=>
 some (r3.1,r3.2)
end T
open Go Go.Va
namespace T
def BU (n k:Nat) (T:List Int) (x y z:List Int):List Int:=(List.range k).map λj=>T.getD (((x.getD j 0).toNat*n+(y.getD j 0).toNat)*n+(z.getD j 0).toNat) 0
structure T3Ok (n k:Nat) (T:List Int):Prop where
 hn:1<=n/\n<=8
 hk:1<=k/\k<=4
 tl:T.length=n*n*n
 tv: ∀x∈T,0<=x/\x<(n:Int)
def TpOk (n k:Nat) (t:List Int):Prop:=t.length=k/\ ∀x∈t,0<=x/\x<(n:Int)
inductive Clo (n k:Nat) (T:List Int) (gens:List (List Int)):List Int->Prop
 |gen {t:List Int}:t∈gens->Clo n k T gens t
 |app {x y z:List Int}:Clo n k T gens x->Clo n k T gens y->Clo n k T gens z->Clo n k T gens (BU n k T x y z)
section
variable {n k:Nat} {T:List Int} {gens:List (List Int)}
theorem TpOk.get {t:List Int} (h:TpOk n k t) {j:Nat} (hj:j<k):(t.getD j 0).toNat<n/\t.getD j 0=(((t.getD j 0).toNat:Nat):Int)/\j<t.length:=by
 have h1:j<t.length:=by have:=h.1;omega
 have:=h.2 _ (List.getElem_mem h1)
 rw[AC h1]
 exact⟨by omega,by omega,h1⟩
theorem EZ {a b c:Nat} (ha:a<n) (hb:b<n) (hc:c<n):(a*n+b)*n+c<n*n*n:=by
 have h1:(a+1)*n<=n*n:=Nat.mul_le_mul_right _ ha
 have h2:(a*n+b+1)*n<=n*n*n:=Nat.mul_le_mul_right _ (by rw[Nat.succ_mul]at h1;omega)
 rw[Nat.succ_mul]at h2;omega
theorem Ds (h:T3Ok n k T) {x y z:List Int} (hx:TpOk n k x) (hy:TpOk n k y) (hz:TpOk n k z):TpOk n k (BU n k T x y z):=by
 refine⟨by simp[BU],λv hv=>?_⟩
 obtain⟨j,hj,rfl⟩:=List.mem_map.1 hv
 have hj:=List.mem_range.1 hj
 have:=EZ (hx.get hj).1 (hy.get hj).1 (hz.get hj).1
 rw[←h.tl]at this
 rw[AC this]
 exact h.tv _ (List.getElem_mem _)
theorem Clo.ok (h:T3Ok n k T) (hg: ∀t∈gens,TpOk n k t) {t:List Int} (c:Clo n k T gens t):TpOk n k t:=by
 induction c with
 |gen h=>exact hg _ h
 |app _ _ _ i1 i2 i3=>exact Ds h i1 i2 i3
theorem E3 {α:Type} [DecidableEq α]: ∀ {l m:List α},l.Nodup->(∀x∈l,x∈m)->l.length<=m.length
 | [],_,_,_=>Nat.zero_le _
 |x::l,m,hn,h=>by
  obtain⟨h1,h2⟩:=List.nodup_cons.1 hn
  have hx:=h x (List.mem_cons_self ..)
  have:=E3 (m:=m.erase x) h2 λy hy=>(List.mem_erase_of_ne (λe:y=x=>h1 (by rw[←e];exact hy))).2 (h y (List.mem_cons_of_mem _ hy))
  rw[List.length_erase_of_mem hx]at this
  have:0<m.length:=List.length_pos_of_mem hx
  simp only[List.length_cons];omega
structure CloL (n k:Nat) (T:List Int) (gens L:List (List Int)):Prop where
 nd:L.Nodup
 sub: ∀x∈L,Clo n k T gens x
def Closd (n k:Nat) (T:List Int) (L:List (List Int)):Prop:= ∀x∈L,∀y∈L,∀z∈L,BU n k T x y z∈L
theorem Closd.mem {L:List (List Int)} (hg: ∀t∈gens,t∈L) (hc:Closd n k T L) {t:List Int} (c:Clo n k T gens t):t∈L:=by
 induction c with
 |gen h=>exact hg _ h
 |app _ _ _ i1 i2 i3=>exact hc _ i1 _ i2 _ i3
structure GenL (n k:Nat) (T:List Int) (gens L:List (List Int)):Prop where
 cl:CloL n k T gens L
 le:L.length<=41
 gs: ∀t∈gens,t∈L
 all:L.length<=40->Closd n k T L
theorem GenL.same {L M:List (List Int)} (h:GenL n k T gens L) (h':GenL n k T gens M) (hl:L.length<=40):M.length<=40/\Zn cmpL L=Zn cmpL M:=by
 have hc:=h.all hl
 have h1: ∀t∈M,t∈L:=λt ht=>hc.mem h.gs (h'.cl.sub _ ht)
 have h2:=E3 h'.cl.nd h1
 have hc':=h'.all (by omega)
 have h3: ∀t∈L,t∈M:=λt ht=>hc'.mem h'.gs (h.cl.sub _ ht)
 refine⟨by omega,?_⟩
 have i1:=C1 h.cl.nd
 have i2:=C1 h'.cl.nd
 refine DH i1 i2 λu=>?_
 rw[(Bc L).mem_iff,(Bc M).mem_iff]
 exact⟨h3 u,h1 u⟩
def BL (L:List (List Int)) (t:List Int):List (List Int):=if t∈L then L else L++ [t]
theorem addL_pre {L:List (List Int)} {t:List Int}:L<+:BL L t:=by
 unfold BL;split
 ·exact List.prefix_refl L
 ·exact List.prefix_append L [t]
theorem Dh {L:List (List Int)} {t:List Int}:t∈BL L t:=by
 unfold BL;split
 ·assumption
 ·simp
theorem GW {L:List (List Int)} {t u:List Int} (h:u∈BL L t):u∈L∨u=t:=by
 unfold BL at h;split at h
 ·exact .inl h
 ·simpa using h
theorem DQ {L:List (List Int)} {t:List Int}:(BL L t).length<=L.length+1:=by
 unfold BL;split<;>simp
theorem DP {L:List (List Int)} {t:List Int} (h:CloL n k T gens L) (ht:Clo n k T gens t):CloL n k T gens (BL L t):=by
 refine⟨?_,λx hx=>(GW hx).elim (h.sub x) λe=>e▸ht⟩
 unfold BL;split
 ·exact h.nd
 ·rename_i hm
  rw[List.nodup_append]
  refine⟨h.nd,by simp,λa ha b hb=>?_⟩
  rw[List.mem_singleton.1 hb];exact λe=>hm (e▸ha)
theorem Es (hn:n<=8) {x v:Nat} (hx:x<=512) (hv:v<n):w64 (w64 ((x:Int)*(n:Int))+(v:Int))=((x*n+v:Nat):Int):=by
 have h1:x*n<=512*8:=Nat.mul_le_mul hx hn
 have e:(x:Int)*(n:Int)=((x*n:Nat):Int):=by push_cast;rfl
 rw[e,AN (x:=((x*n:Nat):Int)) (by omega) (by omega),AN (by omega) (by omega)]
 push_cast;rfl
theorem Hx (hn:n<=8) {a b:Nat} (ha:a<n) (hb:b<n):a*n+b<=512:=by
 have:a*n<=8*8:=Nat.mul_le_mul (by omega) hn
 omega
theorem Hz (h:T3Ok n k T) {x y z:List Int} (hx:TpOk n k x) (hy:TpOk n k y) (hz:TpOk n k z) {j:Nat} (hj:j<k) (value:List Int) (t17:Int) (A:List (Int×List Int)):
  BE Aa ((),([x,y,z],3),((n:Int),A),(3,T),value,(j:Int),0,t17,(j:Int),3,0)=some (([x,y,z],3),((n:Int),A),(3,T),value,(j:Int),((((x.getD j 0).toNat*n+(y.getD j 0).toNat)*n+(z.getD j 0).toNat:Nat):Int),t17,(j:Int)):=by
 obtain⟨x1,x2,x3⟩:=hx.get hj
 obtain⟨y1,y2,y3⟩:=hy.get hj
 obtain⟨z1,z2,z3⟩:=hz.get hj
 obtain⟨f,hf⟩: ∃f,Aa=f+4:=⟨Aa-4,rfl⟩
 have g0:gd [x,y,z] 0 []=x:=rfl
 have g1:gd [x,y,z] 1 []=y:=rfl
 have g2:gd [x,y,z] 2 []=z:=rfl
 have w0:w64 (0+1)=1:=by decide
 have w1:w64 (1+1)=2:=by decide
 have w2:w64 (2+1)=3:=by decide
 have s0:w64 (w64 (0*(n:Int))+x.getD j 0)=(((x.getD j 0).toNat:Nat):Int):=by
  have:=Es h.hn.2 (x:=0) (by omega) x1
  rw[←x2]at this
  have e:((0*n+(x.getD j 0).toNat:Nat):Int)=(((x.getD j 0).toNat:Nat):Int):=by rw[Nat.zero_mul,Nat.zero_add]
  rw[e]at this;exact this
 have s1:w64 (w64 ((((x.getD j 0).toNat:Nat):Int)*(n:Int))+y.getD j 0)=(((x.getD j 0).toNat*n+(y.getD j 0).toNat:Nat):Int):=by
  have:=Es h.hn.2 (x:=(x.getD j 0).toNat) (by have:=h.hn;omega) y1
  rw[←y2]at this;exact this
 have s2:w64 (w64 ((((x.getD j 0).toNat*n+(y.getD j 0).toNat:Nat):Int)*(n:Int))+z.getD j 0)=((((x.getD j 0).toNat*n+(y.getD j 0).toNat)*n+(z.getD j 0).toNat:Nat):Int):=by
  have:=Es h.hn.2 (x:=(x.getD j 0).toNat*n+(y.getD j 0).toNat) (Hx h.hn.2 x1 y1) z1
  rw[←z2]at this;exact this
 rw[hf]
 simp only[BE,g0,g1,g2,w0,w1,w2,Aj,x3,y3,z3,Ec,s0,s1,s2,if_true,show decide ((0:Int)<3)=true from rfl,show decide ((1:Int)<3)=true from rfl,show decide ((2:Int)<3)=true from rfl,show decide ((3:Int)<3)=false from rfl,show(0<=(0:Int)/\(0:Int)<3) from by decide,show(0<=(1:Int)/\(1:Int)<3) from by decide,show(0<=(2:Int)/\(2:Int)<3) from by decide,and_self,decide_true,Bool.false_eq_true,if_false]
theorem Ib {α:Type} (k j:Nat) (hj:j<k) (g:Nat->α) (d:α):((List.range j).map g++List.replicate (k-j) d).set j (g j)=(List.range (j+1)).map g++List.replicate (k-(j+1)) d:=by
 have e:k-j=(k-(j+1))+1:=by omega
 rw[List.set_append_right _ _ (by simp),e,List.replicate_succ,List.range_succ,List.map_append]
 simp
theorem DZ (h:T3Ok n k T) {x y z:List Int} (hx:TpOk n k x) (hy:TpOk n k y) (hz:TpOk n k z) (A:List (Int×List Int)):
  B6 ((n:Int),A) (3,T) (k:Int) ([x,y,z],3)=some ([x,y,z],BU n k T x y z):=by
 have hk:=h.hk
 unfold B6
 rw[if_pos (by unfold lim;omega)]
 have:=DC k (λf v i=>Ba f (([x,y,z],3),((n:Int),A),(3,T),v,(k:Int),i)) (λq=>(List.range q).map (λj=>T.getD (((x.getD j 0).toNat*n+(y.getD j 0).toNat)*n+(z.getD j 0).toNat) 0)++List.replicate (k-q) 0)
  (r:=some (([x,y,z],3),BU n k T x y z)) (λf j hj=>?_) (λf=>?_) (n:=Aa) (by unfold Aa;omega)
 ·have this:Ba Aa (([x,y,z],3),((n:Int),A),(3,T),List.replicate k 0,(k:Int),0)=_:=this
  rw[Int.toNat_natCast,List.length_replicate]
  dsimp only
  rw[this];rfl
 ·have h7:=Hz h hx hy hz hj ((List.range j).map (λj=>T.getD (((x.getD j 0).toNat*n+(y.getD j 0).toNat)*n+(z.getD j 0).toNat) 0)++List.replicate (k-j) 0) (k:Int) A
  have:=EZ (hx.get hj).1 (hy.get hj).1 (hz.get hj).1
  rw[←h.tl]at this
  rw[←Ib k j hj (λj=>T.getD (((x.getD j 0).toNat*n+(y.getD j 0).toNat)*n+(z.getD j 0).toNat) 0) 0]
  simp only[Ba,h7,Option.bind_some,Aj,this,Ec,Fi,Af (show j<4611686018427387904 by omega)]
  rw[if_pos (by simp;omega),if_pos trivial,if_pos (by simp;omega)]
 ·simp only[Ba]
  rw[if_neg (by simp),Nat.sub_self]
  simp[BU]
theorem HN (h:T3Ok n k T) {x y z:List Int} (hx:TpOk n k x) (hy:TpOk n k y) (hz:TpOk n k z) {j:Nat} (hj:j<k) (out:List Int):
  Ck Aa (0,[x,y,z],(k:Int),((n:Int),[(3,T)]),out,(j:Int),0,0)=some (0,[x,y,z],(k:Int),((n:Int),[(3,T)]),out,(j:Int),((((x.getD j 0).toNat*n+(y.getD j 0).toNat)*n+(z.getD j 0).toNat:Nat):Int)):=by
 obtain⟨x1,x2,x3⟩:=hx.get hj
 obtain⟨y1,y2,y3⟩:=hy.get hj
 obtain⟨z1,z2,z3⟩:=hz.get hj
 obtain⟨f,hf⟩: ∃f,Aa=f+4:=⟨Aa-4,rfl⟩
 have g0:gd [x,y,z] 0 []=x:=rfl
 have g1:gd [x,y,z] 1 []=y:=rfl
 have g2:gd [x,y,z] 2 []=z:=rfl
 have i0:inb 0 [x,y,z]:=by unfold inb;simp
 have i1:inb 1 [x,y,z]:=by unfold inb;simp
 have i2:inb 2 [x,y,z]:=by unfold inb;simp
 have w0:w64 (0+1)=1:=by decide
 have w1:w64 (1+1)=2:=by decide
 have w2:w64 (2+1)=3:=by decide
 have s0:w64 (w64 (0*(n:Int))+x.getD j 0)=(((x.getD j 0).toNat:Nat):Int):=by
  have:=Es h.hn.2 (x:=0) (by omega) x1
  rw[←x2]at this
  have e:((0*n+(x.getD j 0).toNat:Nat):Int)=(((x.getD j 0).toNat:Nat):Int):=by rw[Nat.zero_mul,Nat.zero_add]
  rw[e]at this;exact this
 have s1:w64 (w64 ((((x.getD j 0).toNat:Nat):Int)*(n:Int))+y.getD j 0)=(((x.getD j 0).toNat*n+(y.getD j 0).toNat:Nat):Int):=by
  have:=Es h.hn.2 (x:=(x.getD j 0).toNat) (by have:=h.hn;omega) y1
  rw[←y2]at this;exact this
 have s2:w64 (w64 ((((x.getD j 0).toNat*n+(y.getD j 0).toNat:Nat):Int)*(n:Int))+z.getD j 0)=((((x.getD j 0).toNat*n+(y.getD j 0).toNat)*n+(z.getD j 0).toNat:Nat):Int):=by
  have:=Es h.hn.2 (x:=(x.getD j 0).toNat*n+(y.getD j 0).toNat) (Hx h.hn.2 x1 y1) z1
  rw[←z2]at this;exact this
 have hl:(([x,y,z].length:Nat):Int)=3:=rfl
 rw[hf]
 simp only[Ck,hl,g0,g1,g2,i0,i1,i2,w0,w1,w2,Aj,x3,y3,z3,Ec,s0,s1,s2,if_true,show decide ((0:Int)<3)=true from rfl,show decide ((1:Int)<3)=true from rfl,show decide ((2:Int)<3)=true from rfl,show decide ((3:Int)<3)=false from rfl,Bool.false_eq_true,if_false]
theorem Cc (h:T3Ok n k T) {x y z:List Int} (hx:TpOk n k x) (hy:TpOk n k y) (hz:TpOk n k z):
  Cb ((n:Int),[(3,T)]) 0 [x,y,z] (k:Int)=some (BU n k T x y z):=by
 have hk:=h.hk
 unfold Cb
 have:=DC k (λf v i=>Bz f (0,[x,y,z],(k:Int),((n:Int),[(3,T)]),v,i)) (λq=>(List.range q).map (λj=>T.getD (((x.getD j 0).toNat*n+(y.getD j 0).toNat)*n+(z.getD j 0).toNat) 0))
  (r:=some (BU n k T x y z)) (λf j hj=>?_) (λf=>?_) (n:=Aa) (by unfold Aa;omega)
 ·have this:Bz Aa (0,[x,y,z],(k:Int),((n:Int),[(3,T)]),[],0)=_:=this
  dsimp only
  rw[this];rfl
 ·have h7:=HN h hx hy hz hj ((List.range j).map (λj=>T.getD (((x.getD j 0).toNat*n+(y.getD j 0).toNat)*n+(z.getD j 0).toNat) 0))
  have:=EZ (hx.get hj).1 (hy.get hj).1 (hz.get hj).1
  rw[←h.tl]at this
  have i0:inb 0 [((3:Int),T)]:=by unfold inb;simp
  have g0:gd [((3:Int),T)] 0 (0,[])=(3,T):=rfl
  simp only[Bz,h7,Option.bind_some,i0,g0,if_true,Aj,this,Ec,Af (show j<4611686018427387904 by omega),List.range_succ,List.map_append,List.map_cons,List.map_nil]
  rw[if_pos (by simp;omega),if_pos (by simp;unfold lim;omega)]
 ·simp only[Bz]
  rw[if_neg (by simp)];rfl
end
end T
open Go Go.Va
namespace T
section
variable {n k:Nat} {T:List Int} {gens:List (List Int)}
structure SpOk (n k:Nat) (T:List Int) (gens L:List (List Int)):Prop where
 cl:CloL n k T gens L
 le:L.length<=41
abbrev HV:=(Int×(List (Int×(List Int))))×(Int×((List (List Int))×(List ByteArray)))
def spn (n k:Nat) (T:List Int) (L:List (List Int)):HV:=(((n:Int),[(3,T)]),((k:Int),(L,Ef L)))
theorem TpOk.small (h:T3Ok n k T) {t:List Int} (ht:TpOk n k t): ∀x∈t,0<=x/\x<256:=λx hx=>by have:=ht.2 x hx;have:=h.hn;omega
theorem Ex (h:T3Ok n k T) {L:List (List Int)} (hL: ∀t∈L,TpOk n k t) (hl:L.length<=1000) {t:List Int} (ht:TpOk n k t):
  Cf (spn n k T L) t=some (spn n k T (BL L t)):=by
 have hk:=h.hk
 have e1:=EV (l:=t) (by have:=ht.1;omega) (ht.small h)
 have e2:=F9 (l:=L) (t:=t) (λu hu=>(hL u hu).small h) (ht.small h)
 unfold Cf spn BL
 simp only[e1,Option.bind_some,e2]
 by_cases hm:t∈L
 ·simp[hm]
 ·have e3:Ef (L++ [t])=YhI (Ef L) (EX t):=by unfold Ef;rw[List.foldl_append];rfl
  rw[if_pos (by simpa using hm),if_pos (by simp;unfold lim;omega),if_neg hm,e3]
theorem D4 (n:Int) (T:List Int):Bk (n,[(3,T)])=some 40:=by
 obtain⟨f,hf⟩: ∃f,Aa=f+2:=⟨Aa-2,rfl⟩
 have i0:inb 0 [((3:Int),T)]:=by unfold inb;simp
 have g0:gd [((3:Int),T)] 0 (0,[])=(3,T):=rfl
 have m0:Yiv 0 3=3:=by decide
 have w0:w64 (0+1)=1:=by decide
 unfold Bk
 rw[hf]
 simp only[Cn,List.length_singleton,i0,g0,m0,w0,if_true]
 simp
def FF (n k:Nat) (T:List Int) (p:List (List Int)):List Int:=BU n k T (p.getD 0 []) (p.getD 1 []) (p.getD 2 [])
def Need (n k:Nat) (T:List Int) (L0:List (List Int)) (old many:Nat):Nat->List (List Int)->Bool->List (List Int)->Prop
 |0,p,fr,M=>fr=true->FF n k T p∈M
 |r+1,p,fr,M=> ∀i,i<many->Need n k T L0 old many r (p++ [L0.getD i []]) (fr||decide (old<=i)) M
theorem Need.mono {L0:List (List Int)} {old many:Nat}: ∀(r:Nat) (p:List (List Int)) (fr:Bool) {M M':List (List Int)},(∀t∈M,t∈M')->Need n k T L0 old many r p fr M->Need n k T L0 old many r p fr M'
 |0,p,fr,M,M',hs,h=>λe=>hs _ (h e)
 |r+1,p,fr,M,M',hs,h=>λi hi=>Need.mono r _ _ hs (h i hi)
theorem BQ {L0 L:List (List Int)} (h:L0<+:L) {i:Nat} (hi:i<L0.length):L.getD i []=L0.getD i []:=by
 obtain⟨M,rfl⟩:=h
 rw[AC (show i<(L0++M).length by simp;omega),AC hi,List.getElem_append_left]
theorem Ft {α:Type} {l:List α} (h:l.length=3): ∃x y z,l= [x,y,z]:=by
 match l,h with
 | [x,y,z],_=>exact⟨x,y,z,rfl⟩
theorem HA (h:T3Ok n k T) (hg: ∀t∈gens,TpOk n k t) {L0:List (List Int)} {old many:Nat} (hm:many<=L0.length): ∀(r d:Nat),r<d-> ∀(L:List (List Int)) (p bf:List (List Int)) (fr:Bool),
  SpOk n k T gens L->L.length<=40->L0<+:L->p.length+r=3->bf.length=3->bf.take p.length=p->(∀t∈p,Clo n k T gens t)->
  ∃L' bf' ok,AE d (spn n k T L,(3,T),(bf,(p.length:Int)),(old:Int),(many:Int),fr)=some (spn n k T L',bf',ok)/\bf'.length=3/\bf'.take p.length=p/\L<+:L'/\SpOk n k T gens L'/\
   (ok=decide (L'.length<=40))/\(ok=true->Need n k T L0 old many r p fr L'):=by
 intro r
 induction r with
 |zero=>
  intro d hd L p bf fr hS hl hp hpl hbl hbt hpc
  obtain⟨d,rfl⟩: ∃q,d=q+1:=⟨d-1,by omega⟩
  have hp3:p.length=3:=by omega
  have hb:bf=p:=by rw[hp3,←hbl,List.take_length]at hbt;exact hbt
  subst hb
  obtain⟨x,y,z,rfl⟩:=Ft hp3
  have hx:=hpc x (by simp);have hy:=hpc y (by simp);have hz:=hpc z (by simp)
  have e1:=DZ h (hx.ok h hg) (hy.ok h hg) (hz.ok h hg) [(3,T)]
  have e2:=Ex h (L:=L) (λt ht=>(hS.cl.sub t ht).ok h hg) (by omega) (Ds h (hx.ok h hg) (hy.ok h hg) (hz.ok h hg))
  have hcn:=DP hS.cl (hx.app hy hz)
  have hln:=DQ (L:=L) (t:=BU n k T x y z)
  have b3:((([x,y,z]:List (List Int)).length:Nat):Int)==(3:Int):=rfl
  rw[AE]
  unfold BH spn
  dsimp only
  rw[if_pos b3]
  cases fr with
  |true=>
   unfold spn at e2
   simp only[if_true]
   rw[show((([x,y,z]:List (List Int)).length:Nat):Int)=3 from rfl,e1]
   simp only[Option.bind_some,decide_true,if_true]
   rw[e2]
   simp only[Option.bind_some,D4]
   exact⟨BL L (BU n k T x y z),[x,y,z],_,rfl,rfl,rfl,addL_pre,⟨hcn,by omega⟩,by simp;omega,λ_ _=>Dh⟩
  |false=>
   simp only[Bool.false_eq_true,if_false]
   rw[if_neg (by simp)]
   simp only[D4,Option.bind_some]
   exact⟨L,[x,y,z],_,rfl,rfl,rfl,List.prefix_refl L,hS,by simp;omega,λ_ e=>absurd e (by simp)⟩
 |succ r ih=>
  intro d hd L p bf fr hS hl hp hpl hbl hbt hpc
  obtain⟨d,rfl⟩: ∃q,d=q+1:=⟨d-1,by omega⟩
  have hp2:p.length<=2:=by omega
  have key: ∀(c f i:Nat) (L bf:List (List Int)),i+c=many->c<f->SpOk n k T gens L->L.length<=40->L0<+:L->bf.length=3->bf.take p.length=p->
    ∃L' bf' ok,Ay (AE d) f (spn n k T L,(bf,(p.length:Int)),(old:Int),(many:Int),fr,(3,T),(i:Int))=some (if ok then .inl (spn n k T L',(bf',(p.length:Int)))else .inr (spn n k T L',(bf',(p.length:Int)),false))/\bf'.length=3/\bf'.take p.length=p/\L<+:L'/\SpOk n k T gens L'/\
     (ok=decide (L'.length<=40))/\(ok=true-> ∀q,i<=q->q<many->Need n k T L0 old many r (p++ [L0.getD q []]) (fr||decide (old<=q)) L'):=by
   intro c
   induction c with
   |zero=>
    intro f i L bf hi hf hS hl hp hbl hbt
    obtain⟨f,rfl⟩: ∃q,f=q+1:=⟨f-1,by omega⟩
    refine⟨L,bf,true,?_,hbl,hbt,List.prefix_refl L,hS,by simp;omega,λ_ q h1 h2=>by omega⟩
    unfold spn
    simp only[Ay]
    rw[if_neg (by simp;omega)];rfl
   |succ c ihc=>
    intro f i L bf hi hf hS hl hp hbl hbt
    obtain⟨f,rfl⟩: ∃q,f=q+1:=⟨f-1,by omega⟩
    have hpl2:L0.length<=L.length:=hp.length_le
    have hi1:i<L.length:=by omega
    have hg0:L.getD i []=L0.getD i []:=BQ hp (by omega)
    have hput:Yda bf (p.length:Int) [L.getD i []]=p++([L.getD i []]++bf.drop (p.length+1)):=by
     unfold Yda;rw[Int.toNat_natCast,hbt];rfl
    have hpl3:(p++([L.getD i []]++bf.drop (p.length+1))).length=3:=by simp[hbl];omega
    have hnum:(p.length:Int)+(([L.getD i []].length:Nat):Int)=((p++ [L.getD i []]).length:Int):=by simp
    obtain⟨L',bf',ok,e1,b1,b2,b3,b4,b5,b6⟩:=ih d (by omega) L (p++ [L.getD i []]) (p++([L.getD i []]++bf.drop (p.length+1))) (fr||decide (old<=i)) hS hl hp (by simp;omega) hpl3
     (by rw[←List.append_assoc,List.take_left]) (λt ht=>by
      rcases List.mem_append.1 ht with h1|h1
      ·exact hpc t h1
      ·rw[List.mem_singleton.1 h1,AC hi1];exact hS.cl.sub _ (List.getElem_mem _))
    have b2':bf'.take p.length=p:=by
     have:=congrArg (List.take p.length) b2
     rw[List.take_take,List.take_left,Nat.min_eq_left (by simp)]at this
     exact this
    have hcall: ∀fr',fr'=(fr||decide (old<=i))->AE d ((((n:Int),[(3,T)]),((k:Int),(L,Ef L))),(3,T),(Yda bf (p.length:Int) [L.getD i []],(p.length:Int)+(([L.getD i []].length:Nat):Int)),(old:Int),(many:Int),fr')=some (spn n k T L',bf',ok):=λfr' e=>by
     rw[e,hput,hnum];exact e1
    have hlen:(decide (bf'.length=(Yda bf (p.length:Int) [L.getD i []]).length)&&true)=true:=by rw[hput,hpl3,b1];rfl
    have hin:inb (i:Int) L:=Aj.2 hi1
    have hfit:0<(([L.getD i []].length:Nat):Int)/\(p.length:Int)+(([L.getD i []].length:Nat):Int)<=(bf.length:Int):=by rw[hbl];simp;omega
    have hlt:decide ((i:Int)<(many:Int))=true:=by simp;omega
    by_cases hok:ok=true
    ·subst hok
     have h40:L'.length<=40:=by simpa using b5.symm
     obtain⟨L2,bf2,ok2,e2,c1,c2,c3,c4,c5,c6⟩:=ihc f (i+1) L' bf' (by omega) (by omega) b4 h40 (hp.trans b3) b1 b2'
     refine⟨L2,bf2,ok2,?_,c1,c2,b3.trans c3,c4,c5,λe q h1 h2=>?_⟩
     ·unfold spn
      simp only[Ay,hlt,if_true,Ec]
      rw[if_pos hin,if_pos hfit]
      cases fr with
      |true=>
       rw[if_pos rfl,hcall true rfl]
       simp only[Option.bind_some]
       refine Eq.trans (if_pos hlen) ?_
       unfold spn at e2⊢
       simp only[Af (show i<4611686018427387904 by omega)]
       rw[if_neg (by simp)]
       exact e2
      |false=>
       rw[if_neg (by simp),hcall (decide ((i:Int)≥(old:Int))) (by simp)]
       simp only[Option.bind_some]
       refine Eq.trans (if_pos hlen) ?_
       unfold spn at e2⊢
       simp only[Af (show i<4611686018427387904 by omega)]
       rw[if_neg (by simp)]
       exact e2
     ·rcases Nat.eq_or_lt_of_le h1 with h3|h3
      ·subst h3
       have:=b6 rfl
       rw[hg0]at this
       exact Need.mono r _ _ (λt ht=>c3.subset ht) this
      ·exact c6 e q (by omega) h2
    ·have hok:ok=false:=by simpa using hok
     subst hok
     refine⟨L',bf',false,?_,b1,b2',b3,b4,b5,λe=>absurd e (by simp)⟩
     unfold spn
     simp only[Ay,hlt,if_true,Ec]
     rw[if_pos hin,if_pos hfit]
     cases fr with
     |true=>
      rw[if_pos rfl,hcall true rfl]
      simp only[Option.bind_some]
      refine Eq.trans (if_pos hlen) ?_;rfl
     |false=>
      rw[if_neg (by simp),hcall (decide ((i:Int)≥(old:Int))) (by simp)]
      simp only[Option.bind_some]
      refine Eq.trans (if_pos hlen) ?_;rfl
  obtain⟨L',bf',ok,e1,b1,b2,b3,b4,b5,b6⟩:=key many Aa 0 L bf (by omega) (by
   have h1:=hp.length_le
   unfold Aa;omega) hS hl hp hbl hbt
  refine⟨L',bf',ok,?_,b1,b2,b3,b4,b5,λe i hi=>b6 e i (Nat.zero_le _) hi⟩
  have b0:((p.length:Int)==(3:Int))=false:=by simp;omega
  rw[AE]
  unfold BH
  unfold spn at e1⊢
  dsimp only
  have e1:Ay (AE d) Aa ((((n:Int),[(3,T)]),((k:Int),(L,Ef L))),(bf,(p.length:Int)),(old:Int),(many:Int),fr,(3,T),0)=_:=e1
  rw[b0,if_neg (by simp),e1]
  cases ok with
  |true=>rfl
  |false=>rfl
end
end T
open Go Go.Va
namespace T
section
variable {n k:Nat} {T:List Int} {gens:List (List Int)}
def BM (gens:List (List Int)):List (List Int):=gens.foldl BL []
theorem Gs {L:List (List Int)} {gs:List (List Int)} (h:CloL n k T gens L) (hg: ∀t∈gs,t∈gens):CloL n k T gens (gs.foldl BL L)/\(gs.foldl BL L).length<=L.length+gs.length/\L<+:gs.foldl BL L/\ ∀t∈gs,t∈gs.foldl BL L:=by
 induction gs generalizing L with
 |nil=>exact⟨h,Nat.le_refl _,List.prefix_refl L,by simp⟩
 |cons t gs ih=>
  obtain⟨h1,h2,h3,h4⟩:=ih (L:=BL L t) (DP h (.gen (hg t (by simp)))) λu hu=>hg u (List.mem_cons_of_mem _ hu)
  have h5:=DQ (L:=L) (t:=t)
  refine⟨h1,by rw[List.foldl_cons,List.length_cons];omega,addL_pre.trans h3,λu hu=>?_⟩
  rcases List.mem_cons.1 hu with rfl|hu
  ·exact h3.subset Dh
  ·exact h4 u hu
theorem DS (gs:List (List Int)) (hg: ∀t∈gs,t∈gens):CloL n k T gens (BM gs)/\(BM gs).length<=gs.length/\ ∀t∈gs,t∈BM gs:=by
 obtain⟨h1,h2,_,h4⟩:=Gs (n:=n) (k:=k) (T:=T) (gens:=gens) (L:= []) (gs:=gs) ⟨by simp,by simp⟩ hg
 exact⟨h1,by simpa[BM]using h2,h4⟩
theorem Ek {gs:List (List Int)} {i:Nat} (h:i<gs.length):BM (gs.take (i+1))=BL (BM (gs.take i)) gs[i]:=by
 unfold BM;rw[List.take_succ_eq_append_getElem h,List.foldl_append];rfl
theorem Hp (h:T3Ok n k T) (hg: ∀t∈gens,TpOk n k t) (hl:gens.length<=100):Bs Aa (((n:Int),[(3,T)]),spn n k T [],gens,(gens.length:Int),0)=some (((n:Int),[(3,T)]),spn n k T (BM gens)):=by
 have hk:=h.hk
 have:=DC gens.length (λf s i=>Bs f (((n:Int),[(3,T)]),s,gens,(gens.length:Int),i)) (λq=>spn n k T (BM (gens.take q)))
  (r:=some (((n:Int),[(3,T)]),spn n k T (BM gens))) (λf i hi=>?_) (λf=>?_) (n:=Aa) (by unfold Aa;omega)
 ·exact this
 ·obtain⟨c1,c2,_⟩:=DS (n:=n) (k:=k) (T:=T) (gens:=gens) (gens.take i) λt ht=>List.mem_of_mem_take ht
  have hgi:=hg _ (List.getElem_mem hi)
  have c2':(BM (gens.take i)).length<=1000:=by rw[List.length_take]at c2;omega
  have e1:=Ex h (λt ht=>(c1.sub t ht).ok h hg) c2' hgi
  have e2:=Gq (l:=gens[i]) (by have:=hgi.1;omega)
  unfold spn at e1⊢
  simp only[Bs,Aj,hi,AK hi,if_true,e2,Option.bind_some,e1,Af (show i<4611686018427387904 by omega),Ek hi]
  rw[if_pos (by simp;omega)]
 ·unfold spn
  simp only[Bs,List.take_length]
  rw[if_neg (by simp)]
theorem GQ (h:T3Ok n k T) (hg: ∀t∈gens,TpOk n k t) {L:List (List Int)} (hS:SpOk n k T gens L) (hl:L.length<=40) (old:Nat):
    ∃L',L<+:L'/\SpOk n k T gens L'/\
      ((AG Aa (((n:Int),[(3,T)]),spn n k T L,(old:Int),(L.length:Int),[(3,T)],(([((3:Int),T)].length:Nat):Int),0)=some (.inl (((n:Int),[(3,T)]),spn n k T L',(L.length:Int)))/\L'.length<=40/\
        ∀x y z,x<L.length->y<L.length->z<L.length->(old<=x∨old<=y∨old<=z)->BU n k T (L.getD x []) (L.getD y []) (L.getD z [])∈L')∨
       (AG Aa (((n:Int),[(3,T)]),spn n k T L,(old:Int),(L.length:Int),[(3,T)],(([((3:Int),T)].length:Nat):Int),0)=some (.inr ((false,((0,[]),(0,([],[])))),false))/\40<L'.length)):=by
  obtain⟨L',bf',ok,e1,b1,_,b3,b4,b5,b6⟩:=HA h hg (L0:=L) (old:=old) (many:=L.length) (Nat.le_refl _) 3 Aa (by unfold Aa;omega) L [] (List.replicate 3 []) false hS hl (List.prefix_refl L) rfl (by simp) rfl (by simp)
  refine⟨L',b3,b4,?_⟩
  obtain⟨f,hf⟩: ∃f,Aa=f+2:=⟨Aa-2,rfl⟩
  have i0:inb 0 [((3:Int),T)]:=by unfold inb;simp
  have g0:gd [((3:Int),T)] 0 (0,[])=(3,T):=rfl
  have w0:w64 (0+1)=1:=by decide
  have hl1:(([((3:Int),T)].length:Nat):Int)=1:=rfl
  have hlen:(decide (bf'.length=(List.replicate (Int.toNat 3) ([]:List Int)).length)&&true)=true:=by rw[b1];rfl
  have hlm:(0:Int)<=0/\(0:Int)<=3/\3<=lim:=by unfold lim;omega
  unfold spn at e1
  have e1:AE Aa ((((n:Int),[(3,T)]),((k:Int),(L,Ef L))),(3,T),(List.replicate (Int.toNat 3) ([]:List Int),0),(old:Int),(L.length:Int),false)=_:=e1
  cases ok with
  |true=>
    have h40:L'.length<=40:=by simpa using b5.symm
    refine .inl ⟨?_,h40,λx y z hx hy hz ho=>?_⟩
    · rw[show AG Aa=AG (f+2) from by rw[hf]]
      unfold spn
      simp only[AG,hl1,i0,g0,if_true,w0]
      rw[if_pos (by decide),if_pos hlm,e1]
      simp only[Option.bind_some]
      refine Eq.trans (if_pos hlen) ?_
      rw[if_neg (by simp),if_neg (by decide)]
    · have this:(((false||decide (old<=x))||decide (old<=y))||decide (old<=z))=true->BU n k T (L.getD x []) (L.getD y []) (L.getD z [])∈L':=b6 rfl x hx y hy z hz
      refine this ?_
      simp only[Bool.false_or,Bool.or_eq_true,decide_eq_true_eq];omega
  |false=>
    have h40:40<L'.length:=by simpa using b5.symm
    refine .inr ⟨?_,h40⟩
    rw[show AG Aa=AG (f+2) from by rw[hf]]
    unfold spn
    simp only[AG,hl1,i0,g0,if_true,w0]
    rw[if_pos (by decide),if_pos hlm,e1]
    simp only[Option.bind_some]
    refine Eq.trans (if_pos hlen) ?_
    rw[if_pos (by simp)]
def Dq (n k:Nat) (T:List Int) (old:Nat) (L M:List (List Int)):Prop:= ∀x y z,x<old->y<old->z<old->BU n k T (L.getD x []) (L.getD y []) (L.getD z [])∈M
theorem El {L:List (List Int)} (h:Dq n k T L.length L L):Closd n k T L:=by
 intro x hx y hy z hz
 obtain⟨a,ha,rfl⟩:=List.mem_iff_getElem.1 hx
 obtain⟨b,hb,rfl⟩:=List.mem_iff_getElem.1 hy
 obtain⟨c,hc,rfl⟩:=List.mem_iff_getElem.1 hz
 have:=h a b c ha hb hc
 rwa [AC ha,AC hb,AC hc]at this
theorem GP (h:T3Ok n k T) (hg: ∀t∈gens,TpOk n k t): ∀(c f:Nat) (L:List (List Int)) (old:Nat) (first:Bool),c+1<f->2*(41-L.length)+(if first||decide (old<L.length)then 1 else 0)<=c->
    SpOk n k T gens L->L.length<=40->old<=L.length->Dq n k T old L L->
    ∃L',L<+:L'/\SpOk n k T gens L'/\
      ((AB f (((n:Int),[(3,T)]),spn n k T L,(old:Int),first)=some (.inl (spn n k T L'))/\L'.length<=40/\Closd n k T L')∨
       (AB f (((n:Int),[(3,T)]),spn n k T L,(old:Int),first)=some (.inr ((false,((0,[]),(0,([],[])))),false))/\40<L'.length)):=by
  intro c
  induction c using Nat.strongRecOn with
  |_ c ih=>
    intro f L old first hf hc hS hl ho hB
    obtain⟨f,rfl⟩: ∃q,f=q+1:=⟨f-1,by omega⟩
    by_cases hgo:(first||decide (old<L.length))=true
    · rw[if_pos hgo]at hc
      obtain⟨L',p1,p2,p3⟩:=GQ h hg hS hl old
      have hle:=p1.length_le
      rcases p3 with ⟨e1,q1,q2⟩|⟨e1,q1⟩
      · have hB':Dq n k T L.length L' L':=λx y z hx hy hz=>by
          rw[BQ p1 hx,BQ p1 hy,BQ p1 hz]
          by_cases ho2:old<=x∨old<=y∨old<=z
          · exact q2 x y z hx hy hz ho2
          · exact p1.subset (hB x y z (by omega) (by omega) (by omega))
        have hcc:2*(41-L'.length)+(if(false||decide (L.length<L'.length))then 1 else 0)<c:=by
          by_cases h2:L.length<L'.length
          · rw[if_pos (by simpa using h2)];omega
          · rw[if_neg (by simpa using h2)];omega
        obtain⟨L2,r1,r2,r3⟩:=ih _ hcc f L' L.length false (by omega) (Nat.le_refl _) p2 q1 hle hB'
        refine⟨L2,p1.trans r1,r2,?_⟩
        have step:AB (f+1) (((n:Int),[(3,T)]),spn n k T L,(old:Int),first)=AB f (((n:Int),[(3,T)]),spn n k T L',(L.length:Int),false):=by
          unfold spn at e1⊢
          simp only[AB]
          cases first with
          |true=>simp only[if_true,e1,Option.bind_some]
          |false=>
            have:decide ((old:Int)<(L.length:Int))=true:=by simpa using hgo
            simp only[Bool.false_eq_true,if_false,this,if_true,e1,Option.bind_some]
        rw[step];exact r3
      · refine⟨L',p1,p2,.inr ⟨?_,q1⟩⟩
        unfold spn at e1⊢
        simp only[AB]
        cases first with
        |true=>simp only[if_true,e1,Option.bind_some]
        |false=>
          have:decide ((old:Int)<(L.length:Int))=true:=by simpa using hgo
          simp only[Bool.false_eq_true,if_false,this,if_true,e1,Option.bind_some]
    · have h1:first=false:=by cases first<;>simp_all
      have h2: ¬old<L.length:=λh=>hgo (by simp[h])
      have h3:old=L.length:=by omega
      subst h1;subst h3
      refine⟨L,List.prefix_refl L,hS,.inl ⟨?_,hl,El hB⟩⟩
      unfold spn
      simp only[AB]
      rw[if_neg (by simp),if_neg (by simp)]
theorem EL (h:T3Ok n k T) (hg: ∀t∈gens,TpOk n k t) (hl:gens.length<=20):
  ∃L,GenL n k T gens L/\((C7 ((n:Int),[(3,T)]) (k:Int) gens=some ((true,spn n k T L),true)/\L.length<=40)∨
   (C7 ((n:Int),[(3,T)]) (k:Int) gens=some ((false,((0,[]),(0,([],[])))),false)/\40<L.length)):=by
 obtain⟨c1,c2,c3⟩:=DS (n:=n) (k:=k) (T:=T) (gens:=gens) gens λ_ h=>h
 have e1:=Hp h hg (by omega)
 obtain⟨L,p1,p2,p3⟩:=GP h hg 100 Aa (BM gens) 0 true (by unfold Aa;omega) (by simp;omega) ⟨c1,by omega⟩ (by omega) (Nat.zero_le _) (λx y z hx=>by omega)
 refine⟨L,⟨p2.cl,p2.le,λt ht=>p1.subset (c3 t ht),λhle=>?_⟩,?_⟩
 ·rcases p3 with ⟨_,_,q⟩|⟨_,q⟩
  ·exact q
  ·omega
 ·unfold C7
  have e1:Bs Aa (((n:Int),[(3,T)]),(((n:Int),[(3,T)]),((k:Int),([],[]))),gens,(gens.length:Int),0)=_:=e1
  dsimp only
  rw[e1]
  unfold spn at p3⊢
  simp only[Option.bind_some,D4]
  rw[if_neg (by simp;omega)]
  rcases p3 with ⟨e2,q,_⟩|⟨e2,q⟩
  ·have e2:AB Aa (((n:Int),[(3,T)]),(((n:Int),[(3,T)]),((k:Int),(BM gens,Ef (BM gens)))),0,true)=_:=e2
   rw[e2];exact .inl ⟨rfl,q⟩
  ·have e2:AB Aa (((n:Int),[(3,T)]),(((n:Int),[(3,T)]),((k:Int),(BM gens,Ef (BM gens)))),0,true)=_:=e2
   rw[e2];exact .inr ⟨rfl,q⟩
end
end T
open Go Go.Va
namespace T
section
variable {n k:Nat} {T:List Int} {gens:List (List Int)}
theorem ER (n:Int) (T:List Int):Db (n,[(3,T)])=some 40:=by
 obtain⟨f,hf⟩: ∃f,Aa=f+2:=⟨Aa-2,rfl⟩
 have i0:inb 0 [((3:Int),T)]:=by unfold inb;simp
 have g0:gd [((3:Int),T)] 0 (0,[])=(3,T):=rfl
 have m0:Ey 0 3=some 3:=by decide
 have w0:w64 (0+1)=1:=by decide
 unfold Db
 rw[hf]
 simp only[C3,List.length_singleton,i0,g0,m0,w0,if_true,Option.bind_some]
 simp
theorem C4 {ts:List (List Int)} {ns:List Nat} (hl:ns.length<=1048576) (hv: ∀x∈ns,x<ts.length):Cl ts (cI ns)=some (ts,ns.map λx=>ts.getD x []):=by
 unfold Cl
 have:=DC ns.length (λf o i=>Bv f (ts,cI ns,o,i)) (λq=>(ns.take q).map λx=>ts.getD x []) (r:=some (ts,ns.map λx=>ts.getD x [])) (λf q hq=>?_) (λf=>?_) (n:=Aa) (by unfold Aa;omega)
 ·simp only[List.take_zero,List.map_nil]at this
  simp only[this,Option.bind_some]
 ·have hqc:q<(cI ns).length:=by rw[CC];exact hq
  have hg:=Gm hq
  have hx:ns.getD q 0<ts.length:=by rw[AC hq];exact hv _ (List.getElem_mem _)
  have e:(ns.take (q+1)).map (λx=>ts.getD x [])=(ns.take q).map (λx=>ts.getD x [])++ [ts.getD (ns.getD q 0) []]:=by
   rw[List.take_succ_eq_append_getElem hq,List.map_append,AC hq];rfl
  rw[e]
  simp only[Bv,CC,decide_eq_true (show(q:Int)<(ns.length:Int) by omega),if_true,Aj,hqc,hq,Ec,hg,hx,Af (show q<4611686018427387904 by omega)]
  rw[if_pos (by unfold lim;simp;omega)]
 ·simp only[Bv,CC,List.take_length]
  rw[if_neg (by simp)]
theorem DW (h:T3Ok n k T) {L:List (List Int)} {t:List Int} (hS:CloL n k T gens L) (hg: ∀t∈gens,TpOk n k t) (hl:L.length<=1000) (ht:TpOk n k t):
  ∃c:Int,BC (Zn cmpL L) t=some (c,decide (t∈L))/\(t∉L->BO (Zn cmpL L) t=some (Zn cmpL (L++ [t]))):=by
 have hk:=h.hk
 have hp:=Bc L
 have hL: ∀u∈L,u.length=k:=λu hu=>((hS.sub u hu).ok h hg).1
 obtain⟨c,e,_⟩:=DO (list:=Zn cmpL L) (t:=t) (k:=k) (by rw[hp.length_eq];omega) (by omega) (λu hu=>hL u (hp.mem_iff.1 hu)) ht.1 (C1 hS.nd)
 refine⟨c,?_,λhm=>?_⟩
 ·rw[e];simp only[hp.mem_iff]
 ·rw[Hw];exact GJ (k:=k) (by omega) (by omega) hL ht.1 hS.nd hm
theorem HZ {B a b c:Nat} (hb:b<B) (hc:c<B):dg B 3 ((a*B+b)*B+c)=if a<B then [a,b,c]else dg B 3 ((a*B+b)*B+c):=by
 split
 ·rename_i ha
  have hB:0<B:=by omega
  have e1:((a*B+b)*B+c)/B=a*B+b:=by rw[Nat.mul_comm,Nat.mul_add_div hB,Nat.div_eq_of_lt hc];omega
  have e2:(a*B+b)/B=a:=by rw[Nat.mul_comm,Nat.mul_add_div hB,Nat.div_eq_of_lt hb];omega
  have e3:((a*B+b)*B+c)%B=c:=by rw[Nat.mul_comm,Nat.mul_add_mod,Nat.mod_eq_of_lt hc]
  have e4:(a*B+b)%B=b:=by rw[Nat.mul_comm,Nat.mul_add_mod,Nat.mod_eq_of_lt hb]
  simp[dg,e1,e2,e3,e4,Nat.mod_eq_of_lt ha]
 ·rfl
theorem Hh (h:T3Ok n k T) (hg: ∀t∈gens,TpOk n k t) {q B:Nat} (hB:B=q+1) (hB41:B<=40): ∀(c f i:Nat) (L:List (List Int)),i+c+1=B^3->c+2<f->SpOk n k T gens L->B<=L.length->
    ∃L',Aw f ((k:Int),((n:Int),[(3,T)]),Zn cmpL L,L,40,(q:Int),0,cI (dg B 3 i),true)=some ((k:Int),((n:Int),[(3,T)]),Zn cmpL L',L',40,(q:Int),0)/\L<+:L'/\SpOk n k T gens L'/\
      (L'.length<=40-> ∀j,i<=j->j<B^3->q∈dg B 3 j->FF n k T ((dg B 3 j).map λx=>L.getD x [])∈L'):=by
  have hk:=h.hk
  have hB0:0<B:=by omega
  intro c
  induction c with
  |zero=>
    intro f i L hi hf hS hl
    obtain⟨f,rfl⟩: ∃q,f=q+2:=⟨f-2,by omega⟩
    by_cases h40:L.length<=40
    · have hdl:(dg B 3 i).length=3:=Du
      have hdv: ∀x∈dg B 3 i,x<L.length:=λx hx=>by have:=EF hB0 x hx;omega
      have e0:=CM (l:=cI (dg B 3 i)) (x:=(q:Int)) (by rw[CC,hdl];omega)
      have e5:=CB (k:=3) hB0 (by omega) (by omega) (i:=i) (by omega)
      rw[if_neg (by omega)]at e5
      have hmem:((q:Int)∈cI (dg B 3 i))↔q∈dg B 3 i:=by
        unfold cI;rw[List.mem_map]
        exact ⟨fun ⟨y, hy, e⟩ => by have : y = q := by omega
                                    subst this;exact hy,λh=>⟨q,h,rfl⟩⟩
      have w1:w64 ((q:Int)+1)=(B:Int):=by rw[Af (by omega),hB]
      have hle:decide ((L.length:Int)<=40)=true:=by simp;omega
      by_cases hq:q∈dg B 3 i
      · obtain⟨a,b,d,hd3⟩:=Ft hdl
        have ha:=hdv a (by rw[hd3];simp);have hb:=hdv b (by rw[hd3];simp);have hd:=hdv d (by rw[hd3];simp)
        have ca:=hS.cl.sub _ (AL (d:= []) ha);have cb:=hS.cl.sub _ (AL (d:= []) hb);have cd:=hS.cl.sub _ (AL (d:= []) hd)
        have e1:=C4 (ts:=L) (ns:=dg B 3 i) (by omega) hdv
        have e2:=Cc h (ca.ok h hg) (cb.ok h hg) (cd.ok h hg)
        have e1':(dg B 3 i).map (λx=>L.getD x [])= [L.getD a [],L.getD b [],L.getD d []]:=by rw[hd3];rfl
        rw[e1']at e1
        have eA:FF n k T ((dg B 3 i).map λx=>L.getD x [])=BU n k T (L.getD a []) (L.getD b []) (L.getD d []):=by rw[e1'];rfl
        obtain⟨c,e3,e4⟩:=DW h hS.cl hg (by omega) (Ds h (ca.ok h hg) (cb.ok h hg) (cd.ok h hg))
        refine⟨BL L (BU n k T (L.getD a []) (L.getD b []) (L.getD d [])),?_,addL_pre,⟨DP hS.cl (ca.app cb cd),by have:=DQ (L:=L) (t:=BU n k T (L.getD a []) (L.getD b []) (L.getD d []));omega⟩,λ_ j h1 h2 _=>?_⟩
        · simp only[Aw,if_true,hle,e0,hmem,hq,decide_true,Option.bind_some,e1,e2,e3,w1,e5]
          by_cases hm:BU n k T (L.getD a []) (L.getD b []) (L.getD d [])∈L
          · unfold BL
            rw[if_pos hm,if_neg (by simpa using hm)];rfl
          · unfold BL
            rw[if_neg hm,if_pos (by simpa using hm),e4 hm]
            simp only[Option.bind_some]
            rw[if_pos (by simp;unfold lim;omega)];rfl
        · have:j=i:=by omega
          subst this;rw[eA];exact Dh
      · refine⟨L,?_,List.prefix_refl L,hS,λ_ j h1 h2 hj=>?_⟩
        · simp only[Aw,if_true,hle,e0,hmem,hq,decide_false,Option.bind_some,w1,e5,Bool.false_eq_true,if_false]
        · have:j=i:=by omega
          subst this;exact absurd hj hq
    · have hle:decide ((L.length:Int)<=40)=false:=by simp;omega
      refine⟨L,?_,List.prefix_refl L,hS,λh=>absurd h h40⟩
      simp only[Aw,if_true,hle,Bool.false_eq_true,if_false]
  |succ c ih=>
    intro f i L hi hf hS hl
    obtain⟨f,rfl⟩: ∃q,f=q+1:=⟨f-1,by omega⟩
    by_cases h40:L.length<=40
    · have hdl:(dg B 3 i).length=3:=Du
      have hdv: ∀x∈dg B 3 i,x<L.length:=λx hx=>by have:=EF hB0 x hx;omega
      have e0:=CM (l:=cI (dg B 3 i)) (x:=(q:Int)) (by rw[CC,hdl];omega)
      have e5:=CB (k:=3) hB0 (by omega) (by omega) (i:=i) (by omega)
      rw[if_pos (by omega)]at e5
      have hmem:((q:Int)∈cI (dg B 3 i))↔q∈dg B 3 i:=by
        unfold cI;rw[List.mem_map]
        exact ⟨fun ⟨y, hy, e⟩ => by have : y = q := by omega
                                    subst this;exact hy,λh=>⟨q,h,rfl⟩⟩
      have w1:w64 ((q:Int)+1)=(B:Int):=by rw[Af (by omega),hB]
      have hle:decide ((L.length:Int)<=40)=true:=by simp;omega
      by_cases hq:q∈dg B 3 i
      · obtain⟨a,b,d,hd3⟩:=Ft hdl
        have ha:=hdv a (by rw[hd3];simp);have hb:=hdv b (by rw[hd3];simp);have hd:=hdv d (by rw[hd3];simp)
        have ca:=hS.cl.sub _ (AL (d:= []) ha);have cb:=hS.cl.sub _ (AL (d:= []) hb);have cd:=hS.cl.sub _ (AL (d:= []) hd)
        have e1:=C4 (ts:=L) (ns:=dg B 3 i) (by omega) hdv
        have e2:=Cc h (ca.ok h hg) (cb.ok h hg) (cd.ok h hg)
        have e1':(dg B 3 i).map (λx=>L.getD x [])= [L.getD a [],L.getD b [],L.getD d []]:=by rw[hd3];rfl
        rw[e1']at e1
        have eA:FF n k T ((dg B 3 i).map λx=>L.getD x [])=BU n k T (L.getD a []) (L.getD b []) (L.getD d []):=by rw[e1'];rfl
        obtain⟨c',e3,e4⟩:=DW h hS.cl hg (by omega) (Ds h (ca.ok h hg) (cb.ok h hg) (cd.ok h hg))
        have hpre:L<+:BL L (BU n k T (L.getD a []) (L.getD b []) (L.getD d [])):=addL_pre
        obtain⟨L',g1,g2,g3,g4⟩:=ih f (i+1) (BL L (BU n k T (L.getD a []) (L.getD b []) (L.getD d []))) (by omega) (by omega) ⟨DP hS.cl (ca.app cb cd),by have:=DQ (L:=L) (t:=BU n k T (L.getD a []) (L.getD b []) (L.getD d []));omega⟩ (by have:=hpre.length_le;omega)
        refine⟨L',?_,hpre.trans g2,g3,λhl' j h1 h2 hj=>?_⟩
        · simp only[Aw,if_true,hle,e0,hmem,hq,decide_true,Option.bind_some,e1,e2,e3,w1,e5]
          by_cases hm:BU n k T (L.getD a []) (L.getD b []) (L.getD d [])∈L
          · unfold BL at g1
            rw[if_pos hm]at g1
            rw[if_neg (by simpa using hm)]
            exact g1
          · unfold BL at g1
            rw[if_neg hm]at g1
            rw[if_pos (by simpa using hm),e4 hm]
            simp only[Option.bind_some]
            rw[if_pos (by simp;unfold lim;omega)]
            exact g1
        · rcases Nat.eq_or_lt_of_le h1 with h3|h3
          · subst h3;rw[eA];exact g2.subset Dh
          · have:=g4 hl' j h3 h2 hj
            have e:(dg B 3 j).map (λx=>(BL L (BU n k T (L.getD a []) (L.getD b []) (L.getD d []))).getD x [])=(dg B 3 j).map (λx=>L.getD x []):=List.map_congr_left λx hx=>BQ hpre (by have:=EF hB0 x hx;omega)
            rwa [e]at this
      · obtain⟨L',g1,g2,g3,g4⟩:=ih f (i+1) L (by omega) (by omega) hS hl
        refine⟨L',?_,g2,g3,λhl' j h1 h2 hj=>?_⟩
        · simp only[Aw,if_true,hle,e0,hmem,hq,decide_false,Option.bind_some,w1,e5,Bool.false_eq_true,if_false]
          exact g1
        · rcases Nat.eq_or_lt_of_le h1 with h3|h3
          · subst h3;exact absurd hj hq
          · exact g4 hl' j h3 h2 hj
    · have hle:decide ((L.length:Int)<=40)=false:=by simp;omega
      refine⟨L,?_,List.prefix_refl L,hS,λh=>absurd h h40⟩
      simp only[Aw,if_true,hle,Bool.false_eq_true,if_false]
theorem Hg (h:T3Ok n k T) (hg: ∀t∈gens,TpOk n k t) {q:Nat} (hq:q<40) {L:List (List Int)} (hS:SpOk n k T gens L) (hl:q<L.length) (hB:Dq n k T q L L):
  ∃L',Bq Aa ((k:Int),((n:Int),[(3,T)]),Zn cmpL L,L,40,(q:Int),0)=some ((k:Int),((n:Int),[(3,T)]),Zn cmpL L',L',40,(q:Int))/\L<+:L'/\SpOk n k T gens L'/\
   (L'.length<=40->Dq n k T (q+1) L' L'):=by
 have hp:0<(q+1)^3:=Nat.pow_pos (by omega)
 have hp2:(q+1)^3<=262144:=FT (by omega) (by omega)
 obtain⟨L',e1,g2,g3,g4⟩:=Hh h hg (q:=q) (B:=q+1) rfl (by omega) ((q+1)^3-1) Aa 0 L (by omega) (by unfold Aa;omega) hS (by omega)
 refine⟨L',?_,g2,g3,λhl' x y z hx hy hz=>?_⟩
 ·obtain⟨f,hf⟩: ∃f,Aa=f+2:=⟨Aa-2,rfl⟩
  have i0:inb 0 [((3:Int),T)]:=by unfold inb;simp
  have g0:gd [((3:Int),T)] 0 (0,[])=(3,T):=rfl
  have w0:w64 (0+1)=1:=by decide
  have hlm:(0:Int)<=3/\(3:Int)<=3/\(3:Int)<=(lim:Int):=by unfold lim;omega
  have hl1:(([((3:Int),T)].length:Nat):Int)=1:=rfl
  rw[Fa]at e1
  have e1:Aw Aa ((k:Int),((n:Int),[(3,T)]),Zn cmpL L,L,40,(q:Int),0,List.replicate (Int.toNat 3) 0,decide ((3:Int)>0))=_:=e1
  rw[show Bq Aa=Bq (f+2) from by rw[hf]]
  simp only[Bq,hl1,i0,g0,if_true]
  rw[if_pos (by decide),if_pos hlm,e1]
  simp only[Option.bind_some,w0,hl1]
  rw[if_neg (by decide)]
 ·rw[BQ g2 (by omega),BQ g2 (by omega),BQ g2 (by omega)]
  by_cases hin:x=q∨y=q∨z=q
  ·have hlt:=EZ (n:=q+1) hx hy hz
   have hpow:(q+1)^3=(q+1)*(q+1)*(q+1):=by rw[Nat.pow_succ,Nat.pow_succ,Nat.pow_one]
   have hd:=HZ (B:=q+1) (a:=x) hy hz
   rw[if_pos hx]at hd
   have:=g4 hl' ((x*(q+1)+y)*(q+1)+z) (Nat.zero_le _) (by rw[hpow];exact hlt) (by rw[hd];simp;omega)
   rw[hd]at this
   exact this
  ·exact g2.subset (hB x y z (by omega) (by omega) (by omega))
theorem Hf (h:T3Ok n k T) (hg: ∀t∈gens,TpOk n k t): ∀(c f q:Nat) (L:List (List Int)),c+1<f->41-q<=c->q<=L.length->SpOk n k T gens L->(L.length<=40->Dq n k T q L L)->
  ∃L',A7 f ((k:Int),((n:Int),[(3,T)]),Zn cmpL L,L,40,(q:Int))=some (Zn cmpL L',40)/\L<+:L'/\SpOk n k T gens L'/\(L'.length<=40->Closd n k T L'):=by
 intro c
 induction c with
 |zero=>
  intro f q L hf hc hq hS hB
  have:=hS.le
  obtain⟨f,rfl⟩: ∃q,f=q+1:=⟨f-1,by omega⟩
  refine⟨L,?_,List.prefix_refl L,hS,λh=>by omega⟩
  simp only[A7]
  rw[if_neg (by simp;omega)]
 |succ c ih=>
  intro f q L hf hc hq hS hB
  have:=hS.le
  obtain⟨f,rfl⟩: ∃q,f=q+1:=⟨f-1,by omega⟩
  by_cases h1:q<L.length
  ·by_cases h2:L.length<=40
   ·obtain⟨L1,e1,p1,p2,p3⟩:=Hg h hg (q:=q) (by omega) hS h1 (hB h2)
    obtain⟨L',e2,g1,g2,g3⟩:=ih f (q+1) L1 (by omega) (by omega) (by have:=p1.length_le;omega) p2 p3
    refine⟨L',?_,p1.trans g1,g2,g3⟩
    simp only[A7,e1,Option.bind_some,Af (show q<4611686018427387904 by omega)]
    rw[if_pos (by simp;omega),if_pos (by simp;omega)]
    exact e2
   ·refine⟨L,?_,List.prefix_refl L,hS,λh=>absurd h h2⟩
    simp only[A7]
    rw[if_pos (by simp;omega),if_neg (by simp;omega)]
  ·have h3:q=L.length:=by omega
   subst h3
   refine⟨L,?_,List.prefix_refl L,hS,λh=>El (hB h)⟩
   simp only[A7]
   rw[if_neg (by simp)]
theorem He (h:T3Ok n k T) (hg: ∀t∈gens,TpOk n k t) (hl:gens.length<=100):Bd Aa ((k:Int),((n:Int),[(3,T)]),[],[],40,gens,0)=some ((k:Int),((n:Int),[(3,T)]),Zn cmpL (BM gens),BM gens,40):=by
 have:=DC gens.length (λf (s:List (List Int)) i=>Bd f ((k:Int),((n:Int),[(3,T)]),Zn cmpL s,s,40,gens,i)) (λq=>BM (gens.take q))
  (r:=some ((k:Int),((n:Int),[(3,T)]),Zn cmpL (BM gens),BM gens,40)) (λf i hi=>?_) (λf=>?_) (n:=Aa) (by unfold Aa;omega)
 ·have e0:Zn cmpL (BM (gens.take 0))= []:=by simp[Zn,BM]
  rw[e0]at this
  exact this
 ·obtain⟨c1,c2,_⟩:=DS (n:=n) (k:=k) (T:=T) (gens:=gens) (gens.take i) λt ht=>List.mem_of_mem_take ht
  have hgi:=hg _ (List.getElem_mem hi)
  have c2':(BM (gens.take i)).length<=1000:=by rw[List.length_take]at c2;omega
  obtain⟨c,e3,e4⟩:=DW h c1 hg c2' hgi
  simp only[Bd,Aj,hi,AK hi,if_true,e3,Option.bind_some,Af (show i<4611686018427387904 by omega),Ek hi]
  rw[if_pos (by simp;omega)]
  by_cases hm:gens[i]∈BM (gens.take i)
  ·rw[if_neg (by simpa using hm)];unfold BL;rw[if_pos hm]
  ·rw[if_pos (by simpa using hm),e4 hm]
   simp only[Option.bind_some]
   rw[if_pos (by simp;unfold lim;omega)];unfold BL;rw[if_neg hm]
 ·simp only[Bd,List.take_length]
  rw[if_neg (by simp)]
theorem HI (n k:Nat) (T:List Int) (hg: ∀t∈gens,t.length<=100) (hl:gens.length<=100):BA Aa ((k:Int),gens,((n:Int),[(3,T)]),[],[],40,[],0)=some ((k:Int),((n:Int),[(3,T)]),[],[],40,gens):=by
 have:=DC gens.length (λf (s:List (List Int)) i=>BA f ((k:Int),gens,((n:Int),[(3,T)]),[],[],40,s,i)) (λq=>gens.take q)
  (r:=some ((k:Int),((n:Int),[(3,T)]),[],[],40,gens)) (λf i hi=>?_) (λf=>?_) (n:=Aa) (by unfold Aa;omega)
 ·exact this
 ·have hgi:=hg _ (List.getElem_mem hi)
  have e1:=BT (l:=gens[i]) (by omega)
  simp only[BA,Aj,hi,AK hi,if_true,e1,Option.bind_some,Af (show i<4611686018427387904 by omega),List.take_succ_eq_append_getElem hi]
  rw[if_pos (by simp;omega),if_pos (by simp;unfold lim;omega)]
 ·simp only[BA,List.take_length]
  rw[if_neg (by simp)]
theorem HJ (n k:Nat) (T:List Int) (t8 t9 fst:List (List Int)):BR Aa ((k:Int),((n:Int),[(3,T)]),t8,t9,40,fst,0)=some ((k:Int),((n:Int),[(3,T)]),t8,t9,40,fst):=by
 obtain⟨f,hf⟩: ∃f,Aa=f+2:=⟨Aa-2,rfl⟩
 have i0:inb 0 [((3:Int),T)]:=by unfold inb;simp
 have g0:gd [((3:Int),T)] 0 (0,[])=(3,T):=rfl
 have w0:w64 (0+1)=1:=by decide
 rw[hf]
 simp only[BR,List.length_singleton,i0,g0,if_true,w0]
 simp
theorem EB (h:T3Ok n k T) (hg: ∀t∈gens,TpOk n k t) (hl:gens.length<=40):
  ∃L,GenL n k T gens L/\Dz ((n:Int),[(3,T)]) (k:Int) gens=some (Zn cmpL L,decide (L.length<=40)):=by
 have hk:=h.hk
 obtain⟨c1,c2,c3⟩:=DS (n:=n) (k:=k) (T:=T) (gens:=gens) gens λ_ h=>h
 have e1:=HI n k T (gens:=gens) (λt ht=>by have:=(hg t ht).1;omega) (by omega)
 have e2:=HJ n k T [] [] gens
 have e3:=He h hg (by omega)
 obtain⟨L,e4,p1,p2,p3⟩:=Hf h hg 50 Aa 0 (BM gens) (by unfold Aa;omega) (by omega) (Nat.zero_le _) ⟨c1,by omega⟩ (λ_ x y z hx=>by omega)
 refine⟨L,⟨p2.cl,p2.le,λt ht=>p1.subset (c3 t ht),p3⟩,?_⟩
 unfold Dz
 have e4:A7 Aa ((k:Int),((n:Int),[(3,T)]),Zn cmpL (BM gens),BM gens,40,0)=_:=e4
 dsimp only
 rw[ER]
 simp only[Option.bind_some,e1,e2,e3,e4,(Bc L).length_eq]
 congr 2
 simp;omega
end
end T
open Go Go.Va
namespace T
section
variable {n k:Nat} {T:List Int} {gens ts:List (List Int)}
theorem Gv (n:Int) (T:List Int) (hT:T.length<=1048576):CV (n,[(3,T)])=some (Cd n&&opB n (3,T)):=by
 unfold CV Cd
 obtain⟨f,hf⟩: ∃f,Aa=f+2:=⟨Aa-2,rfl⟩
 by_cases h1:n<1
 ·rw[if_pos (by simpa using h1)]
  have: ¬(1<=n/\n<=8):=by omega
  simp[this]
 ·rw[if_neg (by simpa using h1)]
  by_cases h2:n>8
  ·rw[if_pos (by simpa using h2)]
   have: ¬(1<=n/\n<=8):=by omega
   simp[this]
  ·rw[if_neg (by simpa using h2),if_neg (by simp)]
   have e:=Ed (n:=n) (f:=(3,T)) (by omega) hT
   have e0:gd ([(3,T)]:List Opn) (0:Int) (0,[])=(3,T):=rfl
   have w1:w64 (0+1)=1:=by decide
   have i0:inb (0:Int) ([(3,T)]:List Opn):=by unfold inb;simp
   have hl1:(([((3:Int),T)].length:Nat):Int)=1:=rfl
   have h3:1<=n/\n<=8:=by omega
   rw[hf]
   dsimp only
   simp only[Cv,hl1,e0,i0,if_true,e,Option.bind_some,w1]
   cases hb:opB n (3,T)<;>simp[h3]
theorem Ie {n:Int} {N:Nat} (hn:n=(N:Int)) (hN:1<=N/\N<=8) (hk:1<=k/\k<=4) (h:opB n (3,T)=true):T3Ok N k T:=by
 subst hn
 unfold opB at h
 simp only[Bool.and_eq_true,decide_eq_true_eq]at h
 obtain⟨⟨_,h2⟩,h3⟩:=h
 refine⟨hN,hk,?_,λx hx=>?_⟩
 ·have h2:(T.length:Int)=(N:Int)^3:=h2
  have:((N:Int))^3=((N*N*N:Nat):Int):=by rw[show(3:Nat)=2+1 from rfl,Int.pow_succ,show(2:Nat)=1+1 from rfl,Int.pow_succ,show(1:Nat)=0+1 from rfl,Int.pow_succ];push_cast;rw[Int.pow_zero,Int.one_mul]
  omega
 ·unfold AS at h3
  have:=List.all_eq_true.1 h3 x hx
  simpa using this
theorem F4 {n:Int} (A:List Opn) (hg: ∀t∈gens,t.length=k/\AS n t=true) (hk:k<=100) (hl:gens.length<=1000):CX (n,A) (k:Int) gens=some true:=by
 unfold CX
 have:=DC gens.length (λf (_:Unit) i=>Bg f ((k:Int),(n,A),gens,(gens.length:Int),i)) (λ_=>()) (r:=some (.inl ())) (λf i hi=>?_) (λf=>?_) (n:=Aa) (by unfold Aa;omega)
 ·have this:Bg Aa ((k:Int),(n,A),gens,(gens.length:Int),0)=_:=this
  dsimp only
  rw[this];rfl
 ·obtain⟨h1,h2⟩:=hg _ (List.getElem_mem hi)
  have e:=CZ (l:=gens[i]) n (by omega)
  simp only[Bg,Aj,hi,AK hi,if_true,e,h2,Option.bind_some,Af (show i<4611686018427387904 by omega)]
  rw[if_pos (by simp;omega),if_neg (by simp[h1]),if_neg (by simp)]
 ·simp only[Bg]
  rw[if_neg (by simp)]
theorem Eb {n k:Nat} {t:List Int} (h1:t.length=k) (h2:AS (n:Int) t=true):TpOk n k t:=⟨h1,λx hx=>by
 unfold AS at h2
 have:=List.all_eq_true.1 h2 x hx
 simpa using this⟩
theorem Ew {N:Nat} (h:T3Ok N k T) (hop:opB (N:Int) (3,T)=true) (hg: ∀t∈gens,t.length=k/\AS (N:Int) t=true) (hl:gens.length<=20):
  ∃L,GenL N k T gens L/\AQ ((N:Int),[(3,T)]) (k:Int) gens=some (if L.length<=40 then(Zn cmpL L,true)else([],false)):=by
 have hn:=h.hn;have hk:=h.hk
 have hcube:=Dt hn
 obtain⟨L,hG,hL⟩:=EL h (λt ht=>Eb (hg t ht).1 (hg t ht).2) hl
 refine⟨L,hG,?_⟩
 have e1:CU ((N:Int),[(3,T)]) (k:Int) gens=some true:=by
  unfold CU Df
  have:=h.tl
  rw[Gv _ _ (by omega),hop]
  have hs:Cd (N:Int)=true:=by unfold Cd;simp;omega
  have e2:=F4 (n:=(N:Int)) [(3,T)] hg (by omega) (by omega)
  simp only[hs,Bool.and_self,Option.bind_some,if_true,e2]
  rw[if_pos (by simp;omega)]
  simp only[Option.bind_some]
  rw[if_pos (by simp;omega),if_pos (by simp;omega)]
 unfold AQ
 dsimp only
 rw[e1]
 simp only[Option.bind_some]
 rw[if_neg (by simp)]
 rcases hL with ⟨e,q⟩|⟨e,q⟩
 ·have e3:=EP (l:=L) (by omega) (λr hr=>by have:=((hG.cl.sub r hr).ok h λt ht=>Eb (hg t ht).1 (hg t ht).2).1;omega)
  rw[e]
  simp only[Option.bind_some,spn,e3]
  rw[if_neg (by simp),if_pos trivial,if_pos q]
 ·rw[e,if_neg (by omega)];rfl
theorem D0 {n kk:Int} {op:Opn} (hl:ts.length<=1099511627774) (hr: ∀t∈ts,t.length<=1099511627775) (ho:op.2.length<=1048576):
  ∃R:List (List Int)×Bool,AF n op kk ts=some R/\AH n op kk ts=some R/\R.1.length<=40/\(∀r∈R.1,r.length<=4)/\
   (R.2=true-> ∃(N K:Nat) (L:List (List Int)),n=N/\kk=K/\T3Ok N K op.2/\GenL N K op.2 ts L/\L.length<=40/\R.1=Zn cmpL L):=by
 obtain⟨ar,T⟩:=op
 unfold AF AH
 rw[Cm hl hr,B2 hl hr]
 simp only[Option.bind_some]
 cases hs:C2 n kk ts with
 |false=>exact⟨([],false),rfl,rfl,by simp,by simp,by simp⟩
 |true=>
  obtain⟨h,hk⟩:=DY hs
  have hn:=h.hn
  have hk':=h.hk
  obtain⟨N,rfl⟩: ∃N:Nat,n=(N:Int):=⟨n.toNat,by omega⟩
  obtain⟨K,hK⟩: ∃K,K=kk.toNat:=⟨_,rfl⟩
  rw[←hK]at h hk hk'
  subst hk
  by_cases h20:(ts.length:Int)>20
  ·simp only[h20,decide_true,if_true]
   exact⟨([],false),rfl,rfl,by simp,by simp,by simp⟩
  ·simp only[h20,decide_false,Bool.not_true,Bool.false_eq_true,if_false]
   by_cases h3:ar=3
   ·subst h3
    rw[if_neg (by simp),if_neg (by simp)]
    have ho:T.length<=1048576:=ho
    have e1:=Ed (n:=(N:Int)) (f:=(3,T)) (by omega) ho
    have e2:=Fh (n:=(N:Int)) (f:=(3,T)) (by omega) ho
    rw[e1,e2]
    simp only[Option.bind_some]
    cases hop:opB (N:Int) (3,T)with
    |false=>exact⟨([],false),rfl,rfl,by simp,by simp,by simp⟩
    |true=>
     have hT:=Ie (k:=K) (N:=N) rfl (by omega) hk' hop
     have hg: ∀t∈ts,t.length=K/\AS (N:Int) t=true:=λt ht=>⟨h.len t ht,h.el t ht⟩
     have hg': ∀t∈ts,TpOk N K t:=λt ht=>Eb (hg t ht).1 (hg t ht).2
     obtain⟨L,hG,e3⟩:=Ew hT hop hg (by omega)
     obtain⟨M,hG2,e4⟩:=EB hT hg' (by omega)
     rw[e3,e4]
     simp only[Option.bind_some,Bool.not_true,Bool.false_eq_true,if_false]
     by_cases hL:L.length<=40
     ·obtain⟨hM,hE⟩:=hG.same hG2 hL
      rw[if_pos hL,if_neg (by simpa using hM),←hE]
      have hp:=Bc L
      exact⟨(Zn cmpL L,true),rfl,rfl,by rw[hp.length_eq];exact hL,λr hr=>by have:=((hG.cl.sub r (hp.mem_iff.1 hr)).ok hT hg').1;omega,λ_=>⟨N,K,L,rfl,rfl,hT,hG,hL,rfl⟩⟩
     ·have hM: ¬M.length<=40:=λh=>hL (hG2.same hG h).1
      rw[if_neg hL,if_pos (by simpa using hM)]
      exact⟨([],false),rfl,rfl,by simp,by simp,by simp⟩
   ·rw[if_pos (by simpa using h3),if_pos (by simpa using h3)]
    exact⟨([],false),rfl,rfl,by simp,by simp,by simp⟩
end
end T
set_option linter.unusedVariables false
open Go Go.Va
namespace T
def Bi:Nat->(Int×((List (List Int))×Int)×(Int×(List (Int×(List Int))))×(List (List Int))×(List (List Int))×Int×(List (List Int))×Int)->Option (Int×((List (List Int))×Int)×(Int×(List (Int×(List Int))))×(List (List Int))×(List (List Int))×Int×(List (List Int)))
 |0,_=>none
 |n+1,(t1,t2,t3,t8,t9,t10,t11,t12)=>
 if decide (t12<t2.2)then
 if 0<=t12/\t12<t2.2 then
 (B0 (gd t2.1 t12 [])).bind λr2=>
 if t11.length+ [r2].length<=lim then
 Bi n (t1,(t2.1,t2.2),(t3.1,t3.2),t8,t9,t10,t11++ [r2],w64 (t12+1))
 else none
 else none
 else
 some (t1,(t2.1,t2.2),(t3.1,t3.2),t8,t9,t10,t11)
def BB:Nat->(Int×((List (List Int))×Int)×(Int×(List (Int×(List Int))))×(List (List Int))×(List (List Int))×Int×(List (List Int))×Int)->Option (Int×((List (List Int))×Int)×(Int×(List (Int×(List Int))))×(List (List Int))×(List (List Int))×Int×(List (List Int)))
 |0,_=>none
 |n+1,(t1,t2,t3,t8,t9,t10,t11,t13)=>
 if decide (t13<(t3.2.length:Int))then
 if inb t13 t3.2 then
 if((gd t3.2 t13 (0,[])).1)==0 then
 (Cb (t3.1,t3.2) t13 [] t1).bind λr4=>
 if t11.length+ [r4].length<=lim then
 BB n (t1,(t2.1,t2.2),(t3.1,t3.2),t8,t9,t10,t11++ [r4],w64 (t13+1))
 else none
 else
 BB n (t1,(t2.1,t2.2),(t3.1,t3.2),t8,t9,t10,t11,w64 (t13+1))
 else none
 else
 some (t1,(t2.1,t2.2),(t3.1,t3.2),t8,t9,t10,t11)
def AU:Nat->(Int×((List (List Int))×Int)×(Int×(List (Int×(List Int))))×(List (List Int))×(List (List Int))×Int×(List (List Int))×Int)->Option (Int×((List (List Int))×Int)×(Int×(List (Int×(List Int))))×(List (List Int))×(List (List Int))×Int)
 |0,_=>none
 |n+1,(t1,t2,t3,t8,t9,t10,t11,t14)=>
 if decide (t14<(t11.length:Int))then
 if inb t14 t11 then
 (BC t8 (gd t11 t14 [])).bind λr6=>
 if !r6.2 then
 if inb t14 t11 then
 (BO t8 (gd t11 t14 [])).bind λr7=>
 if inb t14 t11 then
 if t9.length+ [gd t11 t14 []].length<=lim then
 AU n (t1,(t2.1,t2.2),(t3.1,t3.2),r7,t9++ [gd t11 t14 []],t10,t11,w64 (t14+1))
 else none
 else none
 else none
 else
 AU n (t1,(t2.1,t2.2),(t3.1,t3.2),t8,t9,t10,t11,w64 (t14+1))
 else none
 else
 some (t1,(t2.1,t2.2),(t3.1,t3.2),t8,t9,t10)
def Ap:Nat->(Int×((List (List Int))×Int)×(Int×(List (Int×(List Int))))×(List (List Int))×(List (List Int))×Int×Int×Int×(List Int)×Bool)->Option (Int×((List (List Int))×Int)×(Int×(List (Int×(List Int))))×(List (List Int))×(List (List Int))×Int×Int×Int)
 |0,_=>none
 |n+1,(t1,t2,t3,t8,t9,t10,t17,t18,t19,t20)=>
 if t20 then
 if decide ((t9.length:Int)<=t10)then
 (Dx t19 t17).bind λr9=>
 if r9 then
 (Cl t9 t19).bind λr10=>
 (Cb (t3.1,t3.2) t18 r10.2 t1).bind λr11=>
 (BC t8 r11).bind λr12=>
 if !r12.2 then
 (BO t8 r11).bind λr13=>
 if r10.1.length+ [r11].length<=lim then
 (BN t19 (w64 (t17+1))).bind λr14=>
 Ap n (t1,(t2.1,t2.2),(t3.1,t3.2),r13,r10.1++ [r11],t10,t17,t18,r14.1,r14.2)
 else none
 else
 (BN t19 (w64 (t17+1))).bind λr15=>
 Ap n (t1,(t2.1,t2.2),(t3.1,t3.2),t8,r10.1,t10,t17,t18,r15.1,r15.2)
 else
 (BN t19 (w64 (t17+1))).bind λr16=>
 Ap n (t1,(t2.1,t2.2),(t3.1,t3.2),t8,t9,t10,t17,t18,r16.1,r16.2)
 else
 some (t1,(t2.1,t2.2),(t3.1,t3.2),t8,t9,t10,t17,t18)
 else
 some (t1,(t2.1,t2.2),(t3.1,t3.2),t8,t9,t10,t17,t18)
def Be:Nat->(Int×((List (List Int))×Int)×(Int×(List (Int×(List Int))))×(List (List Int))×(List (List Int))×Int×Int×Int)->Option (Int×((List (List Int))×Int)×(Int×(List (Int×(List Int))))×(List (List Int))×(List (List Int))×Int×Int)
 |0,_=>none
 |n+1,(t1,t2,t3,t8,t9,t10,t17,t18)=>
 if decide (t18<(t3.2.length:Int))then
 if inb t18 t3.2 then
 if 0<=((gd t3.2 t18 (0,[])).1)/\((gd t3.2 t18 (0,[])).1)<=((gd t3.2 t18 (0,[])).1)/\((gd t3.2 t18 (0,[])).1)<=lim then
 if inb t18 t3.2 then
 (Ap Aa (t1,(t2.1,t2.2),(t3.1,t3.2),t8,t9,t10,t17,t18,List.replicate (Int.toNat ((gd t3.2 t18 (0,[])).1)) (0:Int),decide (((gd t3.2 t18 (0,[])).1)>0))).bind λs9=>
 Be n (s9.1,(s9.2.1.1,s9.2.1.2),(s9.2.2.1.1,s9.2.2.1.2),s9.2.2.2.1,s9.2.2.2.2.1,s9.2.2.2.2.2.1,s9.2.2.2.2.2.2.1,w64 (s9.2.2.2.2.2.2.2+1))
 else none
 else none
 else none
 else
 some (t1,(t2.1,t2.2),(t3.1,t3.2),t8,t9,t10,t17)
def AO:Nat->(Int×((List (List Int))×Int)×(Int×(List (Int×(List Int))))×(List (List Int))×(List (List Int))×Int×Int)->Option (((List (List Int))×Int)×(List (List Int))×Int)
 |0,_=>none
 |n+1,(t1,t2,t3,t8,t9,t10,t17)=>
 if decide (t17<(t9.length:Int))then
 if decide ((t9.length:Int)<=t10)then
 (Be Aa (t1,(t2.1,t2.2),(t3.1,t3.2),t8,t9,t10,t17,0)).bind λs9=>
 AO n (s9.1,(s9.2.1.1,s9.2.1.2),(s9.2.2.1.1,s9.2.2.1.2),s9.2.2.2.1,s9.2.2.2.2.1,s9.2.2.2.2.2.1,w64 (s9.2.2.2.2.2.2+1))
 else
 some ((t2.1,t2.2),t8,t10)
 else
 some ((t2.1,t2.2),t8,t10)
def Bw (t0:Int×(List (Int×(List Int)))) (t1:Int) (t2:(List (List Int))×Int):Option ((List (List Int))×(List (List Int))×Bool):=
 (Db (t0.1,t0.2)).bind λr1=>
 (Bi Aa (t1,(t2.1,t2.2),(t0.1,t0.2),[],[],r1,[],0)).bind λs2=>
 (BB Aa (s2.1,(s2.2.1.1,s2.2.1.2),(s2.2.2.1.1,s2.2.2.1.2),s2.2.2.2.1,s2.2.2.2.2.1,s2.2.2.2.2.2.1,s2.2.2.2.2.2.2,0)).bind λs3=>
 (AU Aa (s3.1,(s3.2.1.1,s3.2.1.2),(s3.2.2.1.1,s3.2.2.1.2),s3.2.2.2.1,s3.2.2.2.2.1,s3.2.2.2.2.2.1,s3.2.2.2.2.2.2,0)).bind λs4=>
 (AO Aa (s4.1,(s4.2.1.1,s4.2.1.2),(s4.2.2.1.1,s4.2.2.1.2),s4.2.2.2.1,s4.2.2.2.2.1,s4.2.2.2.2.2,0)).bind λs5=>
 some (s5.1.1,s5.2.1,decide ((s5.2.1.length:Int)<=s5.2.2))
def AY:Nat->(((List Int)×Int×Int)×Int×Int×(List (List Int))×Int×(List Int)×Int)->Option (((List Int)×Int×Int)×Int×Int×(List (List Int))×Int×(List Int))
 |0,_=>none
 |n+1,(t0,t7,t8,t9,t10,t11,t12)=>
 if decide (t12<t8)then
 (Ad (t0.1,(t0.2.1,t0.2.2)) t7).bind λr4=>
 if t11.length+ [r4.2].length<=lim then
 AY n ((r4.1.1,(r4.1.2.1,r4.1.2.2)),t7,t8,t9,t10,t11++ [r4.2],w64 (t12+1))
 else none
 else
 some ((t0.1,(t0.2.1,t0.2.2)),t7,t8,t9,t10,t11)
def AA:Nat->(((List Int)×Int×Int)×Int×Int×(List (List Int))×Int)->Option (((List Int)×Int×Int)×Int×Int×(List (List Int)))
 |0,_=>none
 |n+1,(t0,t7,t8,t9,t10)=>
 if decide (t10>0)then
 (AY Aa ((t0.1,(t0.2.1,t0.2.2)),t7,t8,t9,t10,[],0)).bind λs4=>
 (BO s4.2.2.2.1 s4.2.2.2.2.2).bind λr5=>
 AA n ((s4.1.1,(s4.1.2.1,s4.1.2.2)),s4.2.1,s4.2.2.1,r5,w64 (s4.2.2.2.2.1-1))
 else
 some ((t0.1,(t0.2.1,t0.2.2)),t7,t8,t9)
def B8 (t0:(List Int)×Int×Int) (t1:Bool):Option (((List Int)×Int×Int)×Int×Int×(List (List Int))):=
 (Ab (t0.1,(t0.2.1,t0.2.2)) [2,3,3,2,5,4]).bind λr1=>
 (Ab (r1.1.1,(r1.1.2.1,r1.1.2.2)) [1,2,2,3,3,4]).bind λr2=>
 if t1 then
 if r1.2==4 then
 (Ad (r2.1.1,(r2.1.2.1,r2.1.2.2)) 5).bind λr3=>
 (AA Aa ((r3.1.1,(r3.1.2.1,r3.1.2.2)),7,r2.2,[],w64 (1+r3.2))).bind λs4=>
 (Ag (s4.1.1,(s4.1.2.1,s4.1.2.2)) 2).bind λr5=>
 if r5.2 then
 (A9 s4.2.1).bind λr6=>
 (Ca 3 (s4.2.2.2.length:Int)).bind λr7=>
 if 0<=r7/\r7<=(s4.2.2.2.length:Int)/\0<(s4.2.2.2.length:Int)then
 (Bw (s4.2.1,[(r6.1,r6.2)]) s4.2.2.1 (s4.2.2.2,r7)).bind λr8=>
 if decide (r8.1.length=s4.2.2.2.length)then
 if r8.2.2 then
 (Ad (r5.1.1,(r5.1.2.1,r5.1.2.2)) 40).bind λr9=>
 if r9.2==0 then
 (Ab (r9.1.1,(r9.1.2.1,r9.1.2.2)) [0,9,4,6]).bind λr10=>
 some ((r10.1.1,(r10.1.2.1,r10.1.2.2)),r10.2,s4.2.2.1,r8.2.1)
 else
 if r9.2==1 then
 (Ab (r9.1.1,(r9.1.2.1,r9.1.2.2)) [0,5,w64 (s4.2.2.1+1)]).bind λr11=>
 some ((r11.1.1,(r11.1.2.1,r11.1.2.2)),s4.2.1,r11.2,r8.2.1)
 else
 if r9.2==2 then
 if 0<=s4.2.2.1/\s4.2.2.1<=s4.2.2.1/\s4.2.2.1<=lim then
 if r8.2.1.length+ [List.replicate (Int.toNat s4.2.2.1) (0:Int)].length<=lim then
 some ((r9.1.1,(r9.1.2.1,r9.1.2.2)),s4.2.1,s4.2.2.1,r8.2.1++ [List.replicate (Int.toNat s4.2.2.1) (0:Int)])
 else none
 else none
 else
 if r9.2==3 then
 some ((r9.1.1,(r9.1.2.1,r9.1.2.2)),s4.2.1,s4.2.2.1,[])
 else
 some ((r9.1.1,(r9.1.2.1,r9.1.2.2)),s4.2.1,s4.2.2.1,r8.2.1)
 else
 (Ad (r5.1.1,(r5.1.2.1,r5.1.2.2)) 40).bind λr12=>
 if r12.2==0 then
 (Ab (r12.1.1,(r12.1.2.1,r12.1.2.2)) [0,9,4,6]).bind λr13=>
 some ((r13.1.1,(r13.1.2.1,r13.1.2.2)),r13.2,s4.2.2.1,r8.1.take (Int.toNat (s4.2.2.2.length:Int)))
 else
 if r12.2==1 then
 (Ab (r12.1.1,(r12.1.2.1,r12.1.2.2)) [0,5,w64 (s4.2.2.1+1)]).bind λr14=>
 some ((r14.1.1,(r14.1.2.1,r14.1.2.2)),s4.2.1,r14.2,r8.1.take (Int.toNat (s4.2.2.2.length:Int)))
 else
 if r12.2==2 then
 if 0<=s4.2.2.1/\s4.2.2.1<=s4.2.2.1/\s4.2.2.1<=lim then
 if(r8.1.take (Int.toNat (s4.2.2.2.length:Int))).length+ [List.replicate (Int.toNat s4.2.2.1) (0:Int)].length<=lim then
 some ((r12.1.1,(r12.1.2.1,r12.1.2.2)),s4.2.1,s4.2.2.1,(r8.1.take (Int.toNat (s4.2.2.2.length:Int)))++ [List.replicate (Int.toNat s4.2.2.1) (0:Int)])
 else none
 else none
 else
 if r12.2==3 then
 some ((r12.1.1,(r12.1.2.1,r12.1.2.2)),s4.2.1,s4.2.2.1,[])
 else
 some ((r12.1.1,(r12.1.2.1,r12.1.2.2)),s4.2.1,s4.2.2.1,r8.1.take (Int.toNat (s4.2.2.2.length:Int)))
 else none
 else none
 else
 (Ad (r5.1.1,(r5.1.2.1,r5.1.2.2)) 40).bind λr15=>
 if r15.2==0 then
 (Ab (r15.1.1,(r15.1.2.1,r15.1.2.2)) [0,9,4,6]).bind λr16=>
 some ((r16.1.1,(r16.1.2.1,r16.1.2.2)),r16.2,s4.2.2.1,s4.2.2.2)
 else
 if r15.2==1 then
 (Ab (r15.1.1,(r15.1.2.1,r15.1.2.2)) [0,5,w64 (s4.2.2.1+1)]).bind λr17=>
 some ((r17.1.1,(r17.1.2.1,r17.1.2.2)),s4.2.1,r17.2,s4.2.2.2)
 else
 if r15.2==2 then
 if 0<=s4.2.2.1/\s4.2.2.1<=s4.2.2.1/\s4.2.2.1<=lim then
 if s4.2.2.2.length+ [List.replicate (Int.toNat s4.2.2.1) (0:Int)].length<=lim then
 some ((r15.1.1,(r15.1.2.1,r15.1.2.2)),s4.2.1,s4.2.2.1,s4.2.2.2++ [List.replicate (Int.toNat s4.2.2.1) (0:Int)])
 else none
 else none
 else
 if r15.2==3 then
 some ((r15.1.1,(r15.1.2.1,r15.1.2.2)),s4.2.1,s4.2.2.1,[])
 else
 some ((r15.1.1,(r15.1.2.1,r15.1.2.2)),s4.2.1,s4.2.2.1,s4.2.2.2)
 else
 (Ad (r2.1.1,(r2.1.2.1,r2.1.2.2)) 5).bind λr18=>
 (AA Aa ((r18.1.1,(r18.1.2.1,r18.1.2.2)),r1.2,r2.2,[],w64 (1+r18.2))).bind λs19=>
 (Ag (s19.1.1,(s19.1.2.1,s19.1.2.2)) 2).bind λr20=>
 if r20.2 then
 (A9 s19.2.1).bind λr21=>
 (Ca 3 (s19.2.2.2.length:Int)).bind λr22=>
 if 0<=r22/\r22<=(s19.2.2.2.length:Int)/\0<(s19.2.2.2.length:Int)then
 (Bw (s19.2.1,[(r21.1,r21.2)]) s19.2.2.1 (s19.2.2.2,r22)).bind λr23=>
 if decide (r23.1.length=s19.2.2.2.length)then
 if r23.2.2 then
 (Ad (r20.1.1,(r20.1.2.1,r20.1.2.2)) 40).bind λr24=>
 if r24.2==0 then
 (Ab (r24.1.1,(r24.1.2.1,r24.1.2.2)) [0,9,4,6]).bind λr25=>
 some ((r25.1.1,(r25.1.2.1,r25.1.2.2)),r25.2,s19.2.2.1,r23.2.1)
 else
 if r24.2==1 then
 (Ab (r24.1.1,(r24.1.2.1,r24.1.2.2)) [0,5,w64 (s19.2.2.1+1)]).bind λr26=>
 some ((r26.1.1,(r26.1.2.1,r26.1.2.2)),s19.2.1,r26.2,r23.2.1)
 else
 if r24.2==2 then
 if 0<=s19.2.2.1/\s19.2.2.1<=s19.2.2.1/\s19.2.2.1<=lim then
 if r23.2.1.length+ [List.replicate (Int.toNat s19.2.2.1) (0:Int)].length<=lim then
 some ((r24.1.1,(r24.1.2.1,r24.1.2.2)),s19.2.1,s19.2.2.1,r23.2.1++ [List.replicate (Int.toNat s19.2.2.1) (0:Int)])
 else none
 else none
 else
 if r24.2==3 then
 some ((r24.1.1,(r24.1.2.1,r24.1.2.2)),s19.2.1,s19.2.2.1,[])
 else
 some ((r24.1.1,(r24.1.2.1,r24.1.2.2)),s19.2.1,s19.2.2.1,r23.2.1)
 else
 (Ad (r20.1.1,(r20.1.2.1,r20.1.2.2)) 40).bind λr27=>
 if r27.2==0 then
 (Ab (r27.1.1,(r27.1.2.1,r27.1.2.2)) [0,9,4,6]).bind λr28=>
 some ((r28.1.1,(r28.1.2.1,r28.1.2.2)),r28.2,s19.2.2.1,r23.1.take (Int.toNat (s19.2.2.2.length:Int)))
 else
 if r27.2==1 then
 (Ab (r27.1.1,(r27.1.2.1,r27.1.2.2)) [0,5,w64 (s19.2.2.1+1)]).bind λr29=>
 some ((r29.1.1,(r29.1.2.1,r29.1.2.2)),s19.2.1,r29.2,r23.1.take (Int.toNat (s19.2.2.2.length:Int)))
 else
 if r27.2==2 then
 if 0<=s19.2.2.1/\s19.2.2.1<=s19.2.2.1/\s19.2.2.1<=lim then
 if(r23.1.take (Int.toNat (s19.2.2.2.length:Int))).length+ [List.replicate (Int.toNat s19.2.2.1) (0:Int)].length<=lim then
 some ((r27.1.1,(r27.1.2.1,r27.1.2.2)),s19.2.1,s19.2.2.1,(r23.1.take (Int.toNat (s19.2.2.2.length:Int)))++ [List.replicate (Int.toNat s19.2.2.1) (0:Int)])
 else none
 else none
 else
 if r27.2==3 then
 some ((r27.1.1,(r27.1.2.1,r27.1.2.2)),s19.2.1,s19.2.2.1,[])
 else
 some ((r27.1.1,(r27.1.2.1,r27.1.2.2)),s19.2.1,s19.2.2.1,r23.1.take (Int.toNat (s19.2.2.2.length:Int)))
 else none
 else none
 else
 (Ad (r20.1.1,(r20.1.2.1,r20.1.2.2)) 40).bind λr30=>
 if r30.2==0 then
 (Ab (r30.1.1,(r30.1.2.1,r30.1.2.2)) [0,9,4,6]).bind λr31=>
 some ((r31.1.1,(r31.1.2.1,r31.1.2.2)),r31.2,s19.2.2.1,s19.2.2.2)
 else
 if r30.2==1 then
 (Ab (r30.1.1,(r30.1.2.1,r30.1.2.2)) [0,5,w64 (s19.2.2.1+1)]).bind λr32=>
 some ((r32.1.1,(r32.1.2.1,r32.1.2.2)),s19.2.1,r32.2,s19.2.2.2)
 else
 if r30.2==2 then
 if 0<=s19.2.2.1/\s19.2.2.1<=s19.2.2.1/\s19.2.2.1<=lim then
 if s19.2.2.2.length+ [List.replicate (Int.toNat s19.2.2.1) (0:Int)].length<=lim then
 some ((r30.1.1,(r30.1.2.1,r30.1.2.2)),s19.2.1,s19.2.2.1,s19.2.2.2++ [List.replicate (Int.toNat s19.2.2.1) (0:Int)])
 else none
 else none
 else
 if r30.2==3 then
 some ((r30.1.1,(r30.1.2.1,r30.1.2.2)),s19.2.1,s19.2.2.1,[])
 else
 some ((r30.1.1,(r30.1.2.1,r30.1.2.2)),s19.2.1,s19.2.2.1,s19.2.2.2)
 else
 (Ad (r2.1.1,(r2.1.2.1,r2.1.2.2)) 5).bind λr33=>
 (AA Aa ((r33.1.1,(r33.1.2.1,r33.1.2.2)),r1.2,r2.2,[],w64 (1+r33.2))).bind λs34=>
 (Ag (s34.1.1,(s34.1.2.1,s34.1.2.2)) 2).bind λr35=>
 if r35.2 then
 (A9 s34.2.1).bind λr36=>
 (Ca 3 (s34.2.2.2.length:Int)).bind λr37=>
 if 0<=r37/\r37<=(s34.2.2.2.length:Int)/\0<(s34.2.2.2.length:Int)then
 (Bw (s34.2.1,[(r36.1,r36.2)]) s34.2.2.1 (s34.2.2.2,r37)).bind λr38=>
 if decide (r38.1.length=s34.2.2.2.length)then
 if r38.2.2 then
 (Ad (r35.1.1,(r35.1.2.1,r35.1.2.2)) 40).bind λr39=>
 if r39.2==0 then
 (Ab (r39.1.1,(r39.1.2.1,r39.1.2.2)) [0,9,4,6]).bind λr40=>
 some ((r40.1.1,(r40.1.2.1,r40.1.2.2)),r40.2,s34.2.2.1,r38.2.1)
 else
 if r39.2==1 then
 (Ab (r39.1.1,(r39.1.2.1,r39.1.2.2)) [0,5,w64 (s34.2.2.1+1)]).bind λr41=>
 some ((r41.1.1,(r41.1.2.1,r41.1.2.2)),s34.2.1,r41.2,r38.2.1)
 else
 if r39.2==2 then
 if 0<=s34.2.2.1/\s34.2.2.1<=s34.2.2.1/\s34.2.2.1<=lim then
 if r38.2.1.length+ [List.replicate (Int.toNat s34.2.2.1) (0:Int)].length<=lim then
 some ((r39.1.1,(r39.1.2.1,r39.1.2.2)),s34.2.1,s34.2.2.1,r38.2.1++ [List.replicate (Int.toNat s34.2.2.1) (0:Int)])
 else none
 else none
 else
 if r39.2==3 then
 some ((r39.1.1,(r39.1.2.1,r39.1.2.2)),s34.2.1,s34.2.2.1,[])
 else
 some ((r39.1.1,(r39.1.2.1,r39.1.2.2)),s34.2.1,s34.2.2.1,r38.2.1)
 else
 (Ad (r35.1.1,(r35.1.2.1,r35.1.2.2)) 40).bind λr42=>
 if r42.2==0 then
 (Ab (r42.1.1,(r42.1.2.1,r42.1.2.2)) [0,9,4,6]).bind λr43=>
 some ((r43.1.1,(r43.1.2.1,r43.1.2.2)),r43.2,s34.2.2.1,r38.1.take (Int.toNat (s34.2.2.2.length:Int)))
 else
 if r42.2==1 then
 (Ab (r42.1.1,(r42.1.2.1,r42.1.2.2)) [0,5,w64 (s34.2.2.1+1)]).bind λr44=>
 some ((r44.1.1,(r44.1.2.1,r44.1.2.2)),s34.2.1,r44.2,r38.1.take (Int.toNat (s34.2.2.2.length:Int)))
 else
 if r42.2==2 then
 if 0<=s34.2.2.1/\s34.2.2.1<=s34.2.2.1/\s34.2.2.1<=lim then
 if(r38.1.take (Int.toNat (s34.2.2.2.length:Int))).length+ [List.replicate (Int.toNat s34.2.2.1) (0:Int)].length<=lim then
 some ((r42.1.1,(r42.1.2.1,r42.1.2.2)),s34.2.1,s34.2.2.1,(r38.1.take (Int.toNat (s34.2.2.2.length:Int)))++ [List.replicate (Int.toNat s34.2.2.1) (0:Int)])
 else none
 else none
 else
 if r42.2==3 then
 some ((r42.1.1,(r42.1.2.1,r42.1.2.2)),s34.2.1,s34.2.2.1,[])
 else
 some ((r42.1.1,(r42.1.2.1,r42.1.2.2)),s34.2.1,s34.2.2.1,r38.1.take (Int.toNat (s34.2.2.2.length:Int)))
 else none
 else none
 else
 (Ad (r35.1.1,(r35.1.2.1,r35.1.2.2)) 40).bind λr45=>
 if r45.2==0 then
 (Ab (r45.1.1,(r45.1.2.1,r45.1.2.2)) [0,9,4,6]).bind λr46=>
 some ((r46.1.1,(r46.1.2.1,r46.1.2.2)),r46.2,s34.2.2.1,s34.2.2.2)
 else
 if r45.2==1 then
 (Ab (r45.1.1,(r45.1.2.1,r45.1.2.2)) [0,5,w64 (s34.2.2.1+1)]).bind λr47=>
 some ((r47.1.1,(r47.1.2.1,r47.1.2.2)),s34.2.1,r47.2,s34.2.2.2)
 else
 if r45.2==2 then
 if 0<=s34.2.2.1/\s34.2.2.1<=s34.2.2.1/\s34.2.2.1<=lim then
 if s34.2.2.2.length+ [List.replicate (Int.toNat s34.2.2.1) (0:Int)].length<=lim then
 some ((r45.1.1,(r45.1.2.1,r45.1.2.2)),s34.2.1,s34.2.2.1,s34.2.2.2++ [List.replicate (Int.toNat s34.2.2.1) (0:Int)])
 else none
 else none
 else
 if r45.2==3 then
 some ((r45.1.1,(r45.1.2.1,r45.1.2.2)),s34.2.1,s34.2.2.1,[])
 else
 some ((r45.1.1,(r45.1.2.1,r45.1.2.2)),s34.2.1,s34.2.2.1,s34.2.2.2)
end T
open Go Go.Va
namespace T
section
variable {n k:Nat} {T:List Int} {gens:List (List Int)} {G:List (List Int)} {gb:Int}
theorem Hd (h:T3Ok n k T) (hg: ∀t∈gens,TpOk n k t) {q B:Nat} (hB:B=q+1) (hB41:B<=40): ∀(c f i:Nat) (L:List (List Int)),i+c+1=B^3->c+2<f->SpOk n k T gens L->B<=L.length->
    ∃L',Ap f ((k:Int),(G,gb),((n:Int),[(3,T)]),Zn cmpL L,L,40,(q:Int),0,cI (dg B 3 i),true)=some ((k:Int),(G,gb),((n:Int),[(3,T)]),Zn cmpL L',L',40,(q:Int),0)/\L<+:L'/\SpOk n k T gens L'/\
      (L'.length<=40-> ∀j,i<=j->j<B^3->q∈dg B 3 j->FF n k T ((dg B 3 j).map λx=>L.getD x [])∈L'):=by
  have hk:=h.hk
  have hB0:0<B:=by omega
  intro c
  induction c with
  |zero=>
    intro f i L hi hf hS hl
    obtain⟨f,rfl⟩: ∃q,f=q+2:=⟨f-2,by omega⟩
    by_cases h40:L.length<=40
    · have hdl:(dg B 3 i).length=3:=Du
      have hdv: ∀x∈dg B 3 i,x<L.length:=λx hx=>by have:=EF hB0 x hx;omega
      have e0:=CM (l:=cI (dg B 3 i)) (x:=(q:Int)) (by rw[CC,hdl];omega)
      have e5:=CB (k:=3) hB0 (by omega) (by omega) (i:=i) (by omega)
      rw[if_neg (by omega)]at e5
      have hmem:((q:Int)∈cI (dg B 3 i))↔q∈dg B 3 i:=by
        unfold cI;rw[List.mem_map]
        exact ⟨fun ⟨y, hy, e⟩ => by have : y = q := by omega
                                    subst this;exact hy,λh=>⟨q,h,rfl⟩⟩
      have w1:w64 ((q:Int)+1)=(B:Int):=by rw[Af (by omega),hB]
      have hle:decide ((L.length:Int)<=40)=true:=by simp;omega
      by_cases hq:q∈dg B 3 i
      · obtain⟨a,b,d,hd3⟩:=Ft hdl
        have ha:=hdv a (by rw[hd3];simp);have hb:=hdv b (by rw[hd3];simp);have hd:=hdv d (by rw[hd3];simp)
        have ca:=hS.cl.sub _ (AL (d:= []) ha);have cb:=hS.cl.sub _ (AL (d:= []) hb);have cd:=hS.cl.sub _ (AL (d:= []) hd)
        have e1:=C4 (ts:=L) (ns:=dg B 3 i) (by omega) hdv
        have e2:=Cc h (ca.ok h hg) (cb.ok h hg) (cd.ok h hg)
        have e1':(dg B 3 i).map (λx=>L.getD x [])= [L.getD a [],L.getD b [],L.getD d []]:=by rw[hd3];rfl
        rw[e1']at e1
        have eA:FF n k T ((dg B 3 i).map λx=>L.getD x [])=BU n k T (L.getD a []) (L.getD b []) (L.getD d []):=by rw[e1'];rfl
        obtain⟨c,e3,e4⟩:=DW h hS.cl hg (by omega) (Ds h (ca.ok h hg) (cb.ok h hg) (cd.ok h hg))
        refine⟨BL L (BU n k T (L.getD a []) (L.getD b []) (L.getD d [])),?_,addL_pre,⟨DP hS.cl (ca.app cb cd),by have:=DQ (L:=L) (t:=BU n k T (L.getD a []) (L.getD b []) (L.getD d []));omega⟩,λ_ j h1 h2 _=>?_⟩
        · simp only[Ap,if_true,hle,e0,hmem,hq,decide_true,Option.bind_some,e1,e2,e3,w1,e5]
          by_cases hm:BU n k T (L.getD a []) (L.getD b []) (L.getD d [])∈L
          · unfold BL
            rw[if_pos hm,if_neg (by simpa using hm)];rfl
          · unfold BL
            rw[if_neg hm,if_pos (by simpa using hm),e4 hm]
            simp only[Option.bind_some]
            rw[if_pos (by simp;unfold lim;omega)];rfl
        · have:j=i:=by omega
          subst this;rw[eA];exact Dh
      · refine⟨L,?_,List.prefix_refl L,hS,λ_ j h1 h2 hj=>?_⟩
        · simp only[Ap,if_true,hle,e0,hmem,hq,decide_false,Option.bind_some,w1,e5,Bool.false_eq_true,if_false]
        · have:j=i:=by omega
          subst this;exact absurd hj hq
    · have hle:decide ((L.length:Int)<=40)=false:=by simp;omega
      refine⟨L,?_,List.prefix_refl L,hS,λh=>absurd h h40⟩
      simp only[Ap,if_true,hle,Bool.false_eq_true,if_false]
  |succ c ih=>
    intro f i L hi hf hS hl
    obtain⟨f,rfl⟩: ∃q,f=q+1:=⟨f-1,by omega⟩
    by_cases h40:L.length<=40
    · have hdl:(dg B 3 i).length=3:=Du
      have hdv: ∀x∈dg B 3 i,x<L.length:=λx hx=>by have:=EF hB0 x hx;omega
      have e0:=CM (l:=cI (dg B 3 i)) (x:=(q:Int)) (by rw[CC,hdl];omega)
      have e5:=CB (k:=3) hB0 (by omega) (by omega) (i:=i) (by omega)
      rw[if_pos (by omega)]at e5
      have hmem:((q:Int)∈cI (dg B 3 i))↔q∈dg B 3 i:=by
        unfold cI;rw[List.mem_map]
        exact ⟨fun ⟨y, hy, e⟩ => by have : y = q := by omega
                                    subst this;exact hy,λh=>⟨q,h,rfl⟩⟩
      have w1:w64 ((q:Int)+1)=(B:Int):=by rw[Af (by omega),hB]
      have hle:decide ((L.length:Int)<=40)=true:=by simp;omega
      by_cases hq:q∈dg B 3 i
      · obtain⟨a,b,d,hd3⟩:=Ft hdl
        have ha:=hdv a (by rw[hd3];simp);have hb:=hdv b (by rw[hd3];simp);have hd:=hdv d (by rw[hd3];simp)
        have ca:=hS.cl.sub _ (AL (d:= []) ha);have cb:=hS.cl.sub _ (AL (d:= []) hb);have cd:=hS.cl.sub _ (AL (d:= []) hd)
        have e1:=C4 (ts:=L) (ns:=dg B 3 i) (by omega) hdv
        have e2:=Cc h (ca.ok h hg) (cb.ok h hg) (cd.ok h hg)
        have e1':(dg B 3 i).map (λx=>L.getD x [])= [L.getD a [],L.getD b [],L.getD d []]:=by rw[hd3];rfl
        rw[e1']at e1
        have eA:FF n k T ((dg B 3 i).map λx=>L.getD x [])=BU n k T (L.getD a []) (L.getD b []) (L.getD d []):=by rw[e1'];rfl
        obtain⟨c',e3,e4⟩:=DW h hS.cl hg (by omega) (Ds h (ca.ok h hg) (cb.ok h hg) (cd.ok h hg))
        have hpre:L<+:BL L (BU n k T (L.getD a []) (L.getD b []) (L.getD d [])):=addL_pre
        obtain⟨L',g1,g2,g3,g4⟩:=ih f (i+1) (BL L (BU n k T (L.getD a []) (L.getD b []) (L.getD d []))) (by omega) (by omega) ⟨DP hS.cl (ca.app cb cd),by have:=DQ (L:=L) (t:=BU n k T (L.getD a []) (L.getD b []) (L.getD d []));omega⟩ (by have:=hpre.length_le;omega)
        refine⟨L',?_,hpre.trans g2,g3,λhl' j h1 h2 hj=>?_⟩
        · simp only[Ap,if_true,hle,e0,hmem,hq,decide_true,Option.bind_some,e1,e2,e3,w1,e5]
          by_cases hm:BU n k T (L.getD a []) (L.getD b []) (L.getD d [])∈L
          · unfold BL at g1
            rw[if_pos hm]at g1
            rw[if_neg (by simpa using hm)]
            exact g1
          · unfold BL at g1
            rw[if_neg hm]at g1
            rw[if_pos (by simpa using hm),e4 hm]
            simp only[Option.bind_some]
            rw[if_pos (by simp;unfold lim;omega)]
            exact g1
        · rcases Nat.eq_or_lt_of_le h1 with h3|h3
          · subst h3;rw[eA];exact g2.subset Dh
          · have:=g4 hl' j h3 h2 hj
            have e:(dg B 3 j).map (λx=>(BL L (BU n k T (L.getD a []) (L.getD b []) (L.getD d []))).getD x [])=(dg B 3 j).map (λx=>L.getD x []):=List.map_congr_left λx hx=>BQ hpre (by have:=EF hB0 x hx;omega)
            rwa [e]at this
      · obtain⟨L',g1,g2,g3,g4⟩:=ih f (i+1) L (by omega) (by omega) hS hl
        refine⟨L',?_,g2,g3,λhl' j h1 h2 hj=>?_⟩
        · simp only[Ap,if_true,hle,e0,hmem,hq,decide_false,Option.bind_some,w1,e5,Bool.false_eq_true,if_false]
          exact g1
        · rcases Nat.eq_or_lt_of_le h1 with h3|h3
          · subst h3;exact absurd hj hq
          · exact g4 hl' j h3 h2 hj
    · have hle:decide ((L.length:Int)<=40)=false:=by simp;omega
      refine⟨L,?_,List.prefix_refl L,hS,λh=>absurd h h40⟩
      simp only[Ap,if_true,hle,Bool.false_eq_true,if_false]
theorem Hc (h:T3Ok n k T) (hg: ∀t∈gens,TpOk n k t) {q:Nat} (hq:q<40) {L:List (List Int)} (hS:SpOk n k T gens L) (hl:q<L.length) (hB:Dq n k T q L L):
  ∃L',Be Aa ((k:Int),(G,gb),((n:Int),[(3,T)]),Zn cmpL L,L,40,(q:Int),0)=some ((k:Int),(G,gb),((n:Int),[(3,T)]),Zn cmpL L',L',40,(q:Int))/\L<+:L'/\SpOk n k T gens L'/\
   (L'.length<=40->Dq n k T (q+1) L' L'):=by
 have hp:0<(q+1)^3:=Nat.pow_pos (by omega)
 have hp2:(q+1)^3<=262144:=FT (by omega) (by omega)
 obtain⟨L',e1,g2,g3,g4⟩:=Hd (G:=G) (gb:=gb) h hg (q:=q) (B:=q+1) rfl (by omega) ((q+1)^3-1) Aa 0 L (by omega) (by unfold Aa;omega) hS (by omega)
 refine⟨L',?_,g2,g3,λhl' x y z hx hy hz=>?_⟩
 ·obtain⟨f,hf⟩: ∃f,Aa=f+2:=⟨Aa-2,rfl⟩
  have i0:inb 0 [((3:Int),T)]:=by unfold inb;simp
  have g0:gd [((3:Int),T)] 0 (0,[])=(3,T):=rfl
  have w0:w64 (0+1)=1:=by decide
  have hlm:(0:Int)<=3/\(3:Int)<=3/\(3:Int)<=(lim:Int):=by unfold lim;omega
  have hl1:(([((3:Int),T)].length:Nat):Int)=1:=rfl
  rw[Fa]at e1
  have e1:Ap Aa ((k:Int),(G,gb),((n:Int),[(3,T)]),Zn cmpL L,L,40,(q:Int),0,List.replicate (Int.toNat 3) 0,decide ((3:Int)>0))=_:=e1
  rw[show Be Aa=Be (f+2) from by rw[hf]]
  simp only[Be,hl1,i0,g0,if_true]
  rw[if_pos (by decide),if_pos hlm,e1]
  simp only[Option.bind_some,w0,hl1]
  rw[if_neg (by decide)]
 ·rw[BQ g2 (by omega),BQ g2 (by omega),BQ g2 (by omega)]
  by_cases hin:x=q∨y=q∨z=q
  ·have hlt:=EZ (n:=q+1) hx hy hz
   have hpow:(q+1)^3=(q+1)*(q+1)*(q+1):=by rw[Nat.pow_succ,Nat.pow_succ,Nat.pow_one]
   have hd:=HZ (B:=q+1) (a:=x) hy hz
   rw[if_pos hx]at hd
   have:=g4 hl' ((x*(q+1)+y)*(q+1)+z) (Nat.zero_le _) (by rw[hpow];exact hlt) (by rw[hd];simp;omega)
   rw[hd]at this
   exact this
  ·exact g2.subset (hB x y z (by omega) (by omega) (by omega))
theorem Hb (h:T3Ok n k T) (hg: ∀t∈gens,TpOk n k t): ∀(c f q:Nat) (L:List (List Int)),c+1<f->41-q<=c->q<=L.length->SpOk n k T gens L->(L.length<=40->Dq n k T q L L)->
  ∃L',AO f ((k:Int),(G,gb),((n:Int),[(3,T)]),Zn cmpL L,L,40,(q:Int))=some ((G,gb),Zn cmpL L',40)/\L<+:L'/\SpOk n k T gens L'/\(L'.length<=40->Closd n k T L'):=by
 intro c
 induction c with
 |zero=>
  intro f q L hf hc hq hS hB
  have:=hS.le
  obtain⟨f,rfl⟩: ∃q,f=q+1:=⟨f-1,by omega⟩
  refine⟨L,?_,List.prefix_refl L,hS,λh=>by omega⟩
  simp only[AO]
  rw[if_neg (by simp;omega)]
 |succ c ih=>
  intro f q L hf hc hq hS hB
  have:=hS.le
  obtain⟨f,rfl⟩: ∃q,f=q+1:=⟨f-1,by omega⟩
  by_cases h1:q<L.length
  ·by_cases h2:L.length<=40
   ·obtain⟨L1,e1,p1,p2,p3⟩:=Hc (G:=G) (gb:=gb) h hg (q:=q) (by omega) hS h1 (hB h2)
    obtain⟨L',e2,g1,g2,g3⟩:=ih f (q+1) L1 (by omega) (by omega) (by have:=p1.length_le;omega) p2 p3
    refine⟨L',?_,p1.trans g1,g2,g3⟩
    simp only[AO,e1,Option.bind_some,Af (show q<4611686018427387904 by omega)]
    rw[if_pos (by simp;omega),if_pos (by simp;omega)]
    exact e2
   ·refine⟨L,?_,List.prefix_refl L,hS,λh=>absurd h h2⟩
    simp only[AO]
    rw[if_pos (by simp;omega),if_neg (by simp;omega)]
  ·have h3:q=L.length:=by omega
   subst h3
   refine⟨L,?_,List.prefix_refl L,hS,λh=>El (hB h)⟩
   simp only[AO]
   rw[if_neg (by simp)]
theorem Ha (h:T3Ok n k T) (hg: ∀t∈gens,TpOk n k t) (hl:gens.length<=100):AU Aa ((k:Int),(G,gb),((n:Int),[(3,T)]),[],[],40,gens,0)=some ((k:Int),(G,gb),((n:Int),[(3,T)]),Zn cmpL (BM gens),BM gens,40):=by
 have:=DC gens.length (λf (s:List (List Int)) i=>AU f ((k:Int),(G,gb),((n:Int),[(3,T)]),Zn cmpL s,s,40,gens,i)) (λq=>BM (gens.take q))
  (r:=some ((k:Int),(G,gb),((n:Int),[(3,T)]),Zn cmpL (BM gens),BM gens,40)) (λf i hi=>?_) (λf=>?_) (n:=Aa) (by unfold Aa;omega)
 ·have e0:Zn cmpL (BM (gens.take 0))= []:=by simp[Zn,BM]
  rw[e0]at this
  exact this
 ·obtain⟨c1,c2,_⟩:=DS (n:=n) (k:=k) (T:=T) (gens:=gens) (gens.take i) λt ht=>List.mem_of_mem_take ht
  have hgi:=hg _ (List.getElem_mem hi)
  have c2':(BM (gens.take i)).length<=1000:=by rw[List.length_take]at c2;omega
  obtain⟨c,e3,e4⟩:=DW h c1 hg c2' hgi
  simp only[AU,Aj,hi,AK hi,if_true,e3,Option.bind_some,Af (show i<4611686018427387904 by omega),Ek hi]
  rw[if_pos (by simp;omega)]
  by_cases hm:gens[i]∈BM (gens.take i)
  ·rw[if_neg (by simpa using hm)];unfold BL;rw[if_pos hm]
  ·rw[if_pos (by simpa using hm),e4 hm]
   simp only[Option.bind_some]
   rw[if_pos (by simp;unfold lim;omega)];unfold BL;rw[if_neg hm]
 ·simp only[AU,List.take_length]
  rw[if_neg (by simp)]
theorem HG (n k:Nat) (T:List Int) (hb:0<=gb/\gb<=(G.length:Int)) (hg: ∀t∈G,t.length<=100) (hl:G.length<=100):Bi Aa ((k:Int),(G,gb),((n:Int),[(3,T)]),[],[],40,[],0)=some ((k:Int),(G,gb),((n:Int),[(3,T)]),[],[],40,G.take gb.toNat):=by
 have:=DC gb.toNat (λf (s:List (List Int)) i=>Bi f ((k:Int),(G,gb),((n:Int),[(3,T)]),[],[],40,s,i)) (λq=>G.take q)
  (r:=some ((k:Int),(G,gb),((n:Int),[(3,T)]),[],[],40,G.take gb.toNat)) (λf i hi=>?_) (λf=>?_) (n:=Aa) (by unfold Aa;omega)
 ·exact this
 ·have hi':i<G.length:=by omega
  have hgi:=hg _ (List.getElem_mem hi')
  have e1:=BT (l:=G[i]) (by omega)
  simp only[Bi,AK hi',e1,Option.bind_some,Af (show i<4611686018427387904 by omega),List.take_succ_eq_append_getElem hi']
  rw[if_pos (by simp;omega),if_pos (by omega),if_pos (by simp;unfold lim;omega)]
 ·simp only[Bi]
  rw[if_neg (by simp;omega)]
theorem HH (n k:Nat) (T:List Int) (t8 t9 fst:List (List Int)):BB Aa ((k:Int),(G,gb),((n:Int),[(3,T)]),t8,t9,40,fst,0)=some ((k:Int),(G,gb),((n:Int),[(3,T)]),t8,t9,40,fst):=by
 obtain⟨f,hf⟩: ∃f,Aa=f+2:=⟨Aa-2,rfl⟩
 have i0:inb 0 [((3:Int),T)]:=by unfold inb;simp
 have g0:gd [((3:Int),T)] 0 (0,[])=(3,T):=rfl
 have w0:w64 (0+1)=1:=by decide
 rw[hf]
 simp only[BB,List.length_singleton,i0,g0,if_true,w0]
 simp
theorem Ei (h:T3Ok n k T) (hb:0<=gb/\gb<=(G.length:Int)) (hG: ∀t∈G,TpOk n k t) (hl:G.length<=40):
  ∃L,GenL n k T (G.take gb.toNat) L/\Bw ((n:Int),[(3,T)]) (k:Int) (G,gb)=some (G,Zn cmpL L,decide (L.length<=40)):=by
 have hk:=h.hk
 have hg: ∀t∈G.take gb.toNat,TpOk n k t:=λt ht=>hG t (List.mem_of_mem_take ht)
 have hl':(G.take gb.toNat).length<=40:=by rw[List.length_take];omega
 obtain⟨c1,c2,c3⟩:=DS (n:=n) (k:=k) (T:=T) (gens:=G.take gb.toNat) (G.take gb.toNat) λ_ h=>h
 have e1:=HG n k T hb (λt ht=>by have:=(hG t ht).1;omega) (by omega)
 have e2:=HH (G:=G) (gb:=gb) n k T [] [] (G.take gb.toNat)
 have e3:=Ha (G:=G) (gb:=gb) h hg (by omega)
 obtain⟨L,e4,p1,p2,p3⟩:=Hb (G:=G) (gb:=gb) h hg 50 Aa 0 (BM (G.take gb.toNat)) (by unfold Aa;omega) (by omega) (Nat.zero_le _) ⟨c1,by omega⟩ (λ_ x y z hx=>by omega)
 refine⟨L,⟨p2.cl,p2.le,λt ht=>p1.subset (c3 t ht),p3⟩,?_⟩
 unfold Bw
 have e4:AO Aa ((k:Int),(G,gb),((n:Int),[(3,T)]),Zn cmpL (BM (G.take gb.toNat)),BM (G.take gb.toNat),40,0)=_:=e4
 dsimp only
 rw[ER]
 simp only[Option.bind_some,e1,e2,e3,e4,(Bc L).length_eq]
 congr 3
 simp;omega
end
end T
open Go Go.Va
namespace T
section
variable {p:Int} {V W N k:Nat} {ts:List (List Int)} {f:Nat->Int} {A:List (List Int)}
def TpI (p:Int) (V:Nat) (x:List Int):Prop:=x.length=V/\ ∀y∈x,0<=y/\y<p
theorem TpI.get {x:List Int} (h:TpI p V x) {i:Nat} (hi:i<V):0<=x.getD i 0/\x.getD i 0<p:=by
 have h1:i<x.length:=by have:=h.1;omega
 rw[AC h1];exact h.2 _ (List.getElem_mem h1)
end
end T
open Go Go.Va
namespace T
section
variable {p:Int} {n V W N k:Nat} {ts:List (List Int)} {f:Nat->Int} {A:List (List Int)}
def Dr (n:Nat):List Int:=(List.range (n*n*n)).map (Ct n)
theorem Ea:(Dr n).length=n*n*n:=by simp[Dr]
theorem FJ (hn:1<=n): ∀x∈Dr n,0<=x/\x<(n:Int):=λx hx=>by
 unfold Dr at hx
 obtain⟨i,_,rfl⟩:=List.mem_map.1 hx
 unfold Ct
 generalize (i/(n*n)+n-(i/n)%n+i%n)=q
 have:=Nat.mod_lt q (show 0<n by omega)
 omega
theorem Gh {a b c:Nat} (ha:a<n) (hb:b<n) (hc:c<n):(Dr n).getD ((a*n+b)*n+c) 0=((a:Int)-b+c)%n:=by
 have hlt:=EZ ha hb hc
 have hn:0<n:=by omega
 unfold Dr
 rw[AC (by simpa using hlt)]
 simp only[List.getElem_map,List.getElem_range]
 unfold Ct
 have e1:((a*n+b)*n+c)/n=a*n+b:=by rw[Nat.mul_comm,Nat.mul_add_div hn,Nat.div_eq_of_lt hc];omega
 have e2:(a*n+b)/n=a:=by rw[Nat.mul_comm,Nat.mul_add_div hn,Nat.div_eq_of_lt hb];omega
 have e3:((a*n+b)*n+c)%n=c:=by rw[Nat.mul_comm,Nat.mul_add_mod,Nat.mod_eq_of_lt hc]
 have e4:(a*n+b)%n=b:=by rw[Nat.mul_comm,Nat.mul_add_mod,Nat.mod_eq_of_lt hb]
 have e5:((a*n+b)*n+c)/(n*n)=a:=by rw[←Nat.div_div_eq_div_mul,e1,e2]
 rw[e1,e3,e4,e5]
 have e6:(((a+n-b+c)%n:Nat):Int)=((a:Int)-b+c+n)%n:=by
  rw[Int.natCast_emod];congr 1;omega
 rw[e6]
 have:=Int.add_mul_emod_self_left ((a:Int)-b+c) n 1
 simpa using this
theorem Gk {x y z:List Int} (hx:TpOk n k x) (hy:TpOk n k y) (hz:TpOk n k z) {j:Nat} (hj:j<k):(BU n k (Dr n) x y z).getD j 0=(x.getD j 0-y.getD j 0+z.getD j 0)%n:=by
 obtain⟨x1,x2,_⟩:=hx.get hj
 obtain⟨y1,y2,_⟩:=hy.get hj
 obtain⟨z1,z2,_⟩:=hz.get hj
 unfold BU
 rw[AC (by simpa using hj)]
 simp only[List.getElem_map,List.getElem_range]
 rw[Gh x1 y1 z1,←x2,←y2,←z2]
theorem E8 (hn:1<=n/\n<=8) (hk:1<=k/\k<=4):T3Ok n k (Dr n):=⟨hn,hk,Ea,FJ hn.1⟩
theorem Gi (hn:1<=n):opB (n:Int) (3,Dr n)=true:=by
 unfold opB
 simp only[Bool.and_eq_true,decide_eq_true_eq]
 refine⟨⟨by omega,?_⟩,?_⟩
 ·rw[Ea,show Int.toNat 3=2+1 from rfl,Int.pow_succ,show(2:Nat)=1+1 from rfl,Int.pow_succ,show(1:Nat)=0+1 from rfl,Int.pow_succ,Int.pow_zero,Int.one_mul]
  push_cast;rfl
 ·unfold AS;rw[List.all_eq_true];intro x hx;simpa using FJ hn x hx
theorem E7 (hn:1<=n/\n<=8):De (n:Int)=some ((3,Dr n),true)/\D1 (n:Int)=some ((3,Dr n),true):=by
 unfold De D1
 have hb:Cd (n:Int)=true:=by unfold Cd;simp;omega
 rw[DG,CA,hb]
 exact⟨by simp[Ez hn,Dr],by simp[CH hn,Dr]⟩
end
end T
open Go Go.Va
namespace T
def Ep (c:Dd) (n k:Int) (out:List (List Int)):Option (Dd×Int×Int×(List (List Int))):=
 (Ad (c.1,(c.2.1,c.2.2)) 40).bind λr9=>
 if r9.2==0 then
 (Ab (r9.1.1,(r9.1.2.1,r9.1.2.2)) [0,9,4,6]).bind λr10=>
 some ((r10.1.1,(r10.1.2.1,r10.1.2.2)),r10.2,k,out)
 else
 if r9.2==1 then
 (Ab (r9.1.1,(r9.1.2.1,r9.1.2.2)) [0,5,w64 (k+1)]).bind λr11=>
 some ((r11.1.1,(r11.1.2.1,r11.1.2.2)),n,r11.2,out)
 else
 if r9.2==2 then
 if 0<=k/\k<=k/\k<=lim then
 if out.length+ [List.replicate (Int.toNat k) (0:Int)].length<=lim then
 some ((r9.1.1,(r9.1.2.1,r9.1.2.2)),n,k,out++ [List.replicate (Int.toNat k) (0:Int)])
 else none
 else none
 else
 if r9.2==3 then
 some ((r9.1.1,(r9.1.2.1,r9.1.2.2)),n,k,[])
 else
 some ((r9.1.1,(r9.1.2.1,r9.1.2.2)),n,k,out)
structure SmallS (n k:Int) (o:List (List Int)):Prop where
 hn:0<=n/\n<=9
 hk:0<=k/\k<=5
 l:o.length<=60
 r: ∀t∈o,t.length<=5
theorem Gd {j:Nat} {c:Dd} (hc:Cur j c) (hj:j<=1000000) {n k:Int} (hn:0<=n/\n<=9) (hk:0<=k/\k<=4) {out:List (List Int)} (hl:out.length<=50) (hr: ∀t∈out,t.length<=5):
  ∃c' n' k' o',Ep c n k out=some (c',n',k',o')/\Cur (j+4) c'/\SmallS n' k' o':=by
 obtain⟨c1,x1,e1,g1,_⟩:=C9 hc (by omega) 40 (by omega)
 have e1:Ad (c.1,(c.2.1,c.2.2)) 40=_:=e1
 unfold Ep
 simp only[e1,Option.bind_some]
 by_cases h0:x1=0
 ·obtain⟨c2,x2,e2,g2,m2⟩:=Di g1 (by omega) (l:= [0,9,4,6]) (by simp) (by simp)
  have e2:Ab (c1.1,(c1.2.1,c1.2.2)) [0,9,4,6]=_:=e2
  rw[if_pos (by simpa using h0),e2]
  exact⟨c2,x2,k,out,rfl,g2.mono (by omega),⟨by simp at m2;omega,by omega,by omega,hr⟩⟩
 ·rw[if_neg (by simpa using h0)]
  by_cases h1:x1=1
  ·have ew:w64 (k+1)=k+1:=AN (by omega) (by omega)
   obtain⟨c2,x2,e2,g2,m2⟩:=Di g1 (by omega) (l:= [0,5,k+1]) (by simp) (by simp)
   have e2:Ab (c1.1,(c1.2.1,c1.2.2)) [0,5,k+1]=_:=e2
   rw[if_pos (by simpa using h1),ew,e2]
   exact⟨c2,n,x2,out,rfl,g2.mono (by omega),⟨hn,by simp at m2;omega,by omega,hr⟩⟩
  ·rw[if_neg (by simpa using h1)]
   by_cases h2:x1=2
   ·rw[if_pos (by simpa using h2),if_pos (by unfold lim;omega),if_pos (by simp;unfold lim;omega)]
    refine⟨c1,n,k,_,rfl,g1.mono (by omega),⟨hn,by omega,by simp;omega,λt ht=>?_⟩⟩
    rcases List.mem_append.1 ht with ht|ht
    ·exact hr t ht
    ·rw[List.mem_singleton.1 ht];simp;omega
   ·rw[if_neg (by simpa using h2)]
    by_cases h3:x1=3
    ·rw[if_pos (by simpa using h3)]
     exact⟨c1,n,k,_,rfl,g1.mono (by omega),⟨hn,by omega,by simp,by simp⟩⟩
    ·rw[if_neg (by simpa using h3)]
     exact⟨c1,n,k,_,rfl,g1.mono (by omega),⟨hn,by omega,by omega,hr⟩⟩
theorem Ho {N:Nat} (hN:1<=N/\N<=9) {K:Nat} (hK:K<=4) (t9:List (List Int)) (t10:Int): ∀(d f j x:Nat) (c:Dd) (o:List Int),x+d=K->d<f->Cur j c->j+2*d<=1000000->o.length=x->(∀y∈o,0<=y/\y<(N:Int))->
  ∃c' o',AY f (c,(N:Int),(K:Int),t9,t10,o,(x:Int))=some (c',(N:Int),(K:Int),t9,t10,o')/\Cur (j+2*d) c'/\TpOk N K o':=by
 intro d
 induction d with
 |zero=>
  intro f j x c o hx hf hc hk ho hv
  obtain⟨f,rfl⟩: ∃z,f=z+1:=⟨f-1,by omega⟩
  refine⟨c,o,?_,hc,⟨by omega,hv⟩⟩
  simp only[AY]
  rw[if_neg (by simp;omega)]
 |succ d ih=>
  intro f j x c o hx hf hc hk ho hv
  obtain⟨f,rfl⟩: ∃z,f=z+1:=⟨f-1,by omega⟩
  obtain⟨c1,x1,e1,g1,v1,v2,_⟩:=C9 hc (by omega) (N:Int) (by omega)
  have e1:Ad (c.1,(c.2.1,c.2.2)) (N:Int)=_:=e1
  obtain⟨c',o',e2,g2,l2⟩:=ih f (j+2) (x+1) c1 (o++ [x1]) (by omega) (by omega) g1 (by omega) (by simp;omega) (λy hy=>(List.mem_append.1 hy).elim (hv y) λh=>by rw[List.mem_singleton.1 h];exact⟨v1,v2 (by omega)⟩)
  refine⟨c',o',?_,g2.mono (by omega),l2⟩
  simp only[AY,e1,Option.bind_some,Af (show x<4611686018427387904 by omega)]
  rw[if_pos (by simp;omega),if_pos (by simp;unfold lim;omega)]
  exact e2
theorem HM {N:Nat} (hN:1<=N/\N<=9) {K:Nat} (hK:K<=4): ∀(d f j:Nat) (c:Dd) (o:List (List Int)),d<f->Cur j c->j+10*d<=500000->o.length+d<=1000->B7 o=true->(∀u∈o,TpOk N K u)->
  ∃c' o',AA f (c,(N:Int),(K:Int),o,(d:Int))=some (c',(N:Int),(K:Int),o')/\Cur (j+10*d) c'/\o'.length<=o.length+d/\(0<o.length+d->0<o'.length)/\ ∀u∈o',TpOk N K u:=by
 intro d
 induction d with
 |zero=>
  intro f j c o hf hc hk ho hi hl
  obtain⟨f,rfl⟩: ∃z,f=z+1:=⟨f-1,by omega⟩
  refine⟨c,o,?_,hc,by omega,λh=>h,hl⟩
  simp only[AA]
  rw[if_neg (by simp)]
 |succ d ih=>
  intro f j c o hf hc hk ho hi hl
  obtain⟨f,rfl⟩: ∃z,f=z+1:=⟨f-1,by omega⟩
  obtain⟨c1,t,e1,g1,l1⟩:=Ho hN hK o ((d+1:Nat):Int) K Aa j 0 c [] (by omega) (by unfold Aa;omega) hc (by omega) rfl (by simp)
  have e1:AY Aa ((c.1,(c.2.1,c.2.2)),(N:Int),(K:Int),o,((d+1:Nat):Int),[],0)=_:=e1
  obtain⟨o1,p1,p2,p3,p4⟩:=CO (list:=o) (t:=t) (k:=K) (by omega) (by omega) (λu hu=>(hl u hu).1) l1.1 hi
  have z1:=Fg p2 hi p3 p4
  have z2:0<o1.length:=List.length_pos_of_mem ((p3 t).2 (.inl rfl))
  obtain⟨c',o',e2,g2,l2,l3,l4⟩:=ih f (j+2*K) c1 o1 (by omega) g1 (by omega) (by omega) p2 (λu hu=>((p3 u).1 hu).elim (λh=>by rw[h];exact l1) (hl u))
  refine⟨c',o',?_,g2.mono (by omega),by omega,λ_=>l3 (by omega),l4⟩
  have ew:w64 (((d+1:Nat):Int)-1)=(d:Int):=by rw[AN (by omega) (by omega)];omega
  simp only[AA,e1,Hw,p1,Option.bind_some,ew]
  rw[if_pos (by simp)]
  exact e2
def FH (c1:Dd) (n k:Int):Option (Dd×Int×Int×(List (List Int))):=
 (Ad (c1.1,(c1.2.1,c1.2.2)) 5).bind λr18=>
 (AA Aa ((r18.1.1,(r18.1.2.1,r18.1.2.2)),n,k,[],w64 (1+r18.2))).bind λs19=>
 (Ag (s19.1.1,(s19.1.2.1,s19.1.2.2)) 2).bind λr20=>
 if r20.2 then
 (A9 s19.2.1).bind λr21=>
 (Ca 3 (s19.2.2.2.length:Int)).bind λr22=>
 if 0<=r22/\r22<=(s19.2.2.2.length:Int)/\0<(s19.2.2.2.length:Int)then
 (Bw (s19.2.1,[(r21.1,r21.2)]) s19.2.2.1 (s19.2.2.2,r22)).bind λr23=>
 if decide (r23.1.length=s19.2.2.2.length)then
 if r23.2.2 then Ep r20.1 s19.2.1 s19.2.2.1 r23.2.1
 else Ep r20.1 s19.2.1 s19.2.2.1 (r23.1.take (Int.toNat (s19.2.2.2.length:Int)))
 else none
 else none
 else Ep r20.1 s19.2.1 s19.2.2.1 s19.2.2.2
theorem Gc {j:Nat} {c:Dd} (hc:Cur j c) (hj:j<=100000) {N K:Nat} (hN:1<=N/\N<=8) (hK:1<=K/\K<=4):
  ∃c' n' k' o',FH c (N:Int) (K:Int)=some (c',n',k',o')/\Cur (j+100) c'/\SmallS n' k' o':=by
 obtain⟨c1,x1,e1,g1,v1,v2,_⟩:=C9 hc (by omega) 5 (by omega)
 have v2:=v2 (by omega)
 have e1:Ad (c.1,(c.2.1,c.2.2)) 5=_:=e1
 obtain⟨m,hm⟩: ∃m:Nat,w64 (1+x1)=(m:Int)/\1<=m/\m<=5:=⟨(1+x1).toNat,by rw[AN (by omega) (by omega)];omega,by omega,by omega⟩
 obtain⟨hm,hm1,hm5⟩:=hm
 obtain⟨c2,o,e2,g2,l2,l3,l4⟩:=HM (N:=N) (by omega) hK.2 m Aa (j+2) c1 [] (by unfold Aa;omega) g1 (by omega) (by simp;omega) rfl (by simp)
 have e2:AA Aa ((c1.1,(c1.2.1,c1.2.2)),(N:Int),(K:Int),[],(m:Int))=_:=e2
 have l3:=l3 (by simp;omega)
 simp only[List.length_nil,Nat.zero_add]at l2
 obtain⟨c3,x3,e3,g3⟩:=D5 g2 (by omega) 2 (by omega)
 have e3:Ag (c2.1,(c2.2.1,c2.2.2)) 2=_:=e3
 have hlen: ∀t∈o,t.length<=5:=λt ht=>by have:=(l4 t ht).1;omega
 have hcl: ∀out:List (List Int),out.length<=50->(∀t∈out,t.length<=5)-> ∃c' n' k' o',Ep c3 (N:Int) (K:Int) out=some (c',n',k',o')/\Cur (j+100) c'/\SmallS n' k' o':=λout h1 h2=>by
  obtain⟨c',n',k',o',q1,q2,q3⟩:=Gd g3 (by omega) (n:=(N:Int)) (k:=(K:Int)) (by omega) (by omega) h1 h2
  exact⟨c',n',k',o',q1,q2.mono (by omega),q3⟩
 unfold FH
 simp only[e1,Option.bind_some,hm,e2,e3]
 cases x3 with
 |false=>rw[if_neg (by simp)];exact hcl o (by omega) hlen
 |true=>
  rw[if_pos rfl,CH hN]
  obtain⟨q,hq⟩: ∃q:Nat,Ca 3 (o.length:Int)=some (q:Int)/\q<=o.length:=by
   unfold Ca
   by_cases h:(3:Int)<(o.length:Int)
   ·exact⟨3,by rw[if_pos (by simpa using h)];rfl,by omega⟩
   ·exact⟨o.length,by rw[if_neg (by simpa using h)],by omega⟩
  obtain⟨L,hG,e5⟩:=Ei (E8 (n:=N) (k:=K) hN hK) (G:=o) (gb:=(q:Int)) (by omega) l4 (by omega)
  have e5:Bw ((N:Int),[(3,(List.range (N*N*N)).map (Ct N))]) (K:Int) (o,(q:Int))=_:=e5
  simp only[Option.bind_some,hq.1]
  rw[if_pos (by omega),e5]
  simp only[Option.bind_some,decide_true,if_true]
  have hp:=Bc L
  by_cases h40:L.length<=40
  ·rw[if_pos (by simpa using h40)]
   refine hcl _ (by rw[hp.length_eq];omega) λt ht=>?_
   have:=((hG.cl.sub t (hp.mem_iff.1 ht)).ok (E8 hN hK) λu hu=>l4 u (List.mem_of_mem_take hu)).1
   omega
  ·rw[if_neg (by simpa using h40)]
   exact hcl _ (by rw[List.length_take];omega) λt ht=>hlen t (List.mem_of_mem_take ht)
theorem Fz {c:Dd} (hc:Cur 0 c) (b:Bool): ∃c' n k o,B8 c b=some (c',n,k,o)/\Cur 200 c'/\SmallS n k o:=by
 obtain⟨c1,n,e1,g1,m1⟩:=Di hc (by omega) (l:= [2,3,3,2,5,4]) (by simp) (by simp)
 obtain⟨c2,k,e2,g2,m2⟩:=Di g1 (by omega) (l:= [1,2,2,3,3,4]) (by simp) (by simp)
 have e1:Ab (c.1,(c.2.1,c.2.2)) [2,3,3,2,5,4]=_:=e1
 have e2:Ab (c1.1,(c1.2.1,c1.2.2)) [1,2,2,3,3,4]=_:=e2
 have h1:2<=n/\n<=5:=by simp at m1;omega
 have h2:1<=k/\k<=4:=by simp at m2;omega
 obtain⟨N,rfl⟩: ∃N:Nat,n=(N:Int):=⟨n.toNat,by omega⟩
 obtain⟨K,rfl⟩: ∃K:Nat,k=(K:Int):=⟨k.toNat,by omega⟩
 have hR: ∀M:Nat,1<=M/\M<=8-> ∃c' n k o,FH c2 (M:Int) (K:Int)=some (c',n,k,o)/\Cur 200 c'/\SmallS n k o:=λM hM=>by
  obtain⟨c',n',k',o',q1,q2,q3⟩:=Gc g2 (by omega) hM (K:=K) (by omega)
  exact⟨c',n',k',o',q1,q2.mono (by omega),q3⟩
 unfold B8
 simp only[e1,e2,Option.bind_some]
 cases b with
 |false=>rw[if_neg (by simp)];exact hR N (by omega)
 |true=>
  rw[if_pos rfl]
  by_cases h4:(N:Int)=4
  ·rw[if_pos (by simpa using h4)];exact hR 7 (by omega)
  ·rw[if_neg (by simpa using h4)];exact hR N (by omega)
end T
open Go Go.Va
namespace T
theorem HY {code:List Int} (h1:code.length<=65536) (h2: ∀x∈code,0<=x/\x<256):Cur 0 (code,(0,0)):=⟨h1,h2,by simp,by simp⟩
end T
set_option linter.unusedVariables false
open Go Go.Va
namespace T
def Dn (code:List Int):Option (Int×Int×(List (List Int))):=
 (B8 (code,(0,0)) false).bind λr1=>
 some (r1.2.1,r1.2.2.1,r1.2.2.2)
def BZ (code:List Int):Option (Int×Int×(List (List Int))):=
 (Dn code).bind λr1=>
 some (r1.1,r1.2.1,r1.2.2)
def Do:Nat->(ByteArray×(Int×(List Int))×(Int×(List Int))×Int)->Option ((Int×(List Int))×(Int×(List Int)))
 |0,_=>none
 |n+1,(s,t2,op,i)=>
 if decide (i<(s.size:Int))then
 if 0<=i/\i<(s.size:Int)then
 if op.2.length+ [w64 (IntKind.wrap .u8 ((YdK s i)-48))].length<=lim then
 Do n (s,(t2.1,t2.2),(op.1,op.2++ [w64 (IntKind.wrap .u8 ((YdK s i)-48))]),w64 (i+1))
 else none
 else none
 else
 some ((t2.1,t2.2),(op.1,op.2))
def Ax (s:ByteArray):Option ((Int×(List Int))):=
 (Do Aa (s,(0,[]),(2,[]),0)).bind λs1=>
 some (s1.2.1,s1.2.2)
def Cy (t0:Int):Option ((Int×(List (Int×(List Int))))):=
 if t0==0 then
 (Ax (ByteArray.mk (List.toArray [48,48,48,49]))).bind λr1=>
 some (2,[(r1.1,r1.2)])
 else
 if t0==1 then
 (Ax (ByteArray.mk (List.toArray [48,48,48,49]))).bind λr2=>
 (Ax (ByteArray.mk (List.toArray [48,49,49,49]))).bind λr3=>
 some (2,[(r2.1,r2.2),(r3.1,r3.2)])
 else
 if t0==2 then
 (Ax (ByteArray.mk (List.toArray [48,48,48,49]))).bind λr4=>
 (Ax (ByteArray.mk (List.toArray [48,49,49,49]))).bind λr5=>
 some (2,[(r4.1,r4.2),(r5.1,r5.2),(1,[1,0])])
 else
 if t0==3 then
 (A9 2).bind λr6=>
 some (2,[(r6.1,r6.2)])
 else
 if t0==4 then
 (Ax (ByteArray.mk (List.toArray [48,49,50,49,50,48,50,48,49]))).bind λr7=>
 some (3,[(r7.1,r7.2)])
 else
 if t0==5 then
 (Ax (ByteArray.mk (List.toArray [48,49,48,49,49,50,48,50,50]))).bind λr8=>
 some (3,[(r8.1,r8.2)])
 else
 if t0==6 then
 (Ax (ByteArray.mk (List.toArray [48,49,50,51,49,48,51,50,50,51,48,49,51,50,49,48]))).bind λr9=>
 some (4,[(r9.1,r9.2)])
 else
 if t0==7 then
 (Ax (ByteArray.mk (List.toArray [48,48,48,48,49,49,48,49,50]))).bind λr10=>
 (Ax (ByteArray.mk (List.toArray [48,49,50,49,49,50,50,50,50]))).bind λr11=>
 some (3,[(r10.1,r10.2),(r11.1,r11.2)])
 else
 if t0==8 then
 some (4,[(1,[1,2,3,0])])
 else
 if t0==9 then
 some (2,[(3,[0,0,0,1,0,1,1,1])])
 else
 if t0==10 then
 (Ax (ByteArray.mk (List.toArray [48,48,48,49,49,49,50,50,50]))).bind λr12=>
 some (3,[(r12.1,r12.2)])
 else
 if t0==11 then
 (Ax (ByteArray.mk (List.toArray [48,48,48,48,48,48,49,48,48,49,48,48,50,48,50,48,48,48,51,51,48,49,50,51,52]))).bind λr13=>
 (Ax (ByteArray.mk (List.toArray [48,49,50,51,52,49,49,52,52,52,50,52,50,52,52,51,52,52,51,52,52,52,52,52,52]))).bind λr14=>
 some (5,[(r13.1,r13.2),(r14.1,r14.2)])
 else
 if t0==12 then
 (Ax (ByteArray.mk (List.toArray [48,49,50,51,49,50,51,48,50,51,48,49,51,48,49,50]))).bind λr15=>
 some (4,[(r15.1,r15.2)])
 else
 if t0==13 then
 some (3,[(1,[0,0,1]),(0,[2])])
 else
 if t0==14 then
 (Ax (ByteArray.mk (List.toArray [48]))).bind λr16=>
 some (1,[(r16.1,r16.2)])
 else
 if t0==15 then
 (A9 3).bind λr17=>
 some (3,[(r17.1,r17.2)])
 else
 some (2,[])
def DL (op:Int×(List Int)):Option ((Int×(List Int))):=
 (B0 op.2).bind λr1=>
 some (op.1,r1)
def AT:Nat->(((List Int)×Int×Int)×Int×Int×(Int×(List Int))×(Int×(List Int))×Int)->Option ((((List Int)×Int×Int)×Int×Int×(Int×(List Int))×(Int×(List Int)))⊕(((List Int)×Int×Int)×(Int×(List Int))))
 |0,_=>none
 |n+1,(t0,t1,t2,t6,t7,t8)=>
 if decide (t8<8)then
 (Ag (t0.1,(t0.2.1,t0.2.2)) 2).bind λr3=>
 if r3.2 then
 (Ad (r3.1.1,(r3.1.2.1,r3.1.2.2)) 17).bind λr4=>
 (Cy r4.2).bind λr5=>
 if r5.1==t1 then
 if decide ((r5.2.length:Int)>0)then
 (Ad (r4.1.1,(r4.1.2.1,r4.1.2.2)) (r5.2.length:Int)).bind λr6=>
 if inb r6.2 r5.2 then
 (DL ((gd r5.2 r6.2 (0,[])).1,(gd r5.2 r6.2 (0,[])).2)).bind λr7=>
 some (.inr ((r6.1.1,(r6.1.2.1,r6.1.2.2)),(r7.1,r7.2)))
 else none
 else
 AT n ((r4.1.1,(r4.1.2.1,r4.1.2.2)),t1,t2,(t6.1,t6.2),(t7.1,t7.2),w64 (t8+1))
 else
 AT n ((r4.1.1,(r4.1.2.1,r4.1.2.2)),t1,t2,(t6.1,t6.2),(t7.1,t7.2),w64 (t8+1))
 else
 some (.inl ((r3.1.1,(r3.1.2.1,r3.1.2.2)),t1,t2,(t6.1,t6.2),(t7.1,t7.2)))
 else
 some (.inl ((t0.1,(t0.2.1,t0.2.2)),t1,t2,(t6.1,t6.2),(t7.1,t7.2)))
def AJ:Nat->(((List Int)×Int×Int)×Int×Int×(Int×(List Int))×(Int×(List Int))×Int)->Option (((List Int)×Int×Int)×Int×(Int×(List Int))×(Int×(List Int)))
 |0,_=>none
 |n+1,(t0,t1,t2,t6,t7,t10)=>
 (Co t1 t2).bind λr11=>
 if decide (t10<r11)then
 (Cr t1 t2 t10).bind λr12=>
 if decide ((r12.length:Int)>0)then
 (Ag (t0.1,(t0.2.1,t0.2.2)) 3).bind λr13=>
 if !r13.2 then
 (Ab (r13.1.1,(r13.1.2.1,r13.1.2.2)) r12).bind λr14=>
 if t7.2.length+ [r14.2].length<=lim then
 AJ n ((r14.1.1,(r14.1.2.1,r14.1.2.2)),t1,t2,(t6.1,t6.2),(t7.1,t7.2++ [r14.2]),w64 (t10+1))
 else none
 else
 (Ad (r13.1.1,(r13.1.2.1,r13.1.2.2)) t1).bind λr15=>
 if t7.2.length+ [r15.2].length<=lim then
 AJ n ((r15.1.1,(r15.1.2.1,r15.1.2.2)),t1,t2,(t6.1,t6.2),(t7.1,t7.2++ [r15.2]),w64 (t10+1))
 else none
 else
 (Ad (t0.1,(t0.2.1,t0.2.2)) t1).bind λr16=>
 if t7.2.length+ [r16.2].length<=lim then
 AJ n ((r16.1.1,(r16.1.2.1,r16.1.2.2)),t1,t2,(t6.1,t6.2),(t7.1,t7.2++ [r16.2]),w64 (t10+1))
 else none
 else
 some ((t0.1,(t0.2.1,t0.2.2)),t1,(t6.1,t6.2),(t7.1,t7.2))
def Cj (t0:(List Int)×Int×Int) (t1:Int) (t2:Int):Option (((List Int)×Int×Int)×(Int×(List Int))):=
 (Cs t1).bind λr1=>
  if !r1 then
   some ((t0.1,(t0.2.1,t0.2.2)),(t2,[]))
  else
   (Cq t2 0 3).bind λr2=>
    if !r2 then
     some ((t0.1,(t0.2.1,t0.2.2)),(t2,[]))
    else
     (AT Aa ((t0.1,(t0.2.1,t0.2.2)),t1,t2,(0,[]),(t2,[]),0)).bind λs3=>
      match s3 with
      | .inl s4=>
       (AJ Aa ((s4.1.1,(s4.1.2.1,s4.1.2.2)),s4.2.1,s4.2.2.1,(s4.2.2.2.1.1,s4.2.2.2.1.2),(s4.2.2.2.2.1,s4.2.2.2.2.2),0)).bind λs6=>
        (Ag (s6.1.1,(s6.1.2.1,s6.1.2.2)) 32).bind λr7=>
         if r7.2 then
          (Ab (r7.1.1,(r7.1.2.1,r7.1.2.2)) [(-1),s6.2.1]).bind λr8=>
           if inb 0 s6.2.2.2.2 then
            some ((r8.1.1,(r8.1.2.1,r8.1.2.2)),(s6.2.2.2.1,stt s6.2.2.2.2 0 r8.2))
           else none
         else
          some ((r7.1.1,(r7.1.2.1,r7.1.2.2)),(s6.2.2.2.1,s6.2.2.2.2))
      | .inr s5=>
       some ((s5.1.1,(s5.1.2.1,s5.1.2.2)),(s5.2.1,s5.2.2))
def BD:Nat->(Int×Bool×(Int×(List Int))×(Int×(List Int))×Int)->Option ((Int×(List Int))×(Int×(List Int)))
 |0,_=>none
 |n+1,(n_,dual,t4,op,at_)=>
 if decide (at_<(w64 ((w64 (n_*n_))*n_)))then
 (Cr n_ 3 at_).bind λr1=>
 if inb 0 r1 then
 if inb 1 r1 then
 if((gd r1 0 0)==(gd r1 1 0))==dual then
 if inb 0 r1 then
 if op.2.length+ [gd r1 0 0].length<=lim then
 BD n (n_,dual,(t4.1,t4.2),(op.1,op.2++ [gd r1 0 0]),w64 (at_+1))
 else none
 else none
 else
 if inb 2 r1 then
 if op.2.length+ [gd r1 2 0].length<=lim then
 BD n (n_,dual,(t4.1,t4.2),(op.1,op.2++ [gd r1 2 0]),w64 (at_+1))
 else none
 else none
 else none
 else none
 else
 some ((t4.1,t4.2),(op.1,op.2))
def D7 (n_:Int) (dual:Bool):Option ((Int×(List Int))):=
 (BD Aa (n_,dual,(0,[]),(3,[]),0)).bind λs1=>
 some (s1.2.1,s1.2.2)
def Az (code:List Int):Option (Int×(Int×(List Int))×Int×(List (List Int))):=
 (B8 (code,(0,0)) false).bind λr1=>
 (Cj (r1.1.1,(r1.1.2.1,r1.1.2.2)) r1.2.1 3).bind λr2=>
 (Cs r1.2.1).bind λr3=>
 if r3 then
 (Ag (r2.1.1,(r2.1.2.1,r2.1.2.2)) 3).bind λr4=>
 if !r4.2 then
 (A9 r1.2.1).bind λr5=>
 (Ag (r4.1.1,(r4.1.2.1,r4.1.2.2)) 3).bind λr6=>
 if r6.2 then
 (D7 r1.2.1 false).bind λr7=>
 (Bl r1.2.1 r1.2.2.1 r1.2.2.2).bind λr8=>
 if r8 then
 (Ag (r6.1.1,(r6.1.2.1,r6.1.2.2)) 2).bind λr9=>
 if r9.2 then
 (A8 r1.2.1 r1.2.2.1 r1.2.2.2).bind λr10=>
 some (r1.2.1,(r7.1,r7.2),r1.2.2.1,r10.2)
 else
 some (r1.2.1,(r7.1,r7.2),r1.2.2.1,r1.2.2.2)
 else
 some (r1.2.1,(r7.1,r7.2),r1.2.2.1,r1.2.2.2)
 else
 (Bl r1.2.1 r1.2.2.1 r1.2.2.2).bind λr11=>
 if r11 then
 (Ag (r6.1.1,(r6.1.2.1,r6.1.2.2)) 2).bind λr12=>
 if r12.2 then
 (A8 r1.2.1 r1.2.2.1 r1.2.2.2).bind λr13=>
 some (r1.2.1,(r5.1,r5.2),r1.2.2.1,r13.2)
 else
 some (r1.2.1,(r5.1,r5.2),r1.2.2.1,r1.2.2.2)
 else
 some (r1.2.1,(r5.1,r5.2),r1.2.2.1,r1.2.2.2)
 else
 (Bl r1.2.1 r1.2.2.1 r1.2.2.2).bind λr14=>
 if r14 then
 (Ag (r4.1.1,(r4.1.2.1,r4.1.2.2)) 2).bind λr15=>
 if r15.2 then
 (A8 r1.2.1 r1.2.2.1 r1.2.2.2).bind λr16=>
 some (r1.2.1,(r2.2.1,r2.2.2),r1.2.2.1,r16.2)
 else
 some (r1.2.1,(r2.2.1,r2.2.2),r1.2.2.1,r1.2.2.2)
 else
 some (r1.2.1,(r2.2.1,r2.2.2),r1.2.2.1,r1.2.2.2)
 else
 (Bl r1.2.1 r1.2.2.1 r1.2.2.2).bind λr17=>
 if r17 then
 (Ag (r2.1.1,(r2.1.2.1,r2.1.2.2)) 2).bind λr18=>
 if r18.2 then
 (A8 r1.2.1 r1.2.2.1 r1.2.2.2).bind λr19=>
 some (r1.2.1,(r2.2.1,r2.2.2),r1.2.2.1,r19.2)
 else
 some (r1.2.1,(r2.2.1,r2.2.2),r1.2.2.1,r1.2.2.2)
 else
 some (r1.2.1,(r2.2.1,r2.2.2),r1.2.2.1,r1.2.2.2)
def AX:Nat->((List Int)×Int×Int×(List (List Int))×(List (List Int))×(List (List Int))×Int)->Option (((List Int)×Int×Int×(List (List Int))×(List (List Int))×(List (List Int)))⊕(Bool))
 |0,_=>none
 |n+1,(t0,t3,t4,t5,t6,t10,t14)=>
 if decide (t14<(t6.length:Int))then
 if inb t14 t6 then
 (EM t5 (gd t6 t14 [])).bind λr9=>
 if !r9 then
 some (.inr false)
 else
 AX n (t0,t3,t4,t5,t6,t10,w64 (t14+1))
 else none
 else
 some (.inl (t0,t3,t4,t5,t6,t10))
def Dl (t0:List Int):Option (Bool):=
 (E2 t0).bind λr1=>
  if r1 then
   some true
  else
   (BZ t0).bind λr2=>
    (CD r2.1 r2.2.1 r2.2.2).bind λr3=>
     (CG r2.1 r2.2.1 r2.2.2).bind λr4=>
      if r3.2 !=r4.2 then
       some false
      else
       (Aq r3.1 r4.1).bind λr5=>
        if !r5 then
         some false
        else
         (Cu r2.1 r2.2.1 r2.2.2).bind λr6=>
          (Cw r2.1 r2.2.1 r2.2.2).bind λr7=>
           if r6.2 !=r7.2 then
            some false
           else
            if r6.2 !=r3.2 then
             some false
            else
             (Aq r6.1 r7.1).bind λr8=>
              if !r8 then
               some false
              else
               if r3.2 then
                (AX Aa (t0,r2.1,r2.2.1,r2.2.2,r3.1,r6.1,0)).bind λs9=>
                 match s9 with
                 | .inl s10=>
                  (Cu s10.2.1 s10.2.2.1 s10.2.2.2.2.1).bind λr12=>
                   if !r12.2 then
                    some false
                   else
                    (Aq r12.1 s10.2.2.2.2.2).bind λr13=>
                     if !r13 then
                      some false
                     else
                      (De s10.2.1).bind λr14=>
                       (AF s10.2.1 (r14.1.1,r14.1.2) s10.2.2.1 s10.2.2.2.2.1).bind λr15=>
                        (AH s10.2.1 (r14.1.1,r14.1.2) s10.2.2.1 s10.2.2.2.2.1).bind λr16=>
                         if r15.2 !=r16.2 then
                          some false
                         else
                          (Aq r15.1 r16.1).bind λr17=>
                           if !r17 then
                            some false
                           else
                            (AQ (s10.2.1,[(r14.1.1,r14.1.2)]) s10.2.2.1 s10.2.2.2.1).bind λr18=>
                             if r14.2 then
                              if r15.2 then
                               if r18.2 then
                                (Aq r18.1 s10.2.2.2.1).bind λr19=>
                                 if r19 then
                                  (Aq r15.1 s10.2.2.2.1).bind λr20=>
                                   if !r20 then
                                    some false
                                   else
                                    (Az s10.1).bind λr21=>
                                     (AF r21.1 (r21.2.1.1,r21.2.1.2) r21.2.2.1 r21.2.2.2).bind λr22=>
                                      (AH r21.1 (r21.2.1.1,r21.2.1.2) r21.2.2.1 r21.2.2.2).bind λr23=>
                                       if r22.2==r23.2 then
                                        (Aq r22.1 r23.1).bind λr24=>
                                         some r24
                                       else
                                        some false
                                 else
                                  (Az s10.1).bind λr25=>
                                   (AF r25.1 (r25.2.1.1,r25.2.1.2) r25.2.2.1 r25.2.2.2).bind λr26=>
                                    (AH r25.1 (r25.2.1.1,r25.2.1.2) r25.2.2.1 r25.2.2.2).bind λr27=>
                                     if r26.2==r27.2 then
                                      (Aq r26.1 r27.1).bind λr28=>
                                       some r28
                                     else
                                      some false
                               else
                                (Az s10.1).bind λr29=>
                                 (AF r29.1 (r29.2.1.1,r29.2.1.2) r29.2.2.1 r29.2.2.2).bind λr30=>
                                  (AH r29.1 (r29.2.1.1,r29.2.1.2) r29.2.2.1 r29.2.2.2).bind λr31=>
                                   if r30.2==r31.2 then
                                    (Aq r30.1 r31.1).bind λr32=>
                                     some r32
                                   else
                                    some false
                              else
                               (Az s10.1).bind λr33=>
                                (AF r33.1 (r33.2.1.1,r33.2.1.2) r33.2.2.1 r33.2.2.2).bind λr34=>
                                 (AH r33.1 (r33.2.1.1,r33.2.1.2) r33.2.2.1 r33.2.2.2).bind λr35=>
                                  if r34.2==r35.2 then
                                   (Aq r34.1 r35.1).bind λr36=>
                                    some r36
                                  else
                                   some false
                             else
                              (Az s10.1).bind λr37=>
                               (AF r37.1 (r37.2.1.1,r37.2.1.2) r37.2.2.1 r37.2.2.2).bind λr38=>
                                (AH r37.1 (r37.2.1.1,r37.2.1.2) r37.2.2.1 r37.2.2.2).bind λr39=>
                                 if r38.2==r39.2 then
                                  (Aq r38.1 r39.1).bind λr40=>
                                   some r40
                                 else
                                  some false
                 | .inr s11=>
                  some s11
               else
                (Az t0).bind λr41=>
                 (AF r41.1 (r41.2.1.1,r41.2.1.2) r41.2.2.1 r41.2.2.2).bind λr42=>
                  (AH r41.1 (r41.2.1.1,r41.2.1.2) r41.2.2.1 r41.2.2.2).bind λr43=>
                   if r42.2==r43.2 then
                    (Aq r42.1 r43.1).bind λr44=>
                     some r44
                   else
                    some false
end T
open Go Go.Va
namespace T
theorem E9: ∀k:Fin 17,((Cy (k.val:Int)).any λR=>R.2.all λo=>decide (o.2.length<=100))=true:=by decide+kernel
theorem Fl {k:Int} (h0:0<=k) (h1:k<17): ∃R,Cy k=some R/\ ∀o∈R.2,o.2.length<=100:=by
 have:=E9 ⟨k.toNat,by omega⟩
 dsimp only at this
 rw[show((k.toNat:Nat):Int)=k by omega]at this
 cases hR:Cy k with
 |none=>rw[hR]at this;simp at this
 |some R=>
  rw[hR]at this
  refine⟨R,rfl,λo ho=>?_⟩
  simp only[Option.any_some,List.all_eq_true,decide_eq_true_eq]at this
  exact this o ho
theorem Hj (t1 t2:Int) (t6 t7:Int×List Int): ∀(d f j x:Nat) (c:Dd),x+d=8->d<f->Cur j c->j+10*d<=100000->
  ∃s,AT f (c,t1,t2,t6,t7,(x:Int))=some s/\((∃c',s= .inl (c',t1,t2,t6,t7)/\Cur (j+10*d+10) c')∨(∃c' op,s= .inr (c',op)/\Cur (j+10*d+10) c'/\op.2.length<=100)):=by
 intro d
 induction d with
 |zero=>
  intro f j x c hx hf hc hj
  obtain⟨f,rfl⟩: ∃z,f=z+1:=⟨f-1,by omega⟩
  refine⟨_,?_,.inl ⟨c,rfl,hc.mono (by omega)⟩⟩
  simp only[AT]
  rw[if_neg (by simp;omega)]
 |succ d ih=>
  intro f j x c hx hf hc hj
  obtain⟨f,rfl⟩: ∃z,f=z+1:=⟨f-1,by omega⟩
  obtain⟨c1,b1,e1,g1⟩:=D5 hc (by omega) 2 (by omega)
  have e1:Ag (c.1,(c.2.1,c.2.2)) 2=_:=e1
  have hlt:decide ((x:Int)<8)=true:=by simp;omega
  simp only[AT,hlt,if_true,e1,Option.bind_some]
  cases b1 with
  |false=>exact⟨_,rfl,.inl ⟨c1,rfl,g1.mono (by omega)⟩⟩
  |true=>
   obtain⟨c2,k2,e2,g2,v1,v2,_⟩:=C9 g1 (by omega) 17 (by omega)
   have e2:Ad (c1.1,(c1.2.1,c1.2.2)) 17=_:=e2
   obtain⟨R,e3,hR⟩:=Fl v1 (v2 (by omega))
   obtain⟨s,e4,hs⟩:=ih f (j+4) (x+1) c2 (by omega) (by omega) g2 (by omega)
   have hs':(∃c',s= .inl (c',t1,t2,t6,t7)/\Cur (j+10*(d+1)+10) c')∨(∃c' op,s= .inr (c',op)/\Cur (j+10*(d+1)+10) c'/\op.2.length<=100):=by
    rcases hs with ⟨c',a,b⟩|⟨c',op,a,b,q⟩
    ·exact .inl ⟨c',a,b.mono (by omega)⟩
    ·exact .inr ⟨c',op,a,b.mono (by omega),q⟩
   simp only[if_true,e2,e3,Option.bind_some,Af (show x<4611686018427387904 by omega)]
   by_cases h1:R.1=t1
   ·rw[if_pos (by simpa using h1)]
    by_cases h2:(R.2.length:Int)>0
    ·rw[if_pos (by simpa using h2)]
     by_cases hbig:(R.2.length:Int)<=1000000
     ·obtain⟨c5,q,e5,g5,u1,u2,_⟩:=C9 g2 (by omega) (R.2.length:Int) hbig
      have e5:Ad (c2.1,(c2.2.1,c2.2.2)) (R.2.length:Int)=_:=e5
      have u2:=u2 (by omega)
      have hin:inb q R.2:=⟨u1,u2⟩
      have hm:gd R.2 q (0,[])∈R.2:=by
       have:gd R.2 q (0,[])=R.2.getD q.toNat (0,[]):=rfl
       rw[this];exact AL (by omega)
      have hl:=hR _ hm
      have e6:DL ((gd R.2 q (0,[])).1,(gd R.2 q (0,[])).2)=some ((gd R.2 q (0,[])).1,(gd R.2 q (0,[])).2):=by
       unfold DL
       rw[BT (by show(gd R.2 q (0,[])).2.length<=_;omega)];rfl
      simp only[e5,Option.bind_some]
      rw[if_pos hin,e6]
      exact⟨_,rfl,.inr ⟨c5,_,rfl,g5.mono (by omega),hl⟩⟩
     ·exfalso
      have h17: ∀k:Fin 17,((Cy (k.val:Int)).any λR=>decide (R.2.length<=100))=true:=by decide+kernel
      have:=h17 ⟨k2.toNat,by have:=v2 (by omega);omega⟩
      dsimp only at this
      rw[show((k2.toNat:Nat):Int)=k2 by omega,e3]at this
      simp only[Option.any_some,decide_eq_true_eq]at this
      omega
    ·rw[if_neg (by simpa using h2)]
     exact⟨s,e4,hs'⟩
   ·rw[if_neg (by simpa using h1)]
    exact⟨s,e4,hs'⟩
theorem GF {n:Nat} (hn:1<=n/\n<=8) (t6:Int×List Int): ∀(d f j x:Nat) (c:Dd) (t:Int) (o:List Int),x+d=n^3->d<f->Cur j c->j+10*d<=100000->o.length=x->
  ∃c' o',AJ f (c,(n:Int),3,t6,(t,o),(x:Int))=some (c',(n:Int),t6,(t,o'))/\Cur (j+10*d) c'/\o'.length=n^3:=by
 have hp:=E5 hn.2 (k:=3) (by omega)
 have e0:=Dg (n:=(n:Int)) (by omega) (by omega) (k:=3) (by omega)
 have e0:Co (n:Int) 3=some (((n^3:Nat):Int)):=by rw[Int.natCast_pow];exact e0
 intro d
 induction d with
 |zero=>
  intro f j x c t o hx hf hc hj ho
  obtain⟨f,rfl⟩: ∃z,f=z+1:=⟨f-1,by omega⟩
  refine⟨c,o,?_,hc.mono (by omega),by omega⟩
  simp only[AJ,e0,Option.bind_some]
  rw[if_neg (by simp only[decide_eq_true_eq];omega)]
 |succ d ih=>
  intro f j x c t o hx hf hc hj ho
  obtain⟨f,rfl⟩: ∃z,f=z+1:=⟨f-1,by omega⟩
  have e1:=DK (b:=n) (k:=3) (i:=x) (by omega) (by omega) (by omega)
  have e1:Cr (n:Int) 3 (x:Int)=some (cI (dg n 3 x)):=e1
  have hl3:(cI (dg n 3 x)).length=3:=by rw[CC,Du]
  obtain⟨c1,b1,e2,g2⟩:=D5 hc (by omega) 3 (by omega)
  have e2:Ag (c.1,(c.2.1,c.2.2)) 3=_:=e2
  have hlt:decide ((x:Int)<((n^3:Nat):Int))=true:=by simp only[decide_eq_true_eq];omega
  have hgt:decide (((cI (dg n 3 x)).length:Int)>0)=true:=by rw[hl3];rfl
  simp only[AJ,e0,hlt,if_true,e1,hgt,e2,Option.bind_some,Af (show x<4611686018427387904 by omega)]
  cases b1 with
  |false=>
   obtain⟨c3,y,e3,g3,_⟩:=Di g2 (by omega) (l:=cI (dg n 3 x)) (by omega) (by omega)
   have e3:Ab (c1.1,(c1.2.1,c1.2.2)) (cI (dg n 3 x))=_:=e3
   obtain⟨c',o',e4,g4,l4⟩:=ih f (j+4) (x+1) c3 t (o++ [y]) (by omega) (by omega) g3 (by omega) (by simp;omega)
   refine⟨c',o',?_,g4.mono (by omega),l4⟩
   rw[if_pos (by simp),e3]
   simp only[Option.bind_some]
   rw[if_pos (by simp;unfold lim;omega)]
   exact e4
  |true=>
   obtain⟨c3,y,e3,g3,_⟩:=C9 g2 (by omega) (n:Int) (by omega)
   have e3:Ad (c1.1,(c1.2.1,c1.2.2)) (n:Int)=_:=e3
   obtain⟨c',o',e4,g4,l4⟩:=ih f (j+4) (x+1) c3 t (o++ [y]) (by omega) (by omega) g3 (by omega) (by simp;omega)
   refine⟨c',o',?_,g4.mono (by omega),l4⟩
   rw[if_neg (by simp),e3]
   simp only[Option.bind_some]
   rw[if_pos (by simp;unfold lim;omega)]
   exact e4
theorem Hk {j:Nat} {c:Dd} (hc:Cur j c) (hj:j<=1000) {n:Int}: ∃c' op,Cj c n 3=some (c',op)/\Cur 50000 c'/\op.2.length<=1000:=by
 unfold Cj
 rw[CA,B9]
 cases hs:Cd n with
 |false=>exact⟨c,(3,[]),rfl,hc.mono (by omega),by simp⟩
 |true=>
  unfold Cd at hs
  have hs:=of_decide_eq_true hs
  obtain⟨N,rfl⟩: ∃N:Nat,n=(N:Int):=⟨n.toNat,by omega⟩
  obtain⟨s,e1,h1⟩:=Hj (N:Int) 3 (0,[]) (3,[]) 8 Aa j 0 c (by omega) (by unfold Aa;omega) hc (by omega)
  have e1:AT Aa ((c.1,(c.2.1,c.2.2)),(N:Int),3,(0,[]),(3,[]),0)=_:=e1
  have hd:decide ((0:Int)<=3/\(3:Int)<=3)=true:=by decide
  simp only[Option.bind_some,Bool.not_true,Bool.false_eq_true,if_false,hd,e1]
  rcases h1 with ⟨c1,rfl,g1⟩|⟨c1,op,rfl,g1,l1⟩
  ·have hp:=E5 (n:=N) (k:=3) (by omega) (by omega)
   have hp0:0<N^3:=Nat.pow_pos (by omega)
   obtain⟨c2,o,e2,g2,l2⟩:=GF (n:=N) (by omega) (0,[]) (N^3) Aa (j+10*8+10) 0 c1 3 [] (by omega) (by unfold Aa;omega) g1 (by omega) rfl
   have e2:AJ Aa ((c1.1,(c1.2.1,c1.2.2)),(N:Int),3,(0,[]),(3,[]),0)=_:=e2
   obtain⟨c3,b3,e3,g3⟩:=D5 g2 (by omega) 32 (by omega)
   have e3:Ag (c2.1,(c2.2.1,c2.2.2)) 32=_:=e3
   simp only[e2,e3,Option.bind_some]
   cases b3 with
   |false=>exact⟨c3,(3,o),rfl,g3.mono (by omega),by dsimp only;omega⟩
   |true=>
    obtain⟨c4,y,e4,g4,_⟩:=Di g3 (by omega) (l:= [-1,(N:Int)]) (by simp) (by simp)
    have e4:Ab (c3.1,(c3.2.1,c3.2.2)) [-1,(N:Int)]=_:=e4
    rw[if_pos rfl,e4]
    simp only[Option.bind_some]
    rw[if_pos (by unfold inb;omega)]
    exact⟨c4,(3,stt o 0 y),rfl,g4.mono (by omega),by show(o.set _ _).length<=_;rw[List.length_set];omega⟩
  ·exact⟨c1,op,rfl,g1.mono (by omega),by omega⟩
theorem GC {n:Nat} (hn:1<=n/\n<=8) (b:Bool): ∃op,D7 (n:Int) b=some op/\op.2.length<=1000:=by
 obtain⟨h2,h3,h4⟩:=Dt hn
 have e1:w64 ((n:Int)*n)=((n*n:Nat):Int):=by rw[←Int.natCast_mul];exact Gg (by omega)
 have e2:w64 (((n*n:Nat):Int)*n)=((n*n*n:Nat):Int):=by rw[←Int.natCast_mul];exact Gg (by omega)
 have key: ∀(d f x:Nat) (o:List Int),x+d=n*n*n->d<f->o.length=x-> ∃o',BD f ((n:Int),b,(0,[]),(3,o),(x:Int))=some ((0,[]),(3,o'))/\o'.length=n*n*n:=by
  intro d
  induction d with
  |zero=>
   intro f x o hx hf ho
   obtain⟨f,rfl⟩: ∃z,f=z+1:=⟨f-1,by omega⟩
   refine⟨o,?_,by omega⟩
   simp only[BD,e1,e2]
   rw[if_neg (by simp only[decide_eq_true_eq];omega)]
  |succ d ih=>
   intro f x o hx hf ho
   obtain⟨f,rfl⟩: ∃z,f=z+1:=⟨f-1,by omega⟩
   have e3:=DK (b:=n) (k:=3) (i:=x) (by omega) (by omega) (by omega)
   have e3:Cr (n:Int) 3 (x:Int)=some (cI (dg n 3 x)):=e3
   have hl3:(cI (dg n 3 x)).length=3:=by rw[CC,Du]
   have hlt:decide ((x:Int)<((n*n*n:Nat):Int))=true:=by simp only[decide_eq_true_eq];omega
   have i0:inb 0 (cI (dg n 3 x)):=by unfold inb;omega
   have i1:inb 1 (cI (dg n 3 x)):=by unfold inb;omega
   have i2:inb 2 (cI (dg n 3 x)):=by unfold inb;omega
   obtain⟨o1,q1,q2⟩:=ih f (x+1) (o++ [gd (cI (dg n 3 x)) 0 0]) (by omega) (by omega) (by simp;omega)
   obtain⟨o2,r1,r2⟩:=ih f (x+1) (o++ [gd (cI (dg n 3 x)) 2 0]) (by omega) (by omega) (by simp;omega)
   simp only[BD,e1,e2,hlt,if_true,e3,Option.bind_some,i0,i1,i2,Af (show x<4611686018427387904 by omega)]
   split
   ·rw[if_pos (by simp;unfold lim;omega)]
    exact⟨o1,q1,q2⟩
   ·rw[if_pos (by simp;unfold lim;omega)]
    exact⟨o2,r1,r2⟩
 obtain⟨o,e,hl⟩:=key (n*n*n) Aa 0 [] (by omega) (by unfold Aa;omega) rfl
 refine⟨(3,o),?_,by dsimp only;omega⟩
 unfold D7
 have e:BD Aa ((n:Int),b,(0,[]),(3,[]),0)=_:=e
 rw[e];rfl
theorem Fo {n k:Int} {o:List (List Int)} (h:C2 n k o=true): ∃F A,A8 n k o=some (F,A)/\A.length<=512/\ ∀t∈A,t.length<=5:=by
 obtain⟨hS,hk⟩:=DY h
 have hn:=hS.hn
 have hk':=hS.hk
 obtain⟨N,rfl⟩: ∃N:Nat,n=(N:Int):=⟨n.toNat,by omega⟩
 obtain⟨K,hK⟩: ∃K,K=k.toNat:=⟨_,rfl⟩
 rw[←hK]at hS hk hk'
 subst hk
 obtain⟨F,A,e2,hFA⟩:=CL hS
 refine⟨F,A,e2,?_,λt ht=>?_⟩
 ·have h1:K*N<=4*8:=Nat.mul_le_mul (by omega) (by omega)
  have h2:(K*N+0)*N<=32*8:=Nat.mul_le_mul (by omega) (by omega)
  have:=hFA.lenA
  omega
 ·obtain⟨i,x,y,a,b,_,_,_,q,q'⟩:=(hFA.memA t).1 ht
  obtain⟨g1,g2,_⟩:=Bt q
  rcases q' with rfl|rfl
  ·have:=hS.lenj g1;omega
  ·have:=hS.lenj g2;omega
def GK (c:Dd) (op:Opn) (n k:Int) (o:List (List Int)):Option (Int×Opn×Int×List (List Int)):=
 (Bl n k o).bind λr8=>
 if r8 then
 (Ag (c.1,(c.2.1,c.2.2)) 2).bind λr9=>
 if r9.2 then
 (A8 n k o).bind λr10=>
 some (n,(op.1,op.2),k,r10.2)
 else
 some (n,(op.1,op.2),k,o)
 else
 some (n,(op.1,op.2),k,o)
structure SmallR (op:Opn) (o:List (List Int)):Prop where
 op:op.2.length<=1000
 l:o.length<=512
 r: ∀t∈o,t.length<=5
theorem DX {c:Dd} (hc:Cur 100000 c) {op:Opn} (ho:op.2.length<=1000) {n k:Int} {o:List (List Int)} (hS:SmallS n k o): ∃n' op' k' o',GK c op n k o=some (n',op',k',o')/\SmallR op' o':=by
 have hl:=hS.l
 unfold GK
 rw[B2 (by omega) λt ht=>by have:=hS.r t ht;omega]
 simp only[Option.bind_some]
 cases hs:C2 n k o with
 |false=>exact⟨n,op,k,o,rfl,ho,by omega,hS.r⟩
 |true=>
  obtain⟨c1,b,e1,_⟩:=D5 hc (by omega) 2 (by omega)
  have e1:Ag (c.1,(c.2.1,c.2.2)) 2=_:=e1
  rw[if_pos rfl,e1]
  simp only[Option.bind_some]
  cases b with
  |false=>exact⟨n,op,k,o,rfl,ho,by omega,hS.r⟩
  |true=>
   obtain⟨F,A,e2,l2,r2⟩:=Fo hs
   rw[if_pos rfl,e2]
   exact⟨n,op,k,A,rfl,ho,l2,r2⟩
theorem D9 {code:List Int} (h1:code.length<=65536) (h2: ∀x∈code,0<=x/\x<256): ∃n op k o,Az code=some (n,op,k,o)/\SmallR op o:=by
 obtain⟨c1,n,k,o,e1,g1,hS⟩:=Fz (HY h1 h2) false
 obtain⟨c2,op,e2,g2,l2⟩:=Hk g1 (by omega) (n:=n)
 have e2:Cj (c1.1,(c1.2.1,c1.2.2)) n 3=_:=e2
 unfold Az
 rw[e1]
 simp only[Option.bind_some,e2,CA]
 cases hs:Cd n with
 |false=>
  rw[if_neg (by simp)]
  exact DX (g2.mono (by omega)) l2 hS
 |true=>
  unfold Cd at hs
  have hs:=of_decide_eq_true hs
  obtain⟨N,rfl⟩: ∃N:Nat,n=(N:Int):=⟨n.toNat,by omega⟩
  obtain⟨c3,b3,e3,g3⟩:=D5 g2 (by omega) 3 (by omega)
  have e3:Ag (c2.1,(c2.2.1,c2.2.2)) 3=_:=e3
  rw[if_pos rfl,e3]
  simp only[Option.bind_some]
  cases b3 with
  |true=>
   rw[if_neg (by simp)]
   exact DX (g3.mono (by omega)) l2 hS
  |false=>
   have hcube:=Dt (n:=N) (by omega)
   obtain⟨c4,b4,e4,g4⟩:=D5 g3 (by omega) 3 (by omega)
   have e4:Ag (c3.1,(c3.2.1,c3.2.2)) 3=_:=e4
   rw[if_pos (by simp),CH (n:=N) (by omega)]
   simp only[Option.bind_some,e4]
   cases b4 with
   |false=>
    rw[if_neg (by simp)]
    exact DX (op:=(3,(List.range (N*N*N)).map (Ct N))) (g4.mono (by omega)) (by simp;omega) hS
   |true=>
    obtain⟨op2,e5,l5⟩:=GC (n:=N) (by omega) false
    rw[if_pos rfl,e5]
    exact DX (g4.mono (by omega)) l5 hS
end T
open Go Go.Va
namespace T
section
variable {n:Int} {k:Nat} {ts W:List (List Int)}
theorem Et {n kk:Int} (hl:ts.length<=1099511627774) (hr: ∀t∈ts,t.length<=1099511627775): ∃R:List (List Int)×Bool,Cu n kk ts=some R/\Cw n kk ts=some R/\R.1.length<=256/\(∀r∈R.1,r.length<=3)/\R.2=C2 n kk ts/\(R.2=true->B7 R.1=true/\ ∀r,r∈R.1↔isFork ts kk.toNat r):=by
 obtain⟨R,a1,a2,a3,a4⟩:=FE (n:=n) (kk:=kk) hl hr
 refine⟨R,a1,a2,a3,a4,?_⟩
 unfold Cw at a2
 rw[B2 hl hr]at a2
 simp only[Option.bind_some]at a2
 cases hs:C2 n kk ts with
 |false=>
  rw[hs]at a2
  simp only[Bool.not_false,if_true,Option.some.injEq]at a2
  subst a2
  exact⟨rfl,by simp⟩
 |true=>
  rw[hs]at a2
  obtain⟨h,hk⟩:=DY hs
  have hn:=h.hn
  obtain⟨N,rfl⟩: ∃N:Nat,n=(N:Int):=⟨n.toNat,by omega⟩
  obtain⟨K,hK⟩: ∃K,K=kk.toNat:=⟨_,rfl⟩
  rw[←hK]at h hk⊢
  subst hk
  obtain⟨F,A,e2,hFA⟩:=CL h
  rw[e2]at a2
  simp only[Option.bind_some,Bool.not_true,Bool.false_eq_true,if_false,Option.some.injEq]at a2
  subst a2
  exact⟨rfl,λ_=>⟨hFA.inc,λr=>hFA.fork h r⟩⟩
def WitOf (ts:List (List Int)) (k:Nat) (W:List (List Int)):Prop:= ∀w,w∈W↔ ∃(i:Nat) (x y:Int) (p q:Nat),i<k/\Ch ts i x y=some (p,q)/\(w=ts.getD p []∨w=ts.getD q [])
theorem WitOf.sub (h:WitOf ts k W) {w:List Int} (hw:w∈W):w∈ts:=by
 obtain⟨i,x,y,p,q,_,h2,h3⟩:=(h w).1 hw
 obtain⟨g1,g2,_⟩:=Bt h2
 rcases h3 with rfl|rfl
 ·exact AL g1
 ·exact AL g2
theorem DU {l:List (List Int)} {t:List Int} (h:t∈l): ∃i,i<l.length/\l.getD i []=t:=by
 obtain⟨i,hi,rfl⟩:=List.mem_iff_getElem.1 h
 exact⟨i,hi,AC hi⟩
theorem WitOf.fork (h:WitOf ts k W) {i:Nat} (hi:i<k) {t u:List Int} (ht:t∈ts) (hu:u∈ts) (hp:t.take i=u.take i): ∃v∈W,∃w∈W,v.getD i 0=t.getD i 0/\w.getD i 0=u.getD i 0/\v.take i=w.take i:=by
 obtain⟨j,hj,rfl⟩:=DU ht
 obtain⟨l,hl,rfl⟩:=DU hu
 cases hq:Ch ts i (AP ts i j) (AP ts i l)with
 |none=>exact(D6 hq hj hl rfl rfl hp).elim
 |some pq=>
  obtain⟨p,q⟩:=pq
  obtain⟨g1,g2,g3,g4,g5⟩:=Bt hq
  exact⟨_,(h _).2 ⟨i,_,_,p,q,hi,hq,.inl rfl⟩,_,(h _).2 ⟨i,_,_,p,q,hi,hq,.inr rfl⟩,g3,g4,g5⟩
theorem WitOf.isFork (h:WitOf ts k W) (r:List Int):isFork W k r↔isFork ts k r:=by
 constructor
 ·rintro ⟨i,j,l,hi,hj,hl,hp,rfl⟩
  obtain⟨j',hj',ej⟩:=DU (h.sub (AL (d:= []) hj))
  obtain⟨l',hl',el⟩:=DU (h.sub (AL (d:= []) hl))
  refine⟨i,j',l',hi,hj',hl',?_,?_⟩
  ·unfold Av at hp⊢;rw[ej,el];exact hp
  ·unfold AP;rw[ej,el]
 ·rintro ⟨i,j,l,hi,hj,hl,hp,rfl⟩
  obtain⟨v,hv,w,hw,e1,e2,e3⟩:=h.fork hi (AL (d:= []) hj) (AL (d:= []) hl) hp
  obtain⟨j',hj',ej⟩:=DU hv
  obtain⟨l',hl',el⟩:=DU hw
  refine⟨i,j',l',hi,hj',hl',?_,?_⟩
  ·unfold Av;rw[ej,el];exact e3
  ·unfold AP;rw[ej,el,e1,e2]
theorem WitOf.set {N:Int} {kk:Int} (h:WitOf ts kk.toNat W) (hs:C2 N kk ts=true) (hi:B7 W=true):C2 N kk W=true:=by
 unfold C2 at hs⊢
 simp only[Bool.and_eq_true,List.all_eq_true]at hs⊢
 exact⟨⟨hs.1.1,λw hw=>hs.1.2 w (h.sub hw)⟩,hi⟩
theorem FV {N K:Nat} {L:List (List Int)} (hts: ∀t∈ts,TpOk N K t) (hN:1<=N/\N<=8) (hK:1<=K/\K<=4) (hW:WitOf ts K W) (hc:Closd N K (Dr N) ts) (hG:GenL N K (Dr N) W L) (hL:L.length<=40): ∀t,t∈L↔t∈ts:=by
 have hT:=E8 (n:=N) (k:=K) hN hK
 have hcl:=hG.all hL
 have hsub: ∀t∈L,t∈ts:=λt ht=>by
  have:=hG.cl.sub t ht
  exact hc.mem (gens:=W) (λw hw=>hW.sub hw) this
 refine λt=>⟨hsub t,λht=>?_⟩
 have key: ∀i,i<=K-> ∃u∈L,u.take i=t.take i:=by
  intro i
  induction i with
  |zero=>
   intro _
   obtain⟨v,hv,_⟩:=hW.fork (i:=0) (by omega) ht ht rfl
   exact⟨v,hG.gs v hv,by simp⟩
  |succ i ih=>
   intro hi
   obtain⟨u,hu,e⟩:=ih (by omega)
   obtain⟨v,hv,w,hw,e1,e2,e3⟩:=hW.fork (i:=i) (by omega) (hsub u hu) ht e
   have tu:=hts u (hsub u hu);have tt:=hts t ht
   have tv:=hts v (hW.sub hv);have tw:=hts w (hW.sub hw)
   have hm:=hcl u hu v (hG.gs v hv) w (hG.gs w hw)
   have ho:=Ds hT tu tv tw
   refine⟨_,hm,?_⟩
   refine List.ext_getElem (by rw[List.length_take,List.length_take,ho.1,tt.1]) λj h1 h2=>?_
   rw[List.length_take]at h1
   have hj:j<i+1:=by omega
   have hjK:j<K:=by omega
   rw[List.getElem_take,List.getElem_take,←AC (d:=0),←AC (d:=0),Gk tu tv tw hjK]
   have hu2:=tu.get hjK;have ht2:=tt.get hjK;have hv2:=tv.get hjK;have hw2:=tw.get hjK
   have hfin: ∀x:Int,0<=x/\x<(N:Int)->x%(N:Int)=x:=λx hx=>Int.emod_eq_of_lt hx.1 hx.2
   rcases Nat.lt_or_ge j i with h3|h3
   ·have a1:v.getD j 0=w.getD j 0:=by
     have:=congrArg (λl=>l.getD j 0) e3
     simp only[List.getD_eq_getElem?_getD,List.getElem?_take_of_lt h3]at this
     rw[List.getD_eq_getElem?_getD,List.getD_eq_getElem?_getD];exact this
    have a2:u.getD j 0=t.getD j 0:=by
     have:=congrArg (λl=>l.getD j 0) e
     simp only[List.getD_eq_getElem?_getD,List.getElem?_take_of_lt h3]at this
     rw[List.getD_eq_getElem?_getD,List.getD_eq_getElem?_getD];exact this
    rw[a1,show u.getD j 0-w.getD j 0+w.getD j 0=u.getD j 0 by omega,a2]
    exact hfin _ (by omega)
   ·have:j=i:=by omega
    subst this
    rw[e1,e2,show u.getD j 0-u.getD j 0+t.getD j 0=t.getD j 0 by omega]
    exact hfin _ (by omega)
 obtain⟨u,hu,e⟩:=key K (Nat.le_refl _)
 have tu:=hts u (hsub u hu);have tt:=hts t ht
 rw[List.take_of_length_le (by rw[tu.1];exact Nat.le_refl _),List.take_of_length_le (by rw[tt.1];exact Nat.le_refl _)]at e
 exact e▸hu
theorem Fm {N K:Nat} (hN:1<=N/\N<=8) (hK:1<=K/\K<=4) (hl: ¬ts.length<=20):AQ ((N:Int),[(3,Dr N)]) (K:Int) ts=some ([],false):=by
 have hcube:=Dt hN
 have hs:Cd (N:Int)=true:=by unfold Cd;simp;omega
 unfold AQ CU Df
 dsimp only
 rw[Gv _ _ (by rw[Ea];omega),Gi hN.1,hs]
 simp only[Bool.and_self,Option.bind_some,if_true]
 rw[if_pos (by simp;omega)]
 simp only[Option.bind_some]
 rw[if_pos (by simp;omega),if_neg (by simp;omega)]
 rfl
theorem HF {t0:List Int} {n k:Int} {ts W F:List (List Int)} (hW: ∀w∈W,w∈ts) (hl:W.length<=100000) (hts:ts.length<=1048576) (hr: ∀r∈ts,r.length<=1048576):AX Aa (t0,n,k,ts,W,F,0)=some (.inl (t0,n,k,ts,W,F)):=by
 have:=DC W.length (λf (_:Unit) i=>AX f (t0,n,k,ts,W,F,i)) (λ_=>()) (r:=some (.inl (t0,n,k,ts,W,F))) (λf i hi=>?_) (λf=>?_) (n:=Aa) (by unfold Aa;omega)
 ·exact this
 ·have hm:=hW _ (List.getElem_mem hi)
  have e:=HP (l:=ts) (t:=W[i]) hts hr
  simp only[AX,Aj,hi,AK hi,if_true,e,hm,decide_true,Option.bind_some,Af (show i<4611686018427387904 by omega)]
  rw[if_pos (by simp;omega),if_neg (by simp)]
 ·simp only[AX]
  rw[if_neg (by simp)]
theorem FnWitnesses_law {code:List Int} (h:wfT (.slice (.num .u8)) code):Dl code=some true:=by
 unfold Dl E2
 simp only[Option.bind_some]
 by_cases hb:(code.length:Int)>65536
 ·rw[if_pos (decide_eq_true hb)]
 ·rw[if_neg (by simpa using hb)]
  have h1:code.length<=65536:=by omega
  have h2: ∀x∈code,0<=x/\x<256:=λx hx=>by
   have:IntKind.u8.min<=x/\x<=IntKind.u8.max:=h.2 x hx
   have e1:IntKind.u8.min=0:=by decide
   have e2:IntKind.u8.max=255:=by decide
   omega
  have hbe: ∀b:Bool,(b !=b)=false:=λb=>by cases b<;>rfl
  obtain⟨n,kk,ts,ed,hS⟩: ∃n kk ts,BZ code=some (n,kk,ts)/\SmallS n kk ts:=by
   obtain⟨c',n,k,o,e,_,hS⟩:=Fz (HY h1 h2) false
   refine⟨n,k,o,?_,hS⟩
   unfold BZ Dn
   rw[e];rfl
  have hl:=hS.l
  have hr: ∀t∈ts,t.length<=1099511627775:=λt ht=>by have:=hS.r t ht;omega
  obtain⟨R,w1,w2,w3,w4,w5,w6⟩:=EE (n:=n) (kk:=kk) (ts:=ts) (by omega) hr
  obtain⟨F,f1,f2,f3,f4,f5,f6⟩:=Et (n:=n) (kk:=kk) (ts:=ts) (by omega) hr
  have vR:Aq R.1 R.1=some true:=Dc (by omega) λr hr=>by have:=w4 r hr;omega
  have vF:Aq F.1 F.1=some true:=Dc (by omega) λr hr=>by have:=f4 r hr;omega
  have hFR:F.2=R.2:=by rw[w5,f5]
  obtain⟨m,op,l2,o,ed2,hS2⟩:=D9 h1 h2
  have ho:=hS2.op;have hol:=hS2.l
  obtain⟨Q,q1,q2,q3,q4,_⟩:=D0 (n:=m) (kk:=l2) (op:=op) (ts:=o) (by omega) (λt ht=>by have:=hS2.r t ht;omega) (by omega)
  have q1:AF m (op.1,op.2) l2 o=_:=q1
  have q2:AH m (op.1,op.2) l2 o=_:=q2
  have vQ:Aq Q.1 Q.1=some true:=Dc (by omega) λr hr=>by have:=q4 r hr;omega
  simp only[ed,w1,w2,f1,f2,hFR,vR,vF,hbe,Option.bind_some,Bool.false_eq_true,if_false,Bool.not_true]
  cases hR:R.2 with
  |false=>
   rw[if_neg (by simp)]
   simp only[ed2,q1,q2,vQ,Option.bind_some]
   simp
  |true=>
   rw[if_pos rfl]
   obtain⟨hinc,hmem⟩:=w6 hR
   have hs:C2 n kk ts=true:=by rw[←w5];exact hR
   have hWit:WitOf ts kk.toNat R.1:=hmem
   have e14:=HF (t0:=code) (n:=n) (k:=kk) (ts:=ts) (W:=R.1) (F:=F.1) (λw hw=>hWit.sub hw) (by omega) (by omega) (λr hr=>by have:=hS.r r hr;omega)
   have hs2:=hWit.set hs hinc
   obtain⟨F2,g1,g2,g3,g4,g5,g6⟩:=Et (n:=n) (kk:=kk) (ts:=R.1) (by omega) (λr hr=>by have:=w4 r hr;omega)
   rw[hs2]at g5
   obtain⟨i1,i2⟩:=g6 g5
   obtain⟨j1,j2⟩:=f6 (by rw[hFR];exact hR)
   have hFF:F2.1=F.1:=DH i1 j1 λu=>(i2 u).trans ((hWit.isFork u).trans (j2 u).symm)
   obtain⟨hTup,hkk⟩:=DY hs
   have hn:=hTup.hn
   have hk':=hTup.hk
   obtain⟨N,rfl⟩: ∃N:Nat,n=(N:Int):=⟨n.toNat,by omega⟩
   obtain⟨K,hK⟩: ∃K,K=kk.toNat:=⟨_,rfl⟩
   rw[←hK]at hTup hkk hk' hWit
   subst hkk
   have hN:1<=N/\N<=8:=by omega
   have hcube:=Dt hN
   have hT:=E8 (n:=N) (k:=K) hN hk'
   have hg: ∀t∈ts,t.length=K/\AS (N:Int) t=true:=λt ht=>⟨hTup.len t ht,hTup.el t ht⟩
   have htp: ∀t∈ts,TpOk N K t:=λt ht=>Eb (hg t ht).1 (hg t ht).2
   obtain⟨a1,_⟩:=E7 hN
   obtain⟨C,c1,c2,c3,c4,c5⟩:=D0 (n:=(N:Int)) (kk:=(K:Int)) (op:=(3,Dr N)) (ts:=R.1) (by omega) (λr hr=>by have:=w4 r hr;omega) (by show(Dr N).length<=_;rw[Ea];omega)
   have vC:Aq C.1 C.1=some true:=Dc (by omega) λr hr=>by have:=c4 r hr;omega
   simp only[e14,g1,g5,hFF,vF,a1,c1,c2,vC,hbe,Option.bind_some,Bool.false_eq_true,if_false,Bool.not_true,if_true]
   have fin:((Az code).bind λr21=>(AF r21.1 (r21.2.1.1,r21.2.1.2) r21.2.2.1 r21.2.2.2).bind λr22=>(AH r21.1 (r21.2.1.1,r21.2.1.2) r21.2.2.1 r21.2.2.2).bind λr23=>if r22.2==r23.2 then(Aq r22.1 r23.1).bind λr24=>some r24 else some false)=some true:=by
    simp only[ed2,q1,q2,vQ,Option.bind_some]
    simp
   by_cases h20:ts.length<=20
   ·obtain⟨M,hM,e5⟩:=Ew hT (Gi hN.1) hg h20
    rw[e5]
    simp only[Option.bind_some]
    cases hC:C.2 with
    |false=>rw[if_neg (by simp)];exact fin
    |true=>
     rw[if_pos rfl]
     by_cases h40:M.length<=40
     ·rw[if_pos h40,if_pos rfl]
      have hp:=Bc M
      have vM:Aq (Zn cmpL M) ts=some (decide (Zn cmpL M=ts)):=E6 (by rw[hp.length_eq];omega) λr hr=>by
       have:=((hM.cl.sub r (hp.mem_iff.1 hr)).ok hT htp).1
       omega
      rw[vM]
      simp only[Option.bind_some]
      by_cases hMt:Zn cmpL M=ts
      ·rw[if_pos (by simpa using hMt)]
       obtain⟨N',K',L,en,ek,_,hGL,hL40,eC⟩:=c5 hC
       have:N'=N:=by omega
       subst this
       have:K'=K:=by omega
       subst this
       have hmM: ∀t,t∈M↔t∈ts:=λt=>by rw[←hMt,hp.mem_iff]
       have hcM:=hM.all h40
       have hct:Closd N' K' (Dr N') ts:=λx hx y hy z hz=>(hmM _).1 (hcM x ((hmM x).2 hx) y ((hmM y).2 hy) z ((hmM z).2 hz))
       have hrst:=FV htp hN hk' hWit hct hGL hL40
       have hCt:C.1=ts:=by
        rw[eC]
        refine DH (C1 hGL.cl.nd) hTup.inc λu=>?_
        rw[(Bc L).mem_iff];exact hrst u
       have vCt:Aq C.1 ts=some true:=by rw[←hCt];exact vC
       rw[vCt]
       simp only[Option.bind_some]
       rw[if_neg (by simp)]
       exact fin
      ·rw[if_neg (by simpa using hMt)]
       exact fin
     ·rw[if_neg h40,if_neg (by simp)];exact fin
   ·rw[Fm hN hk' h20]
    simp only[Option.bind_some]
    cases hC:C.2 with
    |false=>rw[if_neg (by simp)];exact fin
    |true=>rw[if_pos rfl,if_neg (by simp)];exact fin
end
end T
