/- Plain lemmas on the typed functions of the program, and the plain law of FnPairs; no conditions. -/
import Derived.Test.YtdbnhgpajhaleaaGreatV1
import Derived.Test.YtdbnhgpajhaleaaGreatV5
import Derived.KernelRfl
import Derived.Test.YtdbnhgpajhaleaaGreatOFnPairs
set_option linter.all false
open Go Go.Va
namespace T
abbrev PS:=Bool×Int×Int×DT
abbrev SIn (σ:Type):=Int×List Int×σ×PS×List Int×Unit
abbrev Ke (σ:Type):=List Int×σ×PS×List Int×Bool
def gL {σ:Type} (rec:SIn σ->Option (Ke σ)):Nat->(Int×List Int×σ×PS×List Int×Unit×Int)->Option ((List Int×σ×PS×List Int×Unit)⊕(List Int×σ×PS×List Int×Unit×Bool))
 |0,_=>none
 |n+1,(at_,t1,t2,t3,t4,t5,x)=>
 if t3.1=true then
 if decide (x<t3.2.1)then
 if inb at_ t4 then
 if decide ((gd t4 at_ 0)≥0)then
 if inb at_ t4 then
 if(gd t4 at_ 0) !=x then
 gL rec n (at_,t1,t2,t3,t4,(),w64 (x+1))
 else
 if inb at_ t1 then
 (AT t3 (stt t1 at_ x) at_).bind λr2=>
 if r2 then
 (rec (w64 (at_+1),stt t1 at_ x,t2,t3,t4,())).bind λr3=>
 if !r3.2.2.2.2 then
 some (.inr (r3.1,r3.2.1,r3.2.2.1,r3.2.2.2.1,(),false))
 else
 gL rec n (at_,r3.1,r3.2.1,r3.2.2.1,r3.2.2.2.1,(),w64 (x+1))
 else
 gL rec n (at_,stt t1 at_ x,t2,t3,t4,(),w64 (x+1))
 else none
 else none
 else
 if inb at_ t1 then
 (AT t3 (stt t1 at_ x) at_).bind λr4=>
 if r4 then
 (rec (w64 (at_+1),stt t1 at_ x,t2,t3,t4,())).bind λr5=>
 if !r5.2.2.2.2 then
 some (.inr (r5.1,r5.2.1,r5.2.2.1,r5.2.2.2.1,(),false))
 else
 gL rec n (at_,r5.1,r5.2.1,r5.2.2.1,r5.2.2.2.1,(),w64 (x+1))
 else
 gL rec n (at_,stt t1 at_ x,t2,t3,t4,(),w64 (x+1))
 else none
 else none
 else
 some (.inl (t1,t2,t3,t4,()))
 else none
def Jr {σ:Type} (cb:List Int->σ->Option (σ×Bool)) (rec:SIn σ->Option (Ke σ)) (x:SIn σ):Option (Ke σ):=
 if x.1==(x.2.1.length:Int)then
  (cb x.2.1 x.2.2.1).bind λr1=>some (x.2.1,r1.1,x.2.2.2.1,x.2.2.2.2.1,r1.2)
 else
  (gL rec Aa (x.1,x.2.1,x.2.2.1,x.2.2.2.1,x.2.2.2.2.1,(),0)).bind λs2=>
   match s2 with
   | .inl s3=>some (s3.1,s3.2.1,s3.2.2.1,s3.2.2.2.1,true)
   | .inr s4=>some (s4.1,s4.2.1,s4.2.2.1,s4.2.2.2.1,s4.2.2.2.2.2)
def gF {σ:Type} (cb:List Int->σ->Option (σ×Bool)):Nat->SIn σ->Option (Ke σ)
 |0,_=>none
 |d+1,x=>Jr cb (gF cb d) x
def A9 {σ:Type} (cb:List Int->σ->Option (σ×Bool)):List (List Int)->σ->Option (σ×Bool)
 | [],s=>some (s,true)
 |t::l,s=>match cb t s with|some (s',true)=>A9 cb l s'|some (s',false)=>some (s',false)|none=>none
theorem D2 {σ:Type} {cb:List Int->σ->Option (σ×Bool)}: ∀(l l':List (List Int)) (s:σ),A9 cb (l++l') s=match A9 cb l s with|some (s',true)=>A9 cb l' s'|some (s',false)=>some (s',false)|none=>none
 | [],l',s=>rfl
 |t::l,l',s=>by
  simp only[List.cons_append,A9]
  cases hc:cb t s with
  |none=>rfl
  |some q=>
   obtain⟨s',b⟩:=q
   cases b with
   |false=>rfl
   |true=>exact D2 l l' s'
def Ds (given:List Int) (at' x:Nat):Bool:=!(decide (given.getD at' 0≥0)&&given.getD at' 0 !=(x:Int))
def CS (n:Nat) (given:List Int) (ok:List Int->Bool):Nat->List Int->List (List Int)
 |0,pre=> [pre]
 |m+1,pre=>(List.range n).flatMap λx=>if Ds given pre.length x&&ok (pre++ [(x:Int)])then CS n given ok m (pre++ [(x:Int)])else []
section
variable {n k:Nat} {rels:List Bb} {given:List Int}
def okB (n k:Nat) (rels:List Bb) (pre:List Int):Bool:=GL n k rels (pre.length-1) pre
theorem ME (h:RelsOk n k rels) (hg:given.length=n^k) {σ:Type} (cb:List Int->σ->Option (σ×Bool)): ∀(m d at':Nat) (tab:List Int) (s:σ),at'+m=n^k->m<d->tab.length=n^k->(∀x∈tab,0<=x/\x<256)->
    ∀s' b,A9 cb (CS n given (okB n k rels) m (tab.take at')) s=some (s',b)->
    ∃tab':List Int,tab'.length=n^k/\(∀x∈tab',0<=x/\x<256)/\tab'.take at'=tab.take at'/\gF cb d ((at':Int),tab,s,(true,(n:Int),(k:Int),Et n k rels),given,())=some (tab',s',(true,(n:Int),(k:Int),Et n k rels),given,b):=by
  have hn:=h.hn
  have hp:=Dz (n:=n) (k:=k) hn.2 h.hk.2
  intro m
  induction m with
  |zero=>
    intro d a tab s ha hd ht hv s' b hf
    obtain⟨d,rfl⟩: ∃z,d=z+1:=⟨d-1,by omega⟩
    have e:tab.take a=tab:=List.take_of_length_le (by omega)
    rw[e]at hf
    simp only[CS,A9]at hf
    refine⟨tab,ht,hv,rfl,?_⟩
    simp only[gF,Jr]
    rw[if_pos (by simp;omega)]
    cases hc:cb tab s with
    |none=>rw[hc]at hf;exact absurd hf (by simp)
    |some q=>
      obtain⟨s1,b1⟩:=q
      rw[hc]at hf
      have:s1=s'/\b1=b:=by cases b1<;>simpa using hf
      obtain⟨rfl,rfl⟩:=this
      rfl
  |succ m ih=>
    intro d a tab s ha hd ht hv s' b hf
    obtain⟨d,rfl⟩: ∃z,d=z+1:=⟨d-1,by omega⟩
    have hat:a<n^k:=by omega
    have key: ∀(c x f:Nat) (tab1:List Int) (s1:σ),x+c=n->c<f->tab1.length=n^k->(∀x∈tab1,0<=x/\x<256)->tab1.take a=tab.take a-> ∀s' b,
        A9 cb ((List.range' x c).flatMap λx=>if Ds given (tab.take a).length x&&okB n k rels (tab.take a++ [(x:Int)])then CS n given (okB n k rels) m (tab.take a++ [(x:Int)])else []) s1=some (s',b)->
        ∃tab':List Int,tab'.length=n^k/\(∀x∈tab',0<=x/\x<256)/\tab'.take a=tab.take a/\gL (gF cb d) f ((a:Int),tab1,s1,(true,(n:Int),(k:Int),Et n k rels),given,(),(x:Int))=some (if b then .inl (tab',s',(true,(n:Int),(k:Int),Et n k rels),given,())else .inr (tab',s',(true,(n:Int),(k:Int),Et n k rels),given,(),false)):=by
      intro c
      induction c with
      |zero=>
        intro x f tab1 s1 hx hf1 ht1 hv1 htk s' b hf2
        obtain⟨f,rfl⟩: ∃z,f=z+1:=⟨f-1,by omega⟩
        have:s1=s'/\true=b:=by simpa[A9]using hf2
        obtain⟨rfl,rfl⟩:=this
        refine⟨tab1,ht1,hv1,htk,?_⟩
        simp only[gL]
        rw[if_pos trivial,if_neg (by simp;omega)];rfl
      |succ c ihc=>
        intro x f tab1 s1 hx hf1 ht1 hv1 htk s' b hf2
        obtain⟨f,rfl⟩: ∃z,f=z+1:=⟨f-1,by omega⟩
        have hlen:(tab.take a).length=a:=by rw[List.length_take];omega
        have hag:a<given.length:=by omega
        have hat1:a<tab1.length:=by omega
        rw[List.range'_succ,List.flatMap_cons,D2,hlen]at hf2
        rw[hlen]at ihc
        have hset:(tab1.set a (x:Int)).take (a+1)=tab.take a++ [(x:Int)]:=by
          rw[List.take_succ_eq_append_getElem (by simp;omega),List.take_set_of_le (Nat.le_refl _),List.getElem_set_self,htk]
        have hsl:(tab1.set a (x:Int)).length=n^k:=by simp[ht1]
        have hsv: ∀y∈tab1.set a (x:Int),0<=y/\y<256:=λy hy=>by
          rcases List.mem_or_eq_of_mem_set hy with h1|h1
          · exact hv1 y h1
          · subst h1;omega
        have hst:(tab1.set a (x:Int)).take a=tab.take a:=by rw[List.take_set_of_le (Nat.le_refl _),htk]
        have hfit:=Lh h hsl hsv hat
        have hokB:okB n k rels (tab.take a++ [(x:Int)])=GL n k rels a (tab1.set a (x:Int)):=by
          unfold okB
          rw[List.length_append,hlen,List.length_singleton,Nat.add_sub_cancel,←hset,HX]
        have hw:w64 ((x:Int)+1)=((x+1:Nat):Int):=Ab (by omega)
        have hwa:w64 ((a:Int)+1)=((a+1:Nat):Int):=Ab (by omega)
        have step : Ds given a x = true → ∀ R, R = (AT (true, (n : Int), (k : Int), Et n k rels) (tab1.set a (x : Int)) (a : Int)).bind (fun r4 =>
                if r4 then
                  (gF cb d (w64 ((a:Int)+1),tab1.set a (x:Int),s1,(true,(n:Int),(k:Int),Et n k rels),given,())).bind λr5=>
                    if !r5.2.2.2.2 then
                      some (.inr (r5.1,r5.2.1,r5.2.2.1,r5.2.2.2.1,(),false))
                    else
                      gL (gF cb d) f ((a:Int),r5.1,r5.2.1,r5.2.2.1,r5.2.2.2.1,(),w64 ((x:Int)+1))
                else
                  gL (gF cb d) f ((a:Int),tab1.set a (x:Int),s1,(true,(n:Int),(k:Int),Et n k rels),given,(),w64 ((x:Int)+1)))->
            ∃tab':List Int,tab'.length=n^k/\(∀x∈tab',0<=x/\x<256)/\tab'.take a=tab.take a/\R=some (if b then .inl (tab',s',(true,(n:Int),(k:Int),Et n k rels),given,())else .inr (tab',s',(true,(n:Int),(k:Int),Et n k rels),given,(),false)):=by
          intro hm R hR
          rw[hfit]at hR
          simp only[Option.bind_some]at hR
          rw[hm,hokB]at hf2
          cases hfi:GL n k rels a (tab1.set a (x:Int))with
          |false=>
            rw[hfi]at hf2 hR
            simp only[Bool.and_false,Bool.false_eq_true,if_false,A9]at hf2 hR
            rw[hw]at hR
            rw[hR]
            exact ihc (x+1) f _ s1 (by omega) (by omega) hsl hsv hst s' b hf2
          |true=>
            rw[hfi]at hf2 hR
            simp only[Bool.and_true,if_true]at hf2 hR
            rw[hwa]at hR
            cases hq:A9 cb (CS n given (okB n k rels) m (tab.take a++ [(x:Int)])) s1 with
            |none=>rw[hq]at hf2;exact absurd hf2 (by simp)
            |some q=>
              obtain⟨s2,b2⟩:=q
              rw[hq]at hf2
              rw[←hset]at hq
              obtain⟨tab2,h1,h2,h3,h4⟩:=ih d (a+1) _ s1 (by omega) (by omega) hsl hsv s2 b2 hq
              have h3':tab2.take a=tab.take a:=by
                have:=congrArg (List.take a) h3
                rw[List.take_take,List.take_take,Nat.min_eq_left (by omega)]at this
                rw[this,hst]
              rw[h4]at hR
              simp only[Option.bind_some]at hR
              cases b2 with
              |false=>
                have:s2=s'/\false=b:=by simpa using hf2
                obtain⟨rfl,rfl⟩:=this
                refine⟨tab2,h1,h2,h3',?_⟩
                rw[hR];rfl
              |true=>
                simp only[Bool.not_true,Bool.false_eq_true,if_false,hw]at hR
                rw[hR]
                exact ihc (x+1) f tab2 s2 (by omega) (by omega) h1 h2 h3' s' b hf2
        simp only[gL,BD,Ac,hag,hat1,if_true]
        rw[if_pos (by simp;omega)]
        by_cases hc1:gd given (a:Int) 0≥0
        · rw[if_pos (decide_eq_true hc1)]
          by_cases hc2:gd given (a:Int) 0=(x:Int)
          · rw[if_neg (by simpa using hc2)]
            exact step (by unfold Ds;rw[show given.getD a 0=(x:Int) from hc2];simp) _ rfl
          · rw[if_pos (by simpa using hc2),hw]
            have hm:Ds given a x=false:=by
              unfold Ds
              rw[decide_eq_true (show given.getD a 0≥0 from hc1)]
              simp only[Bool.true_and,Bool.not_eq_false',bne_iff_ne];exact hc2
            rw[hm]at hf2
            simp only[Bool.false_and,Bool.false_eq_true,if_false,A9]at hf2
            exact ihc (x+1) f tab1 s1 (by omega) (by omega) ht1 hv1 htk s' b hf2
        · rw[if_neg (by simpa using hc1)]
          exact step (by unfold Ds;rw[decide_eq_false (show¬given.getD a 0≥0 from hc1)];rfl) _ rfl
    simp only[CS]at hf
    rw[List.range_eq_range']at hf
    obtain⟨tab',h1,h2,h3,h4⟩:=key n 0 Aa tab s (by omega) (by unfold Aa;omega) ht hv rfl s' b hf
    refine⟨tab',h1,h2,h3,?_⟩
    simp only[gF,Jr]
    rw[if_neg (by simp;omega)]
    have h4:gL (gF cb d) Aa ((a:Int),tab,s,(true,(n:Int),(k:Int),Et n k rels),given,(),0)=_:=h4
    rw[h4]
    cases b<;>rfl
end
end T
open Go Go.Va
namespace T
section
variable {n k:Nat} {rels:List Bb} {given:List Int}
theorem Hx {m:Nat} {r:Bb} (h:ROk n m r) {t:List Int} (ht:t.length=m):DZ r t=some (decide (t∈r.2)):=by
 have hm:=h.hm
 have har:=h.ar
 have hmany:=h.many
 unfold DZ
 obtain⟨q,h3,_⟩:=EJ (list:=r.2) (t:=t) (k:=m) (by omega) (by omega) h.tl ht h.inc
 rw[if_neg (by simp;omega),h3];rfl
theorem KD (h:RelsOk n k rels) {tab:List Int} {at':Nat} (ht:tab.length=at'+1):DE ((Ey n k rels).getD at' []) tab=some (okB n k rels tab):=by
 obtain⟨hlen,hroom⟩:=It h
 have hkey: ∀d∈(Ey n k rels).getD at' [],∃r∈rels,∃j,j<r.2.length^k/\Bu (PL n k r j)=at'/\d=(cI (PL n k r j),r)/\(∀v∈d.1,0<=v/\v<tab.length)/\d.1.length<=3/\DZ d.2 (d.1.map (Aq tab))=some (decide (d.1.map (Aq tab)∈d.2.2)):=λd hd=>by
  obtain⟨r,hr,j,hj,hla,rfl⟩:=(Iu h at' d).1 hd
  have hrk:=h.ok r hr
  have hm:=hrk.hm
  have hpl: ∀v∈cI (PL n k r j),0<=v/\v<tab.length:=λv hv=>by
   unfold cI at hv
   obtain⟨y,hy,rfl⟩:=List.mem_map.1 hv
   have:=(FN (PL n k r j) 0).2 y hy
   unfold Bu at hla
   omega
  refine⟨r,hr,j,hj,hla,rfl,hpl,by rw[Dk,hrk.pl_len];omega,Hx hrk (by rw[List.length_map,Dk,hrk.pl_len])⟩
 have e:okB n k rels tab=((Ey n k rels).getD at' []).all λd=>decide (d.1.map (Aq tab)∈d.2.2):=by
  rw[Bool.eq_iff_iff,List.all_eq_true]
  unfold okB GL
  rw[show tab.length-1=at' by omega]
  simp only[List.all_eq_true,Bool.or_eq_true,Bool.not_eq_true',decide_eq_false_iff_not,decide_eq_true_eq,List.mem_range]
  constructor
  ·intro h1 d hd
   obtain⟨r,hr,j,hj,hla,e1,_⟩:=hkey d hd
   rw[e1]
   rcases h1 r hr j hj with h3|h3
   ·exact absurd hla h3
   ·exact h3
  ·intro h1 r hr j hj
   by_cases hla:Bu (PL n k r j)=at'
   ·right
    exact h1 _ ((Iu h at' (cI (PL n k r j),r)).2 ⟨r,hr,j,hj,hla,rfl⟩)
   ·exact .inl hla
 have hro:=hroom at'
 rw[e]
 generalize (Ey n k rels).getD at' []=l at hkey hro
 unfold DE
 have:=Fa l (λf i=>Cm f (l,tab,i)) (λd=>decide (d.1.map (Aq tab)∈d.2.2)) (.inr false) (.inl ()) (λf i hi=>?_) (λf=>?_) (n:=Aa) (by unfold Aa;omega)
 ·have this:Cm Aa (l,tab,0)=_:=this
  rw[this]
  cases l.all λd=>decide (d.1.map (Aq tab)∈d.2.2)<;>rfl
 ·obtain⟨r,hr,j,hj,hla,e1,h1,h2,h3⟩:=hkey _ (List.getElem_mem hi)
  have h6:=CO l[i].1.length (λf (o:List Int) q=>Cn f (l,tab,(i:Int),o,q)) (λq=>(l[i].1.take q).map (Aq tab)) (r:=some (l,tab,(i:Int),l[i].1.map (Aq tab))) (λf q hq=>?_) (λf=>?_) (n:=Aa) (by unfold Aa;omega)
  ·have h6:Cn Aa (l,tab,(i:Int),[],0)=_:=h6
   simp only[Cm,h6,Option.bind_some,Ac,hi,Ai hi,h3,Ab (show i<4611686018427387904 by omega),if_true]
   rw[if_pos (by simp;omega)]
   by_cases hc:l[i].1.map (Aq tab)∈l[i].2.2
   ·rw[decide_eq_true hc];simp
   ·rw[decide_eq_false hc];simp
  ·obtain⟨hv0,hv1⟩:=h1 _ (List.getElem_mem hq)
   have hin:inb l[i].1[q] tab:=⟨hv0,hv1⟩
   have hval:gd tab l[i].1[q] 0=Aq tab l[i].1[q]:=rfl
   have htk:(l[i].1.take (q+1)).map (Aq tab)=(l[i].1.take q).map (Aq tab)++ [Aq tab l[i].1[q]]:=by
    rw[List.take_succ_eq_append_getElem hq,List.map_append];rfl
   simp only[Cn,Ac,hi,Ai hi,hq,Ai hq,hin,hval,htk,if_true,Ab (show q<4611686018427387904 by omega)]
   rw[if_pos (by simp;omega),if_pos (by simp;unfold lim;omega)]
  ·simp only[Cn,Ac,hi,Ai hi,List.take_length,if_true]
   rw[if_neg (by simp)]
 ·simp[Cm]
abbrev SS:=List (List Int)×Int×Int
def EU (s:SS):Bool:=s.2.2==1&&decide (s.2.1>0)
def sCb (t:List Int) (s:SS):Option (SS×Bool):=
 let s':SS:=(if decide ((s.1.length:Int)<s.2.2)then s.1++ [t]else s.1,s.2.1+1,s.2.2)
 some (s',!EU s')
theorem HU: ∀(l:List (List Int)) (s s':SS) (b:Bool),A9 sCb l s=some (s',b)->s.2.1<=s'.2.1/\s'.2.1<=s.2.1+l.length/\s'.1.length<=s.1.length+l.length/\s'.2.2=s.2.2/\(EU s=false->b=!EU s')
 | [],s,s',b,h=>by
  have:s=s'/\true=b:=by simpa[A9]using h
  obtain⟨rfl,rfl⟩:=this
  exact⟨by omega,by simp,by simp,rfl,λh=>by simp[h]⟩
 |t::l,s,s',b,h=>by
  simp only[A9,sCb]at h
  generalize hs1:((if decide ((s.1.length:Int)<s.2.2)then s.1++ [t]else s.1,s.2.1+1,s.2.2):SS)=s1 at h
  have h1:s1.2.1=s.2.1+1:=by rw[←hs1]
  have h2:s1.1.length<=s.1.length+1:=by
   rw[←hs1]
   show(if decide ((s.1.length:Int)<s.2.2)then s.1++ [t]else s.1).length<=_
   split<;>simp
  have h3:s1.2.2=s.2.2:=by rw[←hs1]
  cases hb:EU s1 with
  |true=>
   rw[hb]at h
   have:s1=s'/\false=b:=by simpa using h
   obtain⟨rfl,rfl⟩:=this
   rw[List.length_cons]
   exact⟨by omega,by omega,by omega,h3,λ_=>by rw[hb];rfl⟩
  |false=>
   rw[hb]at h
   obtain⟨g1,g2,g3,g4,g5⟩:=HU l s1 s' b h
   rw[List.length_cons]
   exact⟨by omega,by push_cast;omega,by omega,by omega,λ_=>g5 hb⟩
theorem GI: ∀(l:List (List Int)) (s:SS),∃q,A9 sCb l s=some q
 | [],s=>⟨_,rfl⟩
 |t::l,s=>by
  simp only[A9,sCb]
  generalize ((if decide ((s.1.length:Int)<s.2.2)then s.1++ [t]else s.1,s.2.1+1,s.2.2):SS)=s1
  cases hb:EU s1 with
  |true=>exact⟨_,rfl⟩
  |false=>exact GI l s1
theorem MF (h:RelsOk n k rels) (hg:given.length=n^k): ∀(m d:Nat) (pre:List Int) (s:SS),pre.length+m=n^k->m<d->EU s=false->0<=s.2.1->s.2.2<=1000000->s.2.1+(CS n given (okB n k rels) m pre).length<=4611686018427387904->
    ∀s' b,A9 sCb (CS n given (okB n k rels) m pre) s=some (s',b)->BZ d ((n:Int),Ey n k rels,given,pre,s)=some s':=by
  have hn:=h.hn
  have hp:=Dz (n:=n) (k:=k) hn.2 h.hk.2
  obtain⟨hlenN,_⟩:=It h
  intro m
  induction m with
  |zero=>
    intro d pre s hpre hd hst h0 hr1 hr2 s' b hf
    obtain⟨d,rfl⟩: ∃z,d=z+1:=⟨d-1,by omega⟩
    simp only[CS,A9,sCb]at hf
    simp only[BZ,Ev]
    simp only[CS,List.length_singleton]at hr2
    have hs':s'=(if decide ((s.1.length:Int)<s.2.2)then s.1++ [pre]else s.1,s.2.1+1,s.2.2):=by
      cases hb:EU ((if decide ((s.1.length:Int)<s.2.2)then s.1++ [pre]else s.1,s.2.1+1,s.2.2):SS)<;>rw[hb]at hf<;>simp at hf<;>rw[←hf.1]<;>simp
    have hw:w64 (s.2.1+1)=s.2.1+1:=AL (by omega) (by omega)
    rw[if_pos (by simp;omega),hs',hw,DH (by omega)]
    by_cases hc:(s.1.length:Int)<s.2.2
    · rw[if_pos (decide_eq_true hc),if_pos (decide_eq_true hc)]
      simp only[Option.bind_some]
      rw[if_pos (by rw[List.length_singleton];unfold lim;omega)]
    · rw[if_neg (by simpa using hc),if_neg (by simpa using hc)]
  |succ m ih=>
    intro d pre s hpre hd hst h0 hr1 hr2 s' b hf
    obtain⟨d,rfl⟩: ∃z,d=z+1:=⟨d-1,by omega⟩
    have hat:pre.length<n^k:=by omega
    have key: ∀(c x f:Nat) (s1:SS),x+c=n->c<f->EU s1=false->0<=s1.2.1->
        s1.2.2<=1000000->
        s1.2.1+((List.range' x c).flatMap λx=>if Ds given pre.length x&&okB n k rels (pre++ [(x:Int)])then CS n given (okB n k rels) m (pre++ [(x:Int)])else []).length<=4611686018427387904-> ∀s' b,
        A9 sCb ((List.range' x c).flatMap λx=>if Ds given pre.length x&&okB n k rels (pre++ [(x:Int)])then CS n given (okB n k rels) m (pre++ [(x:Int)])else []) s1=some (s',b)->
        Av (BZ d) f ((n:Int),Ey n k rels,given,pre,s1,([],(0,0)),(pre.length:Int),(x:Int))=some (if b then .inl (s',([],(0,0)))else .inr s'):=by
      intro c
      induction c with
      |zero=>
        intro x f s1 hx hf1 hst1 h01 hr1 hr2 s' b hf2
        obtain⟨f,rfl⟩: ∃z,f=z+1:=⟨f-1,by omega⟩
        have:s1=s'/\true=b:=by simpa[A9]using hf2
        obtain⟨rfl,rfl⟩:=this
        simp only[Av]
        rw[if_neg (by simp;omega)];rfl
      |succ c ihc=>
        intro x f s1 hx hf1 hst1 h01 hr1 hr2 s' b hf2
        obtain⟨f,rfl⟩: ∃z,f=z+1:=⟨f-1,by omega⟩
        have hag:pre.length<given.length:=by omega
        have haN:pre.length<(Ey n k rels).length:=by omega
        rw[List.range'_succ,List.flatMap_cons,D2]at hf2
        rw[List.range'_succ,List.flatMap_cons,List.length_append]at hr2
        have hol:=KD h (tab:=pre++ [(x:Int)]) (at':=pre.length) (by simp)
        have hw:w64 ((x:Int)+1)=((x+1:Nat):Int):=Ab (by omega)
        have step : Ds given pre.length x = true → ∀ R, R = (DE (gd (Ey n k rels) (pre.length : Int) []) (pre ++ [(x : Int)])).bind (fun r6 =>
                  if r6 then
                    (BZ d ((n:Int),Ey n k rels,given,pre++ [(x:Int)],(s1.1,(s1.2.1,s1.2.2)))).bind λr7=>
                      if r7.2.2==1 then
                        if decide (r7.2.1>0)then
                          some (.inr (r7.1,(r7.2.1,r7.2.2)))
                        else
                          Av (BZ d) f ((n:Int),Ey n k rels,given,pre,(r7.1,(r7.2.1,r7.2.2)),([],(0,0)),(pre.length:Int),w64 ((x:Int)+1))
                      else
                        Av (BZ d) f ((n:Int),Ey n k rels,given,pre,(r7.1,(r7.2.1,r7.2.2)),([],(0,0)),(pre.length:Int),w64 ((x:Int)+1))
                  else
                    if s1.2.2==1 then
                      if decide (s1.2.1>0)then
                        some (.inr (s1.1,(s1.2.1,s1.2.2)))
                      else
                        Av (BZ d) f ((n:Int),Ey n k rels,given,pre,(s1.1,(s1.2.1,s1.2.2)),([],(0,0)),(pre.length:Int),w64 ((x:Int)+1))
                    else
                      Av (BZ d) f ((n:Int),Ey n k rels,given,pre,(s1.1,(s1.2.1,s1.2.2)),([],(0,0)),(pre.length:Int),w64 ((x:Int)+1)))->
            R=some (if b then .inl (s',([],(0,0)))else .inr s'):=by
          intro hm R hR
          have hgd:gd (Ey n k rels) (pre.length:Int) []=(Ey n k rels).getD pre.length []:=rfl
          rw[hgd,hol]at hR
          simp only[Option.bind_some,hw]at hR
          rw[hm]at hf2 hr2
          have hnst: ∀(z:SS) {γ:Type} (A B:γ),EU z=false->(if z.2.2==1 then if decide (z.2.1>0)then A else B else B)=B:=λz γ A B hz=>by
            unfold EU at hz
            by_cases h1:z.2.2=1
            · rw[if_pos (by simpa using h1),if_neg (by simp[h1]at hz;simpa using hz)]
            · rw[if_neg (by simpa using h1)]
          have hyst: ∀(z:SS) {γ:Type} (A B:γ),EU z=true->(if z.2.2==1 then if decide (z.2.1>0)then A else B else B)=A:=λz γ A B hz=>by
            unfold EU at hz
            simp only[Bool.and_eq_true]at hz
            rw[if_pos hz.1,if_pos hz.2]
          cases hfi:okB n k rels (pre++ [(x:Int)])with
          |false=>
            rw[hfi]at hf2 hr2 hR
            simp only[Bool.and_false,Bool.false_eq_true,if_false,A9,List.length_nil,Nat.zero_add]at hf2 hr2 hR
            rw[hnst s1 _ _ hst1]at hR
            rw[hR]
            exact ihc (x+1) f s1 (by omega) (by omega) hst1 h01 hr1 hr2 s' b hf2
          |true=>
            rw[hfi]at hf2 hr2 hR
            simp only[Bool.and_true,if_true]at hf2 hr2 hR
            obtain⟨⟨s2,b2⟩,hq⟩:=GI (CS n given (okB n k rels) m (pre++ [(x:Int)])) s1
            obtain⟨g1,g2,g3,g4,g5⟩:=HU _ _ _ _ hq
            have g5:=g5 hst1
            rw[hq]at hf2
            have hrec:=ih d (pre++ [(x:Int)]) s1 (by simp;omega) (by omega) hst1 h01 (by omega) (by push_cast at hr2;omega) s2 b2 hq
            have hrec:BZ d ((n:Int),Ey n k rels,given,pre++ [(x:Int)],(s1.1,(s1.2.1,s1.2.2)))=some s2:=hrec
            rw[hrec]at hR
            simp only[Option.bind_some]at hR
            cases hb2:EU s2 with
            |true=>
              rw[hb2]at g5
              subst g5
              have:s2=s'/\false=b:=by simpa using hf2
              obtain⟨rfl,rfl⟩:=this
              rw[hyst s2 _ _ hb2]at hR
              rw[hR];rfl
            |false=>
              rw[hb2]at g5
              subst g5
              rw[hnst s2 _ _ hb2]at hR
              rw[hR]
              exact ihc (x+1) f s2 (by omega) (by omega) hb2 (by omega) (by push_cast at hr2;omega) (by push_cast at hr2;omega) s' b hf2
        simp only[Av,Ac,hag,haN,if_true,DH (show pre.length<=1099511627775 by omega),Option.bind_some]
        rw[if_pos (by simp;omega)]
        have hlim:pre.length+ [(x:Int)].length<=lim:=by rw[List.length_singleton];unfold lim;omega
        rw[if_pos hlim]
        by_cases hc1:gd given (pre.length:Int) 0≥0
        · rw[if_pos (decide_eq_true hc1)]
          by_cases hc2:gd given (pre.length:Int) 0=(x:Int)
          · rw[if_neg (by simpa using hc2)]
            exact step (by unfold Ds;rw[show given.getD pre.length 0=(x:Int) from hc2];simp) _ rfl
          · rw[if_pos (by simpa using hc2),hw]
            have hm:Ds given pre.length x=false:=by
              unfold Ds
              rw[decide_eq_true (show given.getD pre.length 0≥0 from hc1)]
              simp only[Bool.true_and,Bool.not_eq_false',bne_iff_ne];exact hc2
            rw[hm]at hf2 hr2
            simp only[Bool.false_and,Bool.false_eq_true,if_false,A9,List.length_nil,Nat.zero_add]at hf2 hr2
            exact ihc (x+1) f s1 (by omega) (by omega) hst1 h01 hr1 hr2 s' b hf2
        · rw[if_neg (by simpa using hc1)]
          exact step (by unfold Ds;rw[decide_eq_false (show¬given.getD pre.length 0≥0 from hc1)];rfl) _ rfl
    simp only[CS]at hf hr2
    rw[List.range_eq_range']at hf hr2
    have h4:=key n 0 Aa s (by omega) (by unfold Aa;omega) hst h0 hr1 hr2 s' b hf
    simp only[BZ,Ev]
    rw[if_neg (by simp;omega)]
    have h4:Av (BZ d) Aa ((n:Int),Ey n k rels,given,pre,(s.1,(s.2.1,s.2.2)),([],(0,0)),(pre.length:Int),0)=_:=h4
    rw[h4]
    cases b<;>rfl
end
end T
open Go Go.Va
namespace T
theorem Iv (rec): ∀f x,Ae rec f x=gL rec f x
 |0,_=>rfl
 |f+1,(a,b,c,d,e,g,x)=>by simp only[Ae,gL,Iv rec f]
abbrev FSq:=Unit×(Int×(Opn×Bool))
def JQ (t:List Int) (s:FSq):Option (FSq×Bool):=(Di t s.1 s.2.1 s.2.2.1 s.2.2.2).bind λr=>some (((),(r.1,(r.2.1,r.2.2.1))),r.2.2.2)
theorem Km: ∀d x,Ak d x=gF JQ d x
 |0,_=>rfl
 |d+1,(a,t,(s1,(s2,(s3,s4))),ps,g,u)=>by
  have e:Ak d=gF JQ d:=funext λx=>Km d x
  simp only[Ak,gF,Jr,AN,Iv,e]
  split
  ·unfold JQ;cases Di t s1 s2 s3 s4<;>rfl
  ·congr 1;funext z;cases z<;>rfl
section
variable {n k:Nat} {rels:List Bb} {given:List Int}
theorem Id {ok:List Int->Bool}: ∀(m:Nat) (pre:List Int),(CS n given ok m pre).length<=n^m
 |0,pre=>by simp[CS]
 |m+1,pre=>by
  simp only[CS]
  have key: ∀(l:List Nat),(l.flatMap λx=>if Ds given pre.length x&&ok (pre++ [(x:Int)])then CS n given ok m (pre++ [(x:Int)])else []).length<=l.length*n^m:=by
   intro l
   induction l with
   |nil=>simp
   |cons x l ih=>
    rw[List.flatMap_cons,List.length_append,List.length_cons,Nat.succ_mul]
    have:(if Ds given pre.length x&&ok (pre++ [(x:Int)])then CS n given ok m (pre++ [(x:Int)])else []).length<=n^m:=by
     split
     ·exact Id m _
     ·simp
    omega
  have:=key (List.range n)
  rw[List.length_range]at this
  rw[Nat.pow_succ,Nat.mul_comm]
  exact this
theorem Ie {ok:List Int->Bool}: ∀(m:Nat) (pre t:List Int),t∈CS n given ok m pre->t.length=pre.length+m/\((∀x∈pre,0<=x/\x<(n:Int))-> ∀x∈t,0<=x/\x<(n:Int))
 |0,pre,t,h=>by simp only[CS,List.mem_singleton]at h;subst h;exact⟨rfl,λh=>h⟩
 |m+1,pre,t,h=>by
  simp only[CS,List.mem_flatMap]at h
  obtain⟨x,hx,h⟩:=h
  have hx:=List.mem_range.1 hx
  split at h
  ·obtain⟨h1,h2⟩:=Ie m _ t h
   refine⟨by rw[h1];simp;omega,λhp=>h2 λy hy=>?_⟩
   rcases List.mem_append.1 hy with h3|h3
   ·exact hp y h3
   ·rw[List.mem_singleton.1 h3];omega
  ·simp at h
def Yhi (n k:Nat) (rels:List Bb) (given:List Int):List (List Int):=CS n given (okB n k rels) (n^k) []
theorem Ip {t:List Int} (h:t∈Yhi n k rels given):t.length=n^k/\ ∀x∈t,0<=x/\x<(n:Int):=by
 obtain⟨h1,h2⟩:=Ie _ _ _ h
 exact⟨by rw[h1];simp,h2 λx hx=>by simp at hx⟩
theorem Kh:(Yhi n k rels given).length<=n^n^k:=Id _ _
theorem JP (l:List (List Int)):A9 sCb l ([],0,1)=some (match l with| []=>(([],0,1),true)|t::_=>(([t],1,1),false)):=by
 cases l with
 |nil=>rfl
 |cons t l=>rfl
theorem Hy (h:RelsOk n k rels) (hg:given.length=n^k) (hz:n^n^k<=4611686018427387904) {most:Int} (hm:most<=1000000):
  ∃s b,A9 sCb (Yhi n k rels given) ([],0,most)=some (s,b)/\Er (n:Int) rels (k:Int) given most=some s:=by
 obtain⟨⟨s,b⟩,hf⟩:=GI (Yhi n k rels given) ([],0,most)
 refine⟨s,b,hf,?_⟩
 have:=MF h hg (n^k) Aa [] ([],0,most) (by simp) (by have:=Dz (n:=n) (k:=k) h.hn.2 h.hk.2;unfold Aa;omega) (by unfold EU;simp) (by simp) hm (by have:=Kh (n:=n) (k:=k) (rels:=rels) (given:=given);unfold Yhi at this;simp;omega) s b hf
 unfold Er
 rw[GP h]
 simp only[Option.bind_some,this]
theorem Ld (h:RelsOk n k rels) (hg:given.length=n^k) {σ:Type} (cb:List Int->σ->Option (σ×Bool)) {s s':σ} {b:Bool} (hf:A9 cb (Yhi n k rels given) s=some (s',b)):
  ∃r:Ke σ,gF cb Aa (0,List.replicate (Int.toNat (given.length:Int)) (0:Int),s,(true,(n:Int),(k:Int),Et n k rels),given,())=some r/\r.2.1=s':=by
 have hp:=Dz (n:=n) (k:=k) h.hn.2 h.hk.2
 obtain⟨tab',h1,h2,h3,h4⟩:=ME h hg cb (n^k) Aa 0 (List.replicate (Int.toNat (given.length:Int)) (0:Int)) s (by omega) (by unfold Aa;omega) (by rw[List.length_replicate,hg,Int.toNat_natCast]) (λx hx=>by rw[(List.mem_replicate.1 hx).2];omega) s' b hf
 exact⟨_,h4,rfl⟩
def Fd (k:Nat) (l:List (List Int)):Opn×Bool:=match l with| []=>((0,[]),false)|t::_=>(((k:Int),t),true)
theorem Gu (h:RelsOk n k rels) (hg:given.length=n^k):BE (n:Int) rels (k:Int) given ()=some (Fd k (Yhi n k rels given)):=by
 have hp:=Dz (n:=n) (k:=k) h.hn.2 h.hk.2
 have hf: ∃s b,A9 JQ (Yhi n k rels given) ((),((k:Int),((0,[]),false)))=some (s,b)/\s=((),((k:Int),((Fd k (Yhi n k rels given)).1,(Fd k (Yhi n k rels given)).2))):=by
  have hlen: ∀t∈Yhi n k rels given,t.length<=1000:=λt ht=>by rw[(Ip ht).1];omega
  generalize Yhi n k rels given=l at hlen
  cases l with
  |nil=>exact⟨_,_,rfl,rfl⟩
  |cons t l=>
   have hcl:Gj t=some t:=by
    unfold Gj
    have:=hlen t (by simp)
    rw[if_pos (by simp;unfold lim;omega)];simp
   simp only[A9,JQ,Di,hcl,GU,Option.bind_some]
   exact⟨_,_,rfl,rfl⟩
 obtain⟨s,b,h1,h2⟩:=hf
 obtain⟨r,h4,h5⟩:=Ld h hg JQ h1
 unfold BE Bd
 rw[Fw h]
 simp only[Option.bind_some,Km,h4]
 rw[if_pos (by unfold lim;omega)]
 simp only[Option.bind_some,h5,h2]
theorem IT (h:RelsOk n k rels) (hg:given.length=n^k) (hz:n^n^k<=4611686018427387904): ∃s:SS,Er (n:Int) rels (k:Int) given 1=some s/\(match Yhi n k rels given with| []=>s.2.1=0|t::_=>s.2.1=1/\s.1= [t]):=by
 obtain⟨s,b,h1,h2⟩:=Hy h hg hz (most:=1) (by omega)
 rw[JP]at h1
 refine⟨s,h2,?_⟩
 cases hc:Yhi n k rels given with
 |nil=>rw[hc]at h1;simp at h1;rw[←h1.1]
 |cons t l=>rw[hc]at h1;simp at h1;rw[←h1.1];exact⟨rfl,rfl⟩
end
end T
open Go Go.Va
namespace T
def JA (a:List Bb):Prop:=a.length<=1048576/\ ∀r∈a,JB r.2
def Ge (n:Int) (rels:List Bb):Bool:=decide (1<=n/\n<=4)&&decide (rels.length<=4)&&rels.all (Fz n)
def IZ (k:Int) (rels:List Bb):Bool:=rels.all λr=>!(k==3&&decide ((r.2.length:Int)>12))
theorem Hi {n k:Int} {rels:List Bb} (h:JA rels):FE n rels k=some (Ge n rels&&IZ k rels):=by
 have hl:=h.1
 unfold FE CQ Fo Ge
 by_cases h1:1<=n/\n<=4
 ·rw[if_pos (by simp;omega)]
  simp only[Option.bind_some]
  rw[if_neg (by simp;omega)]
  by_cases h2:rels.length<=4
  ·rw[if_neg (by simp;omega)]
   have e1:=Fa rels (λf i=>Cu f (n,rels,(rels.length:Int),i)) (Fz n) (.inr false) (.inl ()) (λf i hi=>by
    have:=h.2 _ (List.getElem_mem hi)
    simp only[Cu,Ac,hi,Ai hi,EF (r:=(rels[i].1,rels[i].2)) this,Option.bind_some,Ab (show i<4611686018427387904 by omega)]
    rw[if_pos (by simp;omega)]
    cases Fz n rels[i]<;>simp) (λf=>by simp[Cu]) (n:=Aa) (by unfold Aa;omega)
   have e2:=Fa rels (λf i=>CT f (k,rels,(rels.length:Int),i)) (λr=>!(k==3&&decide ((r.2.length:Int)>12))) (.inr false) (.inl ()) (λf i hi=>by
    simp only[CT,Ac,hi,Ai hi,Ab (show i<4611686018427387904 by omega)]
    rw[if_pos (by simp;omega)]
    by_cases c1:k=3
    ·by_cases c2:(rels[i].2.length:Int)>12
     ·simp[c1,c2]
     ·simp[c1,c2]
    ·simp[c1]) (λf=>by simp[CT]) (n:=Aa) (by unfold Aa;omega)
   rw[e1]
   unfold IZ
   cases hr:rels.all (Fz n)with
   |false=>simp
   |true=>
    simp only[Option.bind_some,if_true,Bool.not_true,Bool.false_eq_true,if_false]
    rw[e2]
    cases rels.all λr=>!(k==3&&decide ((r.2.length:Int)>12))<;>simp[h1,h2]
  ·rw[if_pos (by simp;omega)]
   simp[h2]
 ·by_cases h2:n≥1
  ·rw[if_pos (by simpa using h2)]
   have: ¬n<=4:=by omega
   simp[this]
  ·rw[if_neg (by simpa using h2)]
   have: ¬1<=n:=by omega
   simp[this]
theorem GQ {n k:Int} {rels:List Bb} (h:JA rels):EY n rels k=some (Ge n rels&&decide (1<=k/\k<=3)&&IZ k rels):=by
 have hl:=h.1
 unfold EY Gz Gy Ge
 rw[Cj,Cj]
 by_cases h1:1<=n/\n<=4
 ·simp only[Option.bind_some]
  rw[if_neg (by simp;omega)]
  by_cases h2:rels.length<=4
  ·rw[if_neg (by simp;omega)]
   have e1:=Fa rels (λf i=>C9 f (n,rels,i)) (Fz n) (.inr false) (.inl ()) (λf i hi=>by
    have:=h.2 _ (List.getElem_mem hi)
    simp only[C9,Ac,hi,Ai hi,Fs (n:=n) this (by omega),Option.bind_some,Ab (show i<4611686018427387904 by omega)]
    rw[if_pos (by simp;omega)]
    cases Fz n rels[i]<;>simp) (λf=>by simp[C9]) (n:=Aa) (by unfold Aa;omega)
   have e2:=Fa rels (λf i=>Cq f (rels,k,i)) (λr=>!(k==3&&decide ((r.2.length:Int)>12))) (.inr false) (.inl ()) (λf i hi=>by
    simp only[Cq,Ac,hi,Ai hi,Ab (show i<4611686018427387904 by omega)]
    rw[if_pos (by simp;omega)]
    by_cases c1:k=3
    ·by_cases c2:(rels[i].2.length:Int)>12
     ·simp[c1,c2]
     ·simp[c1,c2]
    ·simp[c1]) (λf=>by simp[Cq]) (n:=Aa) (by unfold Aa;omega)
   rw[e1]
   unfold IZ
   cases hr:rels.all (Fz n)with
   |false=>simp
   |true=>
    simp only[Option.bind_some,if_true,Bool.not_true,Bool.false_eq_true,if_false]
    rw[e2]
    by_cases hk:1<=k/\k<=3
    ·rw[if_neg (by simp;omega)]
     cases rels.all λr=>!(k==3&&decide ((r.2.length:Int)>12))<;>simp[h1,h2,hk]
    ·rw[if_pos (by simp;omega)];simp[hk]
  ·rw[if_pos (by simp;omega)]
   simp[h2]
 ·simp[h1]
theorem JD {n:Int} {rels:List Bb} (h:Ge n rels=true):(1<=n/\n<=4)/\rels.length<=4/\ ∀r∈rels,ROk n.toNat r.1.toNat r:=by
 unfold Ge at h
 simp only[Bool.and_eq_true,decide_eq_true_eq,List.all_eq_true]at h
 obtain⟨⟨h1,h2⟩,h3⟩:=h
 refine⟨h1,h2,λr hr=>Mr (by omega) ?_⟩
 rw[Int.toNat_of_nonneg (by omega)];exact h3 r hr
theorem LD {n:Int} {rels:List Bb} {k:Nat} (h:Ge n rels=true) (hk:1<=k/\k<=3):RelsOk n.toNat k rels:=by
 obtain⟨h1,h2,h3⟩:=JD h
 exact⟨by omega,hk,by omega,h3⟩
theorem Kz {N:Nat} (h:N<=1000):ED (N:Int)=some (List.replicate N (-1)):=by
 unfold ED
 rw[Int.toNat_natCast,if_pos (by unfold lim;omega)]
 have:=CO N (λf o i=>B5 f (o,((List.replicate N (0:Int)).length:Int),i)) (λj=>List.replicate j (-1)++List.replicate (N-j) (0:Int)) (r:=some (List.replicate N (-1))) (λf j hj=>?_) (λf=>?_) (n:=Aa) (by unfold Aa;omega)
 ·have this:B5 Aa (List.replicate N (0:Int),((List.replicate N (0:Int)).length:Int),0)=_:=this
  rw[this];rfl
 ·have hin:j<(List.replicate j (-1)++List.replicate (N-j) (0:Int)).length:=by simp;omega
  have e:(List.replicate j (-1)++List.replicate (N-j) (0:Int)).set j (-1)=List.replicate (j+1) (-1)++List.replicate (N-(j+1)) (0:Int):=by
   rw[show N-j=(N-(j+1))+1 by omega,List.replicate_succ,List.set_append_right _ _ (by simp),List.replicate_succ']
   simp
  simp only[B5,Ac,hin,BD,e,if_true,Ab (show j<4611686018427387904 by omega)]
  rw[if_pos (by simp;omega)]
 ·simp only[B5]
  rw[if_neg (by simp)];simp
theorem KA {N:Nat} (h:N<=1000):Fi (N:Int)=some (List.replicate N (-1)):=by
 unfold Fi
 have:=CO N (λf o i=>CB f ((N:Int),o,i)) (λj=>List.replicate j (-1)) (r:=some (List.replicate N (-1))) (λf j hj=>?_) (λf=>?_) (n:=Aa) (by unfold Aa;omega)
 ·have this:CB Aa ((N:Int),[],0)=_:=this
  rw[this];rfl
 ·simp only[CB,List.replicate_succ',Ab (show j<4611686018427387904 by omega)]
  rw[if_pos (by simp;omega),if_pos (by simp;unfold lim;omega)]
 ·simp only[CB]
  rw[if_neg (by simp)]
end T
open Go Go.Va
namespace T
section
variable {n k:Int} {rels:List Bb}
theorem JL {k:Nat} {l:List (List Int)} (h: ∀t∈l,t.length<=1000):(Fd k l).1.2.length<=1000:=by
 unfold Fd
 cases l with
 |nil=>simp
 |cons t l=>exact h t (by simp)
theorem KV {n k:Nat} {rels:List Bb} {given:List Int} (h:RelsOk n k rels) (hg:given.length=n^k) (h9:n^n^k<=4611686018427387904):
  BE (n:Int) rels (k:Int) given ()=some (Fd k (Yhi n k rels given))/\
  ((Er (n:Int) rels (k:Int) given 1).bind λr6=>if r6.2.1==0 then some ((0,[]),false)else if inb 0 r6.1 then some (((k:Int),gd r6.1 0 []),true)else none)=some (Fd k (Yhi n k rels given))/\(Fd k (Yhi n k rels given)).1.2.length<=1000:=by
 have hp:=Dz h.hn.2 h.hk.2
 have hlen: ∀t∈Yhi n k rels given,t.length<=1000:=λt ht=>by rw[(Ip ht).1];omega
 obtain⟨s,h1,h2⟩:=IT h hg h9
 refine⟨Gu h hg,?_,JL hlen⟩
 rw[h1]
 simp only[Option.bind_some]
 cases hc:Yhi n k rels given with
 |nil=>rw[hc]at h2;rw[if_pos (by simp[h2])];rfl
 |cons t l=>
  rw[hc]at h2
  obtain⟨h3,h4⟩:=h2
  have hi:inb (0:Int) [t]:=⟨by omega,by simp⟩
  rw[if_neg (by simp[h3]),h4,if_pos hi];rfl
end
end T
open Go Go.Va
namespace T
section
variable {n:Nat} {rels:List Bb}
theorem KE (hn:n<=3) {x y z:Nat} (hx:x<n) (hy:y<n) (hz:z<n):
  w64 (w64 (w64 (w64 ((x:Int)*(n:Int))*(n:Int))+w64 ((y:Int)*(n:Int)))+(z:Int))=((x*n*n+y*n+z:Nat):Int)/\x*n*n+y*n+z<n*n*n/\n*n*n<=27:=by
 have h1:(x+1)*n<=n*n:=Nat.mul_le_mul_right _ hx
 have h2:(x*n+y+1)*n<=n*n*n:=Nat.mul_le_mul_right _ (by rw[Nat.succ_mul]at h1;omega)
 have h3:n*n<=3*3:=Nat.mul_le_mul hn hn
 have h4:n*n*n<=9*3:=Nat.mul_le_mul h3 hn
 have h5:y*n<=3*3:=Nat.mul_le_mul (by omega) hn
 have h6:x*n<=3*3:=Nat.mul_le_mul (by omega) hn
 have h7:x*n*n<=9*3:=Nat.mul_le_mul h6 hn
 rw[Nat.succ_mul,Nat.add_mul]at h2
 refine⟨?_,by omega,by omega⟩
 rw[←Int.natCast_mul,Jh (by omega),←Int.natCast_mul,Jh (by omega),←Int.natCast_mul,Jh (by omega),←Int.natCast_add,Jh (by omega),←Int.natCast_add,Jh (by omega)]
theorem Kl (hn:n<=3):w64 (w64 ((n:Int)*(n:Int))*(n:Int))=((n*n*n:Nat):Int):=by
 have h3:n*n<=3*3:=Nat.mul_le_mul hn hn
 have h4:n*n*n<=9*3:=Nat.mul_le_mul h3 hn
 rw[←Int.natCast_mul,Jh (by omega),←Int.natCast_mul,Jh (by omega)]
def FP (n i:Nat):Int:=
 if i/n/n%n=i/n%n then((i/n/n%n:Nat):Int)else if i/n/n%n=i%n then((i/n/n%n:Nat):Int)else if i/n%n=i%n then((i/n%n:Nat):Int)else-1
def EL (v:Nat->Int) (N j:Nat):List Int:=(List.range N).map λi=>if i<j then v i else-1
theorem K3 {v:Nat->Int} {N j:Nat} (h:j<N):(EL v N j).set j (v j)=EL v N (j+1):=by
 unfold EL
 apply List.ext_getElem
 ·simp
 ·intro i h1 h2
  rw[List.getElem_set]
  simp only[List.getElem_map,List.getElem_range]
  by_cases e:j=i
  ·subst e;rw[if_pos rfl,if_pos (by omega)]
  ·rw[if_neg e]
   by_cases e2:i<j
   ·rw[if_pos e2,if_pos (by omega)]
   ·rw[if_neg e2,if_neg (by omega)]
theorem J6 {v:Nat->Int} {N j:Nat} (h:v j= -1):EL v N (j+1)=EL v N j:=by
 unfold EL
 refine List.map_congr_left λi hi=>?_
 by_cases e:i=j
 ·subst e;rw[if_pos (by omega),if_neg (by omega),h]
 ·by_cases e2:i<j
  ·rw[if_pos e2,if_pos (by omega)]
  ·rw[if_neg e2,if_neg (by omega)]
theorem J7 {v:Nat->Int} {N:Nat}:EL v N 0=List.replicate N (-1):=by
 unfold EL
 apply List.ext_getElem<;>simp
theorem L4 (h1:1<=n) (hn:n<=3):Ao Aa ((n:Int),rels,(0,[]),List.replicate (n*n*n) (-1),((List.replicate (n*n*n) (-1:Int)).length:Int),0)=some ((n:Int),rels,(0,[]),EL (FP n) (n*n*n) (n*n*n)):=by
 have h27:=(KE hn (show 0<n by omega) (show 0<n by omega) (show 0<n by omega)).2.2
 have:=CO (n*n*n) (λf o i=>Ao f ((n:Int),rels,(0,[]),o,((List.replicate (n*n*n) (-1:Int)).length:Int),i)) (λj=>EL (FP n) (n*n*n) j) (r:=some ((n:Int),rels,(0,[]),EL (FP n) (n*n*n) (n*n*n))) (λf j hj=>?_) (λf=>?_) (n:=Aa) (by unfold Aa;omega)
 ·rw[J7]at this;exact this
 ·have ha:=FD (b:=n) (k:=3) (i:=j) (by omega) (by omega) (by omega)
  have ha:Em (j:Int) 3 (n:Int)=some [((j/n/n%n:Nat):Int),((j/n%n:Nat):Int),((j%n:Nat):Int)]:=by
   rw[show(3:Int)=((3:Nat):Int) from rfl,ha];simp[dg,cI]
  have hin:j<(EL (FP n) (n*n*n) j).length:=by simp[EL];exact hj
  have hs:=K3 (v:=FP n) hj
  generalize hA:j/n/n%n=A at ha
  generalize hB:j/n%n=B at ha
  generalize hC:j%n=C at ha
  have i0:inb (0:Int) [(A:Int),(B:Int),(C:Int)]:=⟨by omega,by simp⟩
  have i1:inb (1:Int) [(A:Int),(B:Int),(C:Int)]:=⟨by omega,by simp⟩
  have i2:inb (2:Int) [(A:Int),(B:Int),(C:Int)]:=⟨by omega,by simp⟩
  have g0:gd [(A:Int),(B:Int),(C:Int)] 0 0=(A:Int):=rfl
  have g1:gd [(A:Int),(B:Int),(C:Int)] 1 0=(B:Int):=rfl
  have g2:gd [(A:Int),(B:Int),(C:Int)] 2 0=(C:Int):=rfl
  have hv:FP n j=if A=B then(A:Int)else if A=C then(A:Int)else if B=C then(B:Int)else-1:=by unfold FP;rw[hA,hB,hC]
  simp only[Ao,ha,Option.bind_some,i0,i1,i2,g0,g1,g2,if_true,Ac,hin,BD,Ab (show j<4611686018427387904 by omega)]
  rw[if_pos (decide_eq_true (by rw[List.length_replicate];exact Int.ofNat_lt.2 hj))]
  by_cases c1:A=B
  ·rw[if_pos (by simp[c1]),←hs,hv,if_pos c1]
  ·rw[if_neg (by simp;omega)]
   by_cases c2:A=C
   ·rw[if_pos (by simp[c2]),←hs,hv,if_neg c1,if_pos c2]
   ·rw[if_neg (by simp;omega)]
    by_cases c3:B=C
    ·rw[if_pos (by simp[c3]),←hs,hv,if_neg c1,if_neg c2,if_pos c3]
    ·rw[if_neg (by simp;omega),J6 (by rw[hv,if_neg c1,if_neg c2,if_neg c3])]
 ·simp only[Ao]
  rw[if_neg (by simp)]
def Ik (n x:Nat) (o:List Int) (y:Nat):List Int:=((o.set (x*n*n+x*n+y) (x:Int)).set (x*n*n+y*n+x) (x:Int)).set (y*n*n+x*n+x) (x:Int)
theorem Ho {x:Nat}: ∀(l:List Nat) (o:List Int),(l.foldl (Ik n x) o).length=o.length
 | [],o=>rfl
 |y::l,o=>by rw[List.foldl_cons,Ho l];simp[Ik]
theorem IC: ∀(l:List Nat) (o:List Int),(l.foldl (λo x=>(List.range n).foldl (Ik n x) o) o).length=o.length
 | [],o=>rfl
 |y::l,o=>by rw[List.foldl_cons,IC l,Ho]
theorem Lo (h1:1<=n) (hn:n<=3):(List.range n).foldl (λo x=>(List.range n).foldl (Ik n x) o) (List.replicate (n*n*n) (-1))=EL (FP n) (n*n*n) (n*n*n):=by
 have:n=1∨n=2∨n=3:=by omega
 rcases this with rfl|rfl|rfl<;>decide+kernel
theorem MK (h1:1<=n) (hn:n<=3):AG Aa ((n:Int),rels,(0,[]),List.replicate (n*n*n) (-1),0)=some ((n:Int),rels,(0,[]),EL (FP n) (n*n*n) (n*n*n)):=by
 have i8: ∀(o:List Int) (x:Nat),o.length=n*n*n->x<n->AH Aa ((n:Int),rels,(0,[]),o,(x:Int),0)=some ((n:Int),rels,(0,[]),(List.range n).foldl (Ik n x) o,(x:Int)):=λo x ho hx=>by
  have:=CO n (λf o y=>AH f ((n:Int),rels,(0,[]),o,(x:Int),y)) (λj=>(List.range j).foldl (Ik n x) o) (r:=some ((n:Int),rels,(0,[]),(List.range n).foldl (Ik n x) o,(x:Int))) (λf y hy=>by
   obtain⟨a1,a2,_⟩:=KE hn hx hx hy
   obtain⟨b1,b2,_⟩:=KE hn hx hy hx
   obtain⟨c1,c2,_⟩:=KE hn hy hx hx
   have hl:=Ho (n:=n) (x:=x) (List.range y) o
   rw[ho]at hl
   rw[Eg]
   generalize (List.range y).foldl (Ik n x) o=q at hl
   simp only[AH,a1,b1,c1,Ac,BD,List.length_set,hl,a2,b2,c2,if_true,Ab (show y<4611686018427387904 by omega)]
   rw[if_pos (by simp;omega)];rfl) (λf=>by simp only[AH];rw[if_neg (by simp)]) (n:=Aa) (by unfold Aa;omega)
  exact this
 have:=CO n (λf o x=>AG f ((n:Int),rels,(0,[]),o,x)) (λj=>(List.range j).foldl (λo x=>(List.range n).foldl (Ik n x) o) (List.replicate (n*n*n) (-1))) (r:=some ((n:Int),rels,(0,[]),EL (FP n) (n*n*n) (n*n*n))) (λf x hx=>by
  have hl:=IC (n:=n) (List.range x) (List.replicate (n*n*n) (-1))
  rw[List.length_replicate]at hl
  rw[Eg]
  simp only[AG,i8 _ x hl hx,Option.bind_some,Ab (show x<4611686018427387904 by omega)]
  rw[if_pos (by simp;omega)]) (λf=>by simp only[AG];rw[if_neg (by simp),Lo h1 hn]) (n:=Aa) (by unfold Aa;omega)
 exact this
theorem LG (hn:1<=n) (h3:n<=3):n^n^3<=4611686018427387904:=by
 have:n=1∨n=2∨n=3:=by omega
 rcases this with rfl|rfl|rfl<;>decide+kernel
theorem Hd:n^3=n*n*n:=by rw[Nat.pow_succ,Nat.pow_succ,Nat.pow_one]
end
section
variable {n:Int} {rels:List Bb}
end
end T
open Go Go.Va
namespace T
section
variable {n:Int} {rels:List Bb}
end
def GZ (V:List Int) (x:Nat):Int:=match V.findIdx? (λy=>y==(x:Int))with|some i=>(i:Int)|none=> -1
section
variable {n:Nat} {t:List Int}
end
section
variable {n m:Nat} {t:List Int} {r:Bb} {rels:List Bb}
end
end T
open Go Go.Va
namespace T
section
variable {α:Type} {nw old:Nat->α} {N i:Nat}
end
def pr4 (p:Int):Prop:=p=2∨p=3∨p=5∨p=7
def Jx (p:Int) (W:Nat) (r:List Int):Prop:=r.length=W/\ ∀x∈r,0<=x/\x<p
section
variable {p:Int} {W:Nat} {r row:List Int}
theorem Mf (h:Jx p W r) {i:Nat} (hi:i<W):0<=r.getD i 0/\r.getD i 0<p:=by
 have:i<r.length:=by rw[h.1];exact hi
 rw[Ah this];exact h.2 _ (List.getElem_mem this)
end
abbrev ES:=List (List Int)×List Int×List (List Int)
structure ESok (p:Int) (W N v:Nat) (s:ES):Prop where
 t: ∀r∈s.1,Jx p W r
 l: ∀r∈s.2.2,Jx p W r
 bl:s.2.1.length=s.1.length
 n:s.1.length+s.2.2.length=N
 bv: ∀x∈s.2.1,0<=x/\x<(v:Int)
 bn:s.2.1.Nodup
section
variable {p:Int} {W N:Nat}
end
end T
open Go Go.Va
namespace T
section
variable {p:Int} {W N V:Nat}
theorem J3 {b:List Int} {u:Nat} (h:(u:Int)∉b):GZ b u= -1:=by
 unfold GZ
 have h1:(b.findIdx? λy=>y==(u:Int))=none:=by
  rw[List.findIdx?_eq_none_iff]
  intro y hy
  simp only[beq_eq_false_iff_ne]
  intro e;exact h (e▸hy)
 rw[h1]
theorem Jy {b:List Int} {u:Nat} (h:(u:Int)∈b): ∃i,∃hi:i<b.length,GZ b u=(i:Int)/\b[i]=(u:Int):=by
 unfold GZ
 have h1:(b.findIdx? λy=>y==(u:Int)).isSome=true:=by
  rw[List.findIdx?_isSome,List.any_eq_true]
  exact⟨_,h,by simp⟩
 obtain⟨i,hi⟩:=Option.isSome_iff_exists.1 h1
 rw[hi]
 obtain⟨g1,g2,_⟩:=List.findIdx?_eq_some_iff_getElem.1 hi
 exact⟨i,g1,rfl,by simpa using g2⟩
end
end T
open Go Go.Va
namespace T
def MD (N:Nat) (b:List Int):List Int:=((List.range N).filter λv:Nat=>!decide ((v:Int)∈b)).map λv:Nat=>(v:Int)
section
variable {p:Int} {W N V:Nat}
theorem KY {b:List Int} {u:Nat}:GZ b u<0↔(u:Int)∉b:=by
 by_cases h:(u:Int)∈b
 ·obtain⟨i,hi,h1,_⟩:=Jy h
  rw[h1];simp[h]
 ·rw[J3 h];simp[h]
def K4 (V:Nat) (s:ES) (u:Nat):Int:=if GZ s.2.1 u<0 then 0 else(s.1.getD (GZ s.2.1 u).toNat []).getD V 0
def MR (V:Nat) (s:ES):List Int:=(List.range V).map (K4 V s)
end
end T
open Go Go.Va
namespace T
def cg (p a b:Int):Prop:= ∃k,a=b+p*k
section
variable {p a b c d:Int}
theorem Jm (h:a=b):cg p a b:=⟨0,by rw[h];simp⟩
theorem LW (h:cg p a b) (g:cg p c d):cg p (a+c) (b+d):=by obtain⟨k,h⟩:=h;obtain⟨m,g⟩:=g;exact⟨k+m,by grind⟩
theorem LX (x:Int) (h:cg p a b):cg p (x*a) (x*b):=by obtain⟨k,h⟩:=h;exact⟨x*k,by grind⟩
end
inductive Sp (p:Int) (V:Nat) (A:List (List Int)):(Nat->Int)->Prop
 |zero:Sp p V A λ_=>0
 |add {f:Nat->Int} (r:List Int) (c:Int):r∈A->Sp p V A f->Sp p V A λi=>f i+c*r.getD i 0
 |cgr {f g:Nat->Int}:Sp p V A f->(∀i,i<V->cg p (g i) (f i))->Sp p V A g
section
variable {p:Int} {V W N:Nat} {A B:List (List Int)} {f g:Nat->Int}
theorem Sp.lin (hf:Sp p V A f) (hg:Sp p V A g) (c:Int):Sp p V A λi=>f i+c*g i:=by
 induction hg with
 |zero=>exact hf.cgr λi _=>Jm (by simp)
 |add r d hr _ ih=>exact(ih.add r (c*d) hr).cgr λi _=>Jm (by grind)
 |cgr _ h ih=>exact ih.cgr λi hi=>LW (Jm rfl) (LX c (h i hi))
theorem Sp.mem {r:List Int} (h:r∈A):Sp p V A λi=>r.getD i 0:=(Sp.add r 1 h .zero).cgr λi _=>Jm (by simp)
theorem Sp.sub (h: ∀r∈A,Sp p V B λi=>r.getD i 0) (hf:Sp p V A f):Sp p V B f:=by
 induction hf with
 |zero=>exact .zero
 |add r c hr _ ih=>exact ih.lin (h r hr) c
 |cgr _ h ih=>exact ih.cgr h
def eqSp (p:Int) (V:Nat) (A B:List (List Int)):Prop:= ∀f,Sp p V A f↔Sp p V B f
theorem Le (h: ∀r∈A,Sp p V B λi=>r.getD i 0) (g: ∀r∈B,Sp p V A λi=>r.getD i 0):eqSp p V A B:=λ_=>⟨Sp.sub h,Sp.sub g⟩
end
end T
open Go Go.Va
namespace T
section
variable {p:Int} {V W N:Nat} {A B:List (List Int)} {f g:Nat->Int}
theorem Iz {α:Type} {l:List α} {i:Nat} {d:α} (hi:i<l.length):l.getD i d∈l:=by rw[Ah hi];exact List.getElem_mem hi
end
end T
open Go Go.Va
namespace T
section
variable {p:Int} {V W N:Nat} {A B C D:List (List Int)} {f g:Nat->Int}
theorem eqSp.symm (h:eqSp p V A B):eqSp p V B A:=λf=>(h f).symm
theorem eqSp.trans (h:eqSp p V A B) (g:eqSp p V B C):eqSp p V A C:=λf=>(h f).trans (g f)
theorem eqSp.app (h:eqSp p V A B):eqSp p V (A++C) (B++C):=by
 have key: ∀ {A B:List (List Int)},eqSp p V A B-> ∀r∈A++C,Sp p V (B++C) λi=>r.getD i 0:=fun {A B} h r hr=>by
  rcases List.mem_append.1 hr with hr|hr
  ·exact Sp.sub (λq hq=>Sp.mem (List.mem_append_left _ hq)) ((h _).1 (Sp.mem hr))
  ·exact Sp.mem (List.mem_append_right _ hr)
 exact Le (key h) (key h.symm)
end
end T
open Go Go.Va
namespace T
def i64 (x:Int):Prop:= -9223372036854775808<=x/\x<=9223372036854775807
section
variable {c:List Int} {ar:Int}
end
end T
set_option linter.unusedVariables false
open Go Go.Va
namespace T
def CD:Nat->((List ((List Int)×Int×(List (List Int))))×(List (List ((List Int)×Int×(List (List Int)))))×Int×Int×Int)->Option ((List ((List Int)×Int×(List (List Int))))×(List (List ((List Int)×Int×(List (List Int)))))×Int×Int)
 |0,_=>none
 |n+1,(list,out,i,most,k)=>
 if inb i list then
 if decide (k<(((gd list i ([],(0,[]))).1).length:Int))then
 if inb i list then
 if inb k ((gd list i ([],(0,[]))).1)then
 (CM most (gd ((gd list i ([],(0,[]))).1) k 0)).bind λr1=>
 CD n (list,out,i,r1,w64 (k+1))
 else none
 else none
 else
 some (list,out,i,most)
 else none
def CC:Nat->((List ((List Int)×Int×(List (List Int))))×(List (List ((List Int)×Int×(List (List Int)))))×Int)->Option ((List (List ((List Int)×Int×(List (List Int))))))
 |0,_=>none
 |n+1,(list,out,i)=>
 if decide (i<(list.length:Int))then
 (CD Aa (list,out,i,0,0)).bind λs1=>
 if inb s1.2.2.2 s1.2.1 then
 if inb s1.2.2.1 s1.1 then
 if(gd s1.2.1 s1.2.2.2 []).length+ [gd s1.1 s1.2.2.1 ([],(0,[]))].length<=lim then
 if inb s1.2.2.2 s1.2.1 then
 if s1.2.2.2=s1.2.2.2 then
 CC n (s1.1,stt s1.2.1 s1.2.2.2 ((gd s1.2.1 s1.2.2.2 [])++ [gd s1.1 s1.2.2.1 ([],(0,[]))]),w64 (s1.2.2.1+1))
 else none
 else none
 else none
 else none
 else none
 else
 some out
def Fj (vars:Int) (list:List ((List Int)×Int×(List (List Int)))):Option ((List (List ((List Int)×Int×(List (List Int)))))):=
 if 0<=vars/\vars<=vars/\vars<=lim then
 (CC Aa (list,List.replicate (Int.toNat vars) ([]:List ((List Int)×Int×(List (List Int)))),0)).bind λs1=>
 some s1
 else none
def AO (rec:(Int×(List (List ((List Int)×Int×(List (List Int)))))×(List Int)×(List Int)×((List (List Int))×(Int×Int×Bool)))->Option (((List (List Int))×(Int×Int×Bool)))):Nat->(Int×(List (List ((List Int)×Int×(List (List Int)))))×(List Int)×(List Int)×((List (List Int))×(Int×Int×Bool))×((List (List Int))×(Int×Int×Bool))×Int×Int×(List Int)×Bool×Int)->Option (Int×(List (List ((List Int)×Int×(List (List Int)))))×(List Int)×(List Int)×((List (List Int))×(Int×Int×Bool))×((List (List Int))×(Int×Int×Bool))×Int×Int×(List Int)×Bool)
 |0,_=>none
 |n+1,(t0,t1,t2,t3,t9,t10,t11,t12,t13,t14,t15)=>
 if inb t11 t1 then
 if decide (t15<((gd t1 t11 []).length:Int))then
 if t14 then
 if inb t11 t1 then
 if inb t15 (gd t1 t11 [])then
 (CL (gd (gd t1 t11 []) t15 ([],(0,[]))) t13).bind λr3=>
 AO rec n (t0,t1,t2,t3,(t9.1,(t9.2.1,(t9.2.2.1,t9.2.2.2))),(t10.1,(t10.2.1,(t10.2.2.1,t10.2.2.2))),t11,t12,t13,r3,w64 (t15+1))
 else none
 else none
 else
 some (t0,t1,t2,t3,(t9.1,(t9.2.1,(t9.2.2.1,t9.2.2.2))),(t10.1,(t10.2.1,(t10.2.2.1,t10.2.2.2))),t11,t12,t13,t14)
 else
 some (t0,t1,t2,t3,(t9.1,(t9.2.1,(t9.2.2.1,t9.2.2.2))),(t10.1,(t10.2.1,(t10.2.2.1,t10.2.2.2))),t11,t12,t13,t14)
 else none
def Am (rec:(Int×(List (List ((List Int)×Int×(List (List Int)))))×(List Int)×(List Int)×((List (List Int))×(Int×Int×Bool)))->Option (((List (List Int))×(Int×Int×Bool)))):Nat->(Int×(List (List ((List Int)×Int×(List (List Int)))))×(List Int)×(List Int)×((List (List Int))×(Int×Int×Bool))×((List (List Int))×(Int×Int×Bool))×Int×Int)->Option (((List (List Int))×(Int×Int×Bool))×((List (List Int))×(Int×Int×Bool)))
 |0,_=>none
 |n+1,(t0,t1,t2,t3,t9,t10,t11,t12)=>
 if decide (t12<t0)then
 if t9.2.2.2 then
 if !(decide (t9.2.1>0))then
 if inb t11 t2 then
 if decide ((gd t2 t11 0)≥0)then
 if inb t11 t2 then
 if(gd t2 t11 0) !=t12 then
 Am rec n (t0,t1,t2,t3,(t9.1,(t9.2.1,(t9.2.2.1,t9.2.2.2))),(t10.1,(t10.2.1,(t10.2.2.1,t10.2.2.2))),t11,w64 (t12+1))
 else
 (B1 t3).bind λr2=>
 if r2.length+ [t12].length<=lim then
 (AO rec Aa (t0,t1,t2,t3,(t9.1,(t9.2.1,(t9.2.2.1,t9.2.2.2))),(t10.1,(t10.2.1,(t10.2.2.1,t10.2.2.2))),t11,t12,r2++ [t12],true,0)).bind λs3=>
 if s3.2.2.2.2.2.2.2.2.2 then
 (rec (s3.1,s3.2.1,s3.2.2.1,s3.2.2.2.2.2.2.2.2.1,(s3.2.2.2.2.1.1,(s3.2.2.2.2.1.2.1,(s3.2.2.2.2.1.2.2.1,s3.2.2.2.2.1.2.2.2))))).bind λr4=>
 Am rec n (s3.1,s3.2.1,s3.2.2.1,s3.2.2.2.1,(r4.1,(r4.2.1,(r4.2.2.1,r4.2.2.2))),(s3.2.2.2.2.2.1.1,(s3.2.2.2.2.2.1.2.1,(s3.2.2.2.2.2.1.2.2.1,s3.2.2.2.2.2.1.2.2.2))),s3.2.2.2.2.2.2.1,w64 (s3.2.2.2.2.2.2.2.1+1))
 else
 Am rec n (s3.1,s3.2.1,s3.2.2.1,s3.2.2.2.1,(s3.2.2.2.2.1.1,(s3.2.2.2.2.1.2.1,(s3.2.2.2.2.1.2.2.1,s3.2.2.2.2.1.2.2.2))),(s3.2.2.2.2.2.1.1,(s3.2.2.2.2.2.1.2.1,(s3.2.2.2.2.2.1.2.2.1,s3.2.2.2.2.2.1.2.2.2))),s3.2.2.2.2.2.2.1,w64 (s3.2.2.2.2.2.2.2.1+1))
 else none
 else none
 else
 (B1 t3).bind λr5=>
 if r5.length+ [t12].length<=lim then
 (AO rec Aa (t0,t1,t2,t3,(t9.1,(t9.2.1,(t9.2.2.1,t9.2.2.2))),(t10.1,(t10.2.1,(t10.2.2.1,t10.2.2.2))),t11,t12,r5++ [t12],true,0)).bind λs6=>
 if s6.2.2.2.2.2.2.2.2.2 then
 (rec (s6.1,s6.2.1,s6.2.2.1,s6.2.2.2.2.2.2.2.2.1,(s6.2.2.2.2.1.1,(s6.2.2.2.2.1.2.1,(s6.2.2.2.2.1.2.2.1,s6.2.2.2.2.1.2.2.2))))).bind λr7=>
 Am rec n (s6.1,s6.2.1,s6.2.2.1,s6.2.2.2.1,(r7.1,(r7.2.1,(r7.2.2.1,r7.2.2.2))),(s6.2.2.2.2.2.1.1,(s6.2.2.2.2.2.1.2.1,(s6.2.2.2.2.2.1.2.2.1,s6.2.2.2.2.2.1.2.2.2))),s6.2.2.2.2.2.2.1,w64 (s6.2.2.2.2.2.2.2.1+1))
 else
 Am rec n (s6.1,s6.2.1,s6.2.2.1,s6.2.2.2.1,(s6.2.2.2.2.1.1,(s6.2.2.2.2.1.2.1,(s6.2.2.2.2.1.2.2.1,s6.2.2.2.2.1.2.2.2))),(s6.2.2.2.2.2.1.1,(s6.2.2.2.2.2.1.2.1,(s6.2.2.2.2.2.1.2.2.1,s6.2.2.2.2.2.1.2.2.2))),s6.2.2.2.2.2.2.1,w64 (s6.2.2.2.2.2.2.2.1+1))
 else none
 else none
 else
 some ((t9.1,(t9.2.1,(t9.2.2.1,t9.2.2.2))),(t10.1,(t10.2.1,(t10.2.2.1,t10.2.2.2))))
 else
 if !false then
 if inb t11 t2 then
 if decide ((gd t2 t11 0)≥0)then
 if inb t11 t2 then
 if(gd t2 t11 0) !=t12 then
 Am rec n (t0,t1,t2,t3,(t9.1,(t9.2.1,(t9.2.2.1,t9.2.2.2))),(t10.1,(t10.2.1,(t10.2.2.1,t10.2.2.2))),t11,w64 (t12+1))
 else
 (B1 t3).bind λr8=>
 if r8.length+ [t12].length<=lim then
 (AO rec Aa (t0,t1,t2,t3,(t9.1,(t9.2.1,(t9.2.2.1,t9.2.2.2))),(t10.1,(t10.2.1,(t10.2.2.1,t10.2.2.2))),t11,t12,r8++ [t12],true,0)).bind λs9=>
 if s9.2.2.2.2.2.2.2.2.2 then
 (rec (s9.1,s9.2.1,s9.2.2.1,s9.2.2.2.2.2.2.2.2.1,(s9.2.2.2.2.1.1,(s9.2.2.2.2.1.2.1,(s9.2.2.2.2.1.2.2.1,s9.2.2.2.2.1.2.2.2))))).bind λr10=>
 Am rec n (s9.1,s9.2.1,s9.2.2.1,s9.2.2.2.1,(r10.1,(r10.2.1,(r10.2.2.1,r10.2.2.2))),(s9.2.2.2.2.2.1.1,(s9.2.2.2.2.2.1.2.1,(s9.2.2.2.2.2.1.2.2.1,s9.2.2.2.2.2.1.2.2.2))),s9.2.2.2.2.2.2.1,w64 (s9.2.2.2.2.2.2.2.1+1))
 else
 Am rec n (s9.1,s9.2.1,s9.2.2.1,s9.2.2.2.1,(s9.2.2.2.2.1.1,(s9.2.2.2.2.1.2.1,(s9.2.2.2.2.1.2.2.1,s9.2.2.2.2.1.2.2.2))),(s9.2.2.2.2.2.1.1,(s9.2.2.2.2.2.1.2.1,(s9.2.2.2.2.2.1.2.2.1,s9.2.2.2.2.2.1.2.2.2))),s9.2.2.2.2.2.2.1,w64 (s9.2.2.2.2.2.2.2.1+1))
 else none
 else none
 else
 (B1 t3).bind λr11=>
 if r11.length+ [t12].length<=lim then
 (AO rec Aa (t0,t1,t2,t3,(t9.1,(t9.2.1,(t9.2.2.1,t9.2.2.2))),(t10.1,(t10.2.1,(t10.2.2.1,t10.2.2.2))),t11,t12,r11++ [t12],true,0)).bind λs12=>
 if s12.2.2.2.2.2.2.2.2.2 then
 (rec (s12.1,s12.2.1,s12.2.2.1,s12.2.2.2.2.2.2.2.2.1,(s12.2.2.2.2.1.1,(s12.2.2.2.2.1.2.1,(s12.2.2.2.2.1.2.2.1,s12.2.2.2.2.1.2.2.2))))).bind λr13=>
 Am rec n (s12.1,s12.2.1,s12.2.2.1,s12.2.2.2.1,(r13.1,(r13.2.1,(r13.2.2.1,r13.2.2.2))),(s12.2.2.2.2.2.1.1,(s12.2.2.2.2.2.1.2.1,(s12.2.2.2.2.2.1.2.2.1,s12.2.2.2.2.2.1.2.2.2))),s12.2.2.2.2.2.2.1,w64 (s12.2.2.2.2.2.2.2.1+1))
 else
 Am rec n (s12.1,s12.2.1,s12.2.2.1,s12.2.2.2.1,(s12.2.2.2.2.1.1,(s12.2.2.2.2.1.2.1,(s12.2.2.2.2.1.2.2.1,s12.2.2.2.2.1.2.2.2))),(s12.2.2.2.2.2.1.1,(s12.2.2.2.2.2.1.2.1,(s12.2.2.2.2.2.1.2.2.1,s12.2.2.2.2.2.1.2.2.2))),s12.2.2.2.2.2.2.1,w64 (s12.2.2.2.2.2.2.2.1+1))
 else none
 else none
 else
 some ((t9.1,(t9.2.1,(t9.2.2.1,t9.2.2.2))),(t10.1,(t10.2.1,(t10.2.2.1,t10.2.2.2))))
 else
 some ((t9.1,(t9.2.1,(t9.2.2.1,t9.2.2.2))),(t10.1,(t10.2.1,(t10.2.2.1,t10.2.2.2))))
def Ew (rec:(Int×(List (List ((List Int)×Int×(List (List Int)))))×(List Int)×(List Int)×((List (List Int))×(Int×Int×Bool)))->Option (((List (List Int))×(Int×Int×Bool)))) (t0:Int) (t1:List (List ((List Int)×Int×(List (List Int))))) (t2:List Int) (t3:List Int) (t4:(List (List Int))×(Int×Int×Bool)):Option (((List (List Int))×(Int×Int×Bool))):=
 if(t3.length:Int)==(t1.length:Int)then
 if decide ((t4.1.length:Int)<t4.2.2.1)then
 (B1 t3).bind λr1=>
 if t4.1.length+ [r1].length<=lim then
 some (t4.1++ [r1],(w64 (t4.2.1+1),(t4.2.2.1,t4.2.2.2)))
 else none
 else
 some (t4.1,(w64 (t4.2.1+1),(t4.2.2.1,t4.2.2.2)))
 else
 (Am rec Aa (t0,t1,t2,t3,(t4.1,(t4.2.1,(t4.2.2.1,t4.2.2.2))),([],(0,(0,false))),(t3.length:Int),0)).bind λs2=>
 some (s2.1.1,(s2.1.2.1,(s2.1.2.2.1,s2.1.2.2.2)))
def Ax:Nat->(Int×(List (List ((List Int)×Int×(List (List Int)))))×(List Int)×(List Int)×((List (List Int))×(Int×Int×Bool)))->Option (((List (List Int))×(Int×Int×Bool)))
 |0,_=>none
 |d+1,x=>Ew (Ax d) x.1 x.2.1 x.2.2.1 x.2.2.2.1 x.2.2.2.2
def EA (net:Int×Int×(List ((List Int)×Int×(List (List Int))))) (list:List ((List Int)×Int×(List (List Int)))) (partial_:List Int) (most:Int) (one:Bool):Option (((List (List Int))×(Int×Int×Bool))):=
 (Fj net.1 list).bind λr1=>
 (Ax Aa (net.2.1,r1,partial_,[],([],(0,(most,one))))).bind λr2=>
 some (r2.1,(r2.2.1,(r2.2.2.1,r2.2.2.2)))
def BA:Nat->((Int×((List (List (List Int)))×(List (List (List ByteArray)))))×((List Int)×Int×(List (List Int)))×Int×(List ((List Int)×Int×(List (List Int))))×Int×Int×(List Int)×Int×Int)->Option ((Int×((List (List (List Int)))×(List (List (List ByteArray)))))×((List Int)×Int×(List (List Int)))×Int×(List ((List Int)×Int×(List (List Int))))×Int×Int)
 |0,_=>none
 |n+1,(t3,t5,t6,t20,t21,t22,t27,t28,t29)=>
 if decide (t29<t28)then
 if inb t29 t27 then
 BA n ((t3.1,(t3.2.1,t3.2.2)),(t5.1,(t5.2.1,t5.2.2)),Yht t6 (gd t27 t29 0),t20,t21,t22,t27,t28,w64 (t29+1))
 else none
 else
 some ((t3.1,(t3.2.1,t3.2.2)),(t5.1,(t5.2.1,t5.2.2)),t6,t20,t21,t22)
def Bz:Nat->((Int×((List (List (List Int)))×(List (List (List ByteArray)))))×(List ((List Int)×Int×(List (List Int))))×Int×Int)->Option ((Int×((List (List (List Int)))×(List (List (List ByteArray))))))
 |0,_=>none
 |n+1,(t3,t20,t21,t22)=>
 if decide (t22<t21)then
 if inb t22 t20 then
 (BA Aa ((t3.1,(t3.2.1,t3.2.2)),((gd t20 t22 ([],(0,[]))).1,(((gd t20 t22 ([],(0,[]))).2).1,((gd t20 t22 ([],(0,[]))).2).2)),0,t20,t21,t22,(gd t20 t22 ([],(0,[]))).1,(((gd t20 t22 ([],(0,[]))).1).length:Int),0)).bind λs1=>
 if inb s1.2.2.1 s1.1.2.1 then
 if(gd s1.1.2.1 s1.2.2.1 []).length+ [s1.2.1.1].length<=lim then
 if inb s1.2.2.1 s1.1.2.1 then
 if s1.2.2.1=s1.2.2.1 then
 if inb s1.2.2.1 s1.1.2.2 then
 (DD (s1.2.1.2.1,s1.2.1.2.2)).bind λr2=>
 if(gd s1.1.2.2 s1.2.2.1 []).length+ [r2].length<=lim then
 if inb s1.2.2.1 s1.1.2.2 then
 if s1.2.2.1=s1.2.2.1 then
 Bz n ((s1.1.1,(stt s1.1.2.1 s1.2.2.1 ((gd s1.1.2.1 s1.2.2.1 [])++ [s1.2.1.1]),stt s1.1.2.2 s1.2.2.1 ((gd s1.1.2.2 s1.2.2.1 [])++ [r2]))),s1.2.2.2.1,s1.2.2.2.2.1,w64 (s1.2.2.2.2.2+1))
 else none
 else none
 else none
 else none
 else none
 else none
 else none
 else none
 else none
 else
 some (t3.1,(t3.2.1,t3.2.2))
def D4 (t0:Int×Int×(List ((List Int)×Int×(List (List Int))))):Option ((Bool×Int×(List (List (List Int)))×(List (List (List ByteArray))))):=
 if 0<=t0.1/\t0.1<=t0.1/\t0.1<=lim then
 if 0<=t0.1/\t0.1<=t0.1/\t0.1<=lim then
 (Bz Aa ((t0.2.1,(List.replicate (Int.toNat t0.1) ([]:List (List Int)),List.replicate (Int.toNat t0.1) ([]:List (List ByteArray)))),t0.2.2,(t0.2.2.length:Int),0)).bind λs1=>
 some (true,(s1.1,(s1.2.1,s1.2.2)))
 else none
 else none
def Gt (list:List Int):Option ((Bool×(List Int))):=
 if([]:List Int).length+list.length<=lim then
 some (true,[]++list)
 else none
def Cy (values:List Int) (t1:Bool×(List Int)):Option ((Bool×(List Int))×Bool):=
 (Gt values).bind λr1=>
 some ((r1.1,r1.2),false)
def Aj (rec:(Int×(List Int)×(Bool×(List Int))×(Bool×Int×(List (List (List Int)))×(List (List (List ByteArray))))×(List Int)×Unit)->Option ((List Int)×(Bool×(List Int))×(Bool×Int×(List (List (List Int)))×(List (List (List ByteArray))))×(List Int)×Bool)):Nat->(Int×(List Int)×(Bool×(List Int))×(Bool×Int×(List (List (List Int)))×(List (List (List ByteArray))))×(List Int)×Unit×Int×Bool×(List (List Int))×Int×Int)->Option (Int×(List Int)×(Bool×(List Int))×(Bool×Int×(List (List (List Int)))×(List (List (List ByteArray))))×(List Int)×Unit×Int×Bool)
 |0,_=>none
 |n+1,(t0,t1,t2,t3,t4,t5,t8,t9,t50,t51,t52)=>
 if decide (t52<t51)then
 if inb t52 t50 then
 if t9 then
 if t3.1=true then
 if inb t0 t3.2.2.2 then
 if inb t52 (gd t3.2.2.2 t0 [])then
 (CH (gd t50 t52 []) t1).bind λr2=>
 (Dq r2).bind λr3=>
 Aj rec n (t0,t1,(t2.1,t2.2),t3,t4,(),t8,Ybm (gd (gd t3.2.2.2 t0 []) t52 []) r3,t50,t51,w64 (t52+1))
 else none
 else none
 else none
 else
 Aj rec n (t0,t1,(t2.1,t2.2),t3,t4,(),t8,false,t50,t51,w64 (t52+1))
 else none
 else
 some (t0,t1,(t2.1,t2.2),t3,t4,(),t8,t9)
def Ag (rec:(Int×(List Int)×(Bool×(List Int))×(Bool×Int×(List (List (List Int)))×(List (List (List ByteArray))))×(List Int)×Unit)->Option ((List Int)×(Bool×(List Int))×(Bool×Int×(List (List (List Int)))×(List (List (List ByteArray))))×(List Int)×Bool)):Nat->(Int×(List Int)×(Bool×(List Int))×(Bool×Int×(List (List (List Int)))×(List (List (List ByteArray))))×(List Int)×Unit×Int)->Option (((List Int)×(Bool×(List Int))×(Bool×Int×(List (List (List Int)))×(List (List (List ByteArray))))×(List Int)×Unit)⊕((List Int)×(Bool×(List Int))×(Bool×Int×(List (List (List Int)))×(List (List (List ByteArray))))×(List Int)×Unit×Bool))
 |0,_=>none
 |n+1,(t0,t1,t2,t3,t4,t5,t8)=>
 if t3.1=true then
 if decide (t8<t3.2.1)then
 if inb t0 t4 then
 if decide ((gd t4 t0 0)≥0)then
 if inb t0 t4 then
 if(gd t4 t0 0) !=t8 then
 Ag rec n (t0,t1,(t2.1,t2.2),t3,t4,(),w64 (t8+1))
 else
 if inb t0 t1 then
 if t3.1=true then
 if inb t0 t3.2.2.1 then
 (Aj rec Aa (t0,stt t1 t0 t8,(t2.1,t2.2),t3,t4,(),t8,true,gd t3.2.2.1 t0 [],((gd t3.2.2.1 t0 []).length:Int),0)).bind λs2=>
 if s2.2.2.2.2.2.2.2 then
 (rec (w64 (s2.1+1),s2.2.1,(s2.2.2.1.1,s2.2.2.1.2),s2.2.2.2.1,s2.2.2.2.2.1,())).bind λr3=>
 if !r3.2.2.2.2 then
 some (.inr (r3.1,(r3.2.1.1,r3.2.1.2),r3.2.2.1,r3.2.2.2.1,(),false))
 else
 Ag rec n (s2.1,r3.1,(r3.2.1.1,r3.2.1.2),r3.2.2.1,r3.2.2.2.1,(),w64 (s2.2.2.2.2.2.2.1+1))
 else
 Ag rec n (s2.1,s2.2.1,(s2.2.2.1.1,s2.2.2.1.2),s2.2.2.2.1,s2.2.2.2.2.1,(),w64 (s2.2.2.2.2.2.2.1+1))
 else none
 else none
 else none
 else none
 else
 if inb t0 t1 then
 if t3.1=true then
 if inb t0 t3.2.2.1 then
 (Aj rec Aa (t0,stt t1 t0 t8,(t2.1,t2.2),t3,t4,(),t8,true,gd t3.2.2.1 t0 [],((gd t3.2.2.1 t0 []).length:Int),0)).bind λs4=>
 if s4.2.2.2.2.2.2.2 then
 (rec (w64 (s4.1+1),s4.2.1,(s4.2.2.1.1,s4.2.2.1.2),s4.2.2.2.1,s4.2.2.2.2.1,())).bind λr5=>
 if !r5.2.2.2.2 then
 some (.inr (r5.1,(r5.2.1.1,r5.2.1.2),r5.2.2.1,r5.2.2.2.1,(),false))
 else
 Ag rec n (s4.1,r5.1,(r5.2.1.1,r5.2.1.2),r5.2.2.1,r5.2.2.2.1,(),w64 (s4.2.2.2.2.2.2.1+1))
 else
 Ag rec n (s4.1,s4.2.1,(s4.2.2.1.1,s4.2.2.1.2),s4.2.2.2.1,s4.2.2.2.2.1,(),w64 (s4.2.2.2.2.2.2.1+1))
 else none
 else none
 else none
 else none
 else
 some (.inl (t1,(t2.1,t2.2),t3,t4,()))
 else none
def Be (rec:(Int×(List Int)×(Bool×(List Int))×(Bool×Int×(List (List (List Int)))×(List (List (List ByteArray))))×(List Int)×Unit)->Option ((List Int)×(Bool×(List Int))×(Bool×Int×(List (List (List Int)))×(List (List (List ByteArray))))×(List Int)×Bool)) (t0:Int) (t1:List Int) (t2:Bool×(List Int)) (t3:Bool×Int×(List (List (List Int)))×(List (List (List ByteArray)))) (t4:List Int) (t5:Unit):Option ((List Int)×(Bool×(List Int))×(Bool×Int×(List (List (List Int)))×(List (List (List ByteArray))))×(List Int)×Bool):=
 if t0==(t1.length:Int)then
  (Cy t1 (t2.1,t2.2)).bind λr1=>
   some (t1,(r1.1.1,r1.1.2),t3,t4,r1.2)
 else
  (Ag rec Aa (t0,t1,(t2.1,t2.2),t3,t4,(),0)).bind λs2=>
   match s2 with
   | .inl s3=>
    some (s3.1,(s3.2.1.1,s3.2.1.2),s3.2.2.1,s3.2.2.2.1,true)
   | .inr s4=>
    some (s4.1,(s4.2.1.1,s4.2.1.2),s4.2.2.1,s4.2.2.2.1,s4.2.2.2.2.2)
def Al:Nat->(Int×(List Int)×(Bool×(List Int))×(Bool×Int×(List (List (List Int)))×(List (List (List ByteArray))))×(List Int)×Unit)->Option ((List Int)×(Bool×(List Int))×(Bool×Int×(List (List (List Int)))×(List (List (List ByteArray))))×(List Int)×Bool)
 |0,_=>none
 |d+1,x=>Be (Al d) x.1 x.2.1 x.2.2.1 x.2.2.2.1 x.2.2.2.2.1 x.2.2.2.2.2
def BP (s:Bool×Int×(List (List (List Int)))×(List (List (List ByteArray)))) (partial_:List Int) (found:Bool×(List Int)):Option ((Bool×(List Int))):=
 if 0<=(partial_.length:Int)/\(partial_.length:Int)<=(partial_.length:Int)/\(partial_.length:Int)<=lim then
 (Al Aa (0,List.replicate (Int.toNat (partial_.length:Int)) (0:Int),(found.1,found.2),s,partial_,())).bind λr1=>
 some (r1.2.1.1,r1.2.1.2)
 else none
def DN (net:Int×Int×(List ((List Int)×Int×(List (List Int))))) (partial_:List Int):Option ((Bool×(List Int))):=
 (D4 (net.1,(net.2.1,net.2.2))).bind λr1=>
 (BP r1 partial_ (false,[])).bind λr2=>
 some (r2.1,r2.2)
end T
open Go Go.Va
namespace T
abbrev NS:=Bool×Int×List (List (List Int))×List (List (List ByteArray))
abbrev NIn (σ:Type):=Int×List Int×σ×NS×List Int×Unit
abbrev K7 (σ:Type):=List Int×σ×NS×List Int×Bool
def hM {σ:Type}:Nat->(Int×List Int×σ×NS×List Int×Unit×Int×Bool×List (List Int)×Int×Int)->Option (Int×List Int×σ×NS×List Int×Unit×Int×Bool)
 |0,_=>none
 |n+1,(t0,t1,t2,t3,t4,t5,t8,t9,t50,t51,t52)=>
 if decide (t52<t51)then
 if inb t52 t50 then
 if t9 then
 if t3.1=true then
 if inb t0 t3.2.2.2 then
 if inb t52 (gd t3.2.2.2 t0 [])then
 (CH (gd t50 t52 []) t1).bind λr2=>
 (Dq r2).bind λr3=>
 hM n (t0,t1,t2,t3,t4,(),t8,Ybm (gd (gd t3.2.2.2 t0 []) t52 []) r3,t50,t51,w64 (t52+1))
 else none
 else none
 else none
 else
 hM n (t0,t1,t2,t3,t4,(),t8,false,t50,t51,w64 (t52+1))
 else none
 else
 some (t0,t1,t2,t3,t4,(),t8,t9)
def hL {σ:Type} (rec:NIn σ->Option (K7 σ)):Nat->(Int×List Int×σ×NS×List Int×Unit×Int)->Option ((List Int×σ×NS×List Int×Unit)⊕(List Int×σ×NS×List Int×Unit×Bool))
 |0,_=>none
 |n+1,(t0,t1,t2,t3,t4,t5,t8)=>
 if t3.1=true then
 if decide (t8<t3.2.1)then
 if inb t0 t4 then
 if decide ((gd t4 t0 0)≥0)then
 if inb t0 t4 then
 if(gd t4 t0 0) !=t8 then
 hL rec n (t0,t1,t2,t3,t4,(),w64 (t8+1))
 else
 if inb t0 t1 then
 if t3.1=true then
 if inb t0 t3.2.2.1 then
 (hM Aa (t0,stt t1 t0 t8,t2,t3,t4,(),t8,true,gd t3.2.2.1 t0 [],((gd t3.2.2.1 t0 []).length:Int),0)).bind λs2=>
 if s2.2.2.2.2.2.2.2 then
 (rec (w64 (s2.1+1),s2.2.1,s2.2.2.1,s2.2.2.2.1,s2.2.2.2.2.1,())).bind λr3=>
 if !r3.2.2.2.2 then
 some (.inr (r3.1,r3.2.1,r3.2.2.1,r3.2.2.2.1,(),false))
 else
 hL rec n (s2.1,r3.1,r3.2.1,r3.2.2.1,r3.2.2.2.1,(),w64 (s2.2.2.2.2.2.2.1+1))
 else
 hL rec n (s2.1,s2.2.1,s2.2.2.1,s2.2.2.2.1,s2.2.2.2.2.1,(),w64 (s2.2.2.2.2.2.2.1+1))
 else none
 else none
 else none
 else none
 else
 if inb t0 t1 then
 if t3.1=true then
 if inb t0 t3.2.2.1 then
 (hM Aa (t0,stt t1 t0 t8,t2,t3,t4,(),t8,true,gd t3.2.2.1 t0 [],((gd t3.2.2.1 t0 []).length:Int),0)).bind λs4=>
 if s4.2.2.2.2.2.2.2 then
 (rec (w64 (s4.1+1),s4.2.1,s4.2.2.1,s4.2.2.2.1,s4.2.2.2.2.1,())).bind λr5=>
 if !r5.2.2.2.2 then
 some (.inr (r5.1,r5.2.1,r5.2.2.1,r5.2.2.2.1,(),false))
 else
 hL rec n (s4.1,r5.1,r5.2.1,r5.2.2.1,r5.2.2.2.1,(),w64 (s4.2.2.2.2.2.2.1+1))
 else
 hL rec n (s4.1,s4.2.1,s4.2.2.1,s4.2.2.2.1,s4.2.2.2.2.1,(),w64 (s4.2.2.2.2.2.2.1+1))
 else none
 else none
 else none
 else none
 else
 some (.inl (t1,t2,t3,t4,()))
 else none
def Js {σ:Type} (cb:List Int->σ->Option (σ×Bool)) (rec:NIn σ->Option (K7 σ)) (x:NIn σ):Option (K7 σ):=
 if x.1==(x.2.1.length:Int)then
  (cb x.2.1 x.2.2.1).bind λr1=>some (x.2.1,r1.1,x.2.2.2.1,x.2.2.2.2.1,r1.2)
 else
  (hL rec Aa (x.1,x.2.1,x.2.2.1,x.2.2.2.1,x.2.2.2.2.1,(),0)).bind λs2=>
   match s2 with
   | .inl s3=>some (s3.1,s3.2.1,s3.2.2.1,s3.2.2.2.1,true)
   | .inr s4=>some (s4.1,s4.2.1,s4.2.2.1,s4.2.2.2.1,s4.2.2.2.2.2)
def hF {σ:Type} (cb:List Int->σ->Option (σ×Bool)):Nat->NIn σ->Option (K7 σ)
 |0,_=>none
 |d+1,x=>Js cb (hF cb d) x
def B7 (c:Con):Nat:=c.1.foldl (λm v=>max m v.toNat) 0
def Az (cs:List Con) (v:Nat):List Con:=cs.filter λc=>B7 c==v
def Ba (cs:List Con) (V:Nat):List (List (List Int)):=(List.range V).map λv=>(Az cs v).map (·.1)
def C8 (cs:List Con) (V:Nat):List (List (List ByteArray)):=(List.range V).map λv=>(Az cs v).map λc=>D0 c.2.2
def okN (cs:List Con) (pre:List Int):Bool:=(Az cs (pre.length-1)).all (Ck pre)
theorem ID: ∀(l:List Int) (m:Nat),m<=l.foldl (λm v=>max m v.toNat) m/\(∀v∈l,v.toNat<=l.foldl (λm v=>max m v.toNat) m)/\ ∀B,m<=B->(∀v∈l,v.toNat<=B)->l.foldl (λm v=>max m v.toNat) m<=B
 | [],m=>⟨Nat.le_refl _,by simp,λB h _=>h⟩
 |v::l,m=>by
  obtain⟨h1,h2,h3⟩:=ID l (max m v.toNat)
  simp only[List.foldl_cons]
  refine⟨by omega,λw hw=>?_,λB h h'=>h3 B (by have:=h' v (List.mem_cons_self ..);omega) λw hw=>h' w (List.mem_cons_of_mem _ hw)⟩
  rcases List.mem_cons.1 hw with rfl|hw
  ·omega
  ·exact h2 w hw
section
variable {V n:Nat} {cs:List Con} {given:List Int}
structure SrchOk (V n:Nat) (cs:List Con):Prop where
 hv:V<=9
 hn:1<=n/\n<=4
 hc:cs.length<=40
 con: ∀c∈cs,ConOk (V:Int) (n:Int) c
theorem E6 {c:Con} {v:Nat}:c∈Az cs v↔c∈cs/\B7 c=v:=by simp[Az]
theorem E1 (h:SrchOk V n cs) {v:Nat} {c:Con} (hc:c∈Az cs v):ConOk ((v+1:Nat):Int) (n:Int) c/\v<V:=by
 obtain⟨h1,h2⟩:=E6.1 hc
 have hk:=h.con c h1
 obtain⟨_,g2,g3⟩:=ID c.1 0
 have hv:v<V:=by
  have hm:=hk.ar
  have hsl:=hk.sl
  have h0:=hk.sv 0 (by omega)
  have:=g3 (V-1) (by omega) λw hw=>by
   obtain⟨i,hi,rfl⟩:=List.mem_iff_getElem.1 hw
   have:=hk.sv i hi
   omega
  have:B7 c<=V-1:=this
  omega
 refine⟨⟨hk.ar,hk.sl,λi hi=>?_,hk.tl,hk.tv,hk.inc,hk.many⟩,hv⟩
 have h3:=hk.sv i hi
 have h4:=g2 _ (List.getElem_mem hi)
 have h4:(c.1[i]).toNat<=B7 c:=h4
 omega
theorem HM (h:SrchOk V n cs) {v:Nat} {c:Con} (hc:c∈Az cs v) (tab:List Int):Ck (tab.take (v+1)) c=Ck tab c:=by
 have hk:=(E1 h hc).1
 unfold Ck
 have:c.1.map (Aq (tab.take (v+1)))=c.1.map (Aq tab):=List.map_congr_left λx hx=>by
  obtain⟨i,hi,rfl⟩:=List.mem_iff_getElem.1 hx
  have:=hk.sv i hi
  unfold Aq
  rw[List.getD_eq_getElem?_getD,List.getD_eq_getElem?_getD,List.getElem?_take,if_pos (by omega)]
 rw[this]
theorem Hr (h:SrchOk V n cs) {v:Nat} {tab:List Int} (hv:v<tab.length):okN cs (tab.take (v+1))=(Az cs v).all (Ck tab):=by
 unfold okN
 rw[List.length_take,show min (v+1) tab.length-1=v by omega,Bool.eq_iff_iff,List.all_eq_true,List.all_eq_true]
 exact⟨λg c hc=>by rw[←HM h hc];exact g c hc,λg c hc=>by rw[HM h hc];exact g c hc⟩
theorem FR {v:Nat} (hv:v<V):(Ba cs V).length=V/\(Ba cs V).getD v []=(Az cs v).map (·.1):=by
 refine⟨by simp[Ba],?_⟩
 rw[Ah (by simp[Ba];exact hv)];simp[Ba]
theorem H7 {v:Nat} (hv:v<V):(C8 cs V).length=V/\(C8 cs V).getD v []=(Az cs v).map λc=>D0 c.2.2:=by
 refine⟨by simp[C8],?_⟩
 rw[Ah (by simp[C8];exact hv)];simp[C8]
theorem MH (h:SrchOk V n cs) {v:Nat} (hv:v<V) {tab:List Int} (ht:tab.length=V) (htv: ∀x∈tab,0<=x/\x<256) {σ:Type} (s:σ) (x:Int):
  hM Aa ((v:Int),tab,s,(true,((n:Int),(Ba cs V,C8 cs V))),given,(),x,true,gd (Ba cs V) (v:Int) [],((gd (Ba cs V) (v:Int) []).length:Int),0)=
   some ((v:Int),tab,s,(true,((n:Int),(Ba cs V,C8 cs V))),given,(),x,okN cs (tab.take (v+1))):=by
 obtain⟨l1,e1⟩:=FR (cs:=cs) hv
 obtain⟨l2,e2⟩:=H7 (cs:=cs) hv
 have hn:=h.hn
 have hg1:gd (Ba cs V) (v:Int) []=(Az cs v).map (·.1):=e1
 have hg2:gd (C8 cs V) (v:Int) []=(Az cs v).map λc=>D0 c.2.2:=e2
 rw[Hr h (by omega),hg1]
 have hlen:(Az cs v).length<=40:=Nat.le_trans (List.length_filter_le _ _) h.hc
 have:=CO (Az cs v).length (λf (o:Bool) i=>hM f ((v:Int),tab,s,(true,((n:Int),(Ba cs V,C8 cs V))),given,(),x,o,(Az cs v).map (·.1),(((Az cs v).map (·.1)).length:Int),i)) (λk=>((Az cs v).take k).all (Ck tab)) (r:=some ((v:Int),tab,s,(true,((n:Int),(Ba cs V,C8 cs V))),given,(),x,(Az cs v).all (Ck tab))) (λf k hk=>?_) (λf=>?_) (n:=Aa) (by unfold Aa;omega)
 ·exact this
 ·have hmem:=List.getElem_mem hk
  have hcon:=(E1 h hmem).1
  have hsl:=hcon.sl
  have har:=hcon.ar
  have hmany:=hcon.many
  have hin:inb (k:Int) ((Az cs v).map (·.1)):=by unfold inb;rw[List.length_map];omega
  have hgk:gd ((Az cs v).map (·.1)) (k:Int) []=(Az cs v)[k].1:=by
   have:=Ai (xs:=(Az cs v).map (·.1)) (d:= []) (k:=k) (by simpa using hk)
   rw[this];simp
  have hin2:inb (k:Int) ((Az cs v).map λc=>D0 c.2.2):=by unfold inb;rw[List.length_map];omega
  have hgk2:gd ((Az cs v).map λc=>D0 c.2.2) (k:Int) []=D0 (Az cs v)[k].2.2:=by
   have:=Ai (xs:=(Az cs v).map λc=>D0 c.2.2) (d:= []) (k:=k) (by simpa using hk)
   rw[this];simp
  have hsc: ∀y∈(Az cs v)[k].1,0<=y/\y<tab.length:=λy hy=>by
   obtain⟨i,hi,rfl⟩:=List.mem_iff_getElem.1 hy
   have:=hcon.sv i hi
   omega
  have hc:=DI (f:=(Az cs v)[k].1) (g:=tab) (by omega) hsc
  have hval: ∀y∈(Az cs v)[k].1.map (Aq tab),0<=y/\y<256:=λy hy=>by
   obtain⟨z,hz,rfl⟩:=List.mem_map.1 hy
   have:=hsc z hz
   exact htv _ (Iz (by omega))
  have hk2:=Ei (l:=(Az cs v)[k].1.map (Aq tab)) (by rw[List.length_map];omega) hval
  have hmk:=GM (l:=(Az cs v)[k].2.2) (t:=(Az cs v)[k].1.map (Aq tab)) (λt ht y hy=>by
   obtain⟨i,hi,rfl⟩:=List.mem_iff_getElem.1 hy
   have:=hcon.tv t ht i hi
   omega) hval
  have hiv:inb (v:Int) (C8 cs V):=by unfold inb;omega
  have htk:((Az cs v).take (k+1)).all (Ck tab)=(((Az cs v).take k).all (Ck tab)&&Ck tab (Az cs v)[k]):=by
   rw[List.take_succ_eq_append_getElem hk,List.all_append];simp
  simp only[hM,hin,hgk,hc,hk2,hiv,hg2,hin2,hgk2,hmk,Option.bind_some,Ab (show k<4611686018427387904 by omega),htk,if_true]
  rw[if_pos (by simp;omega)]
  cases ((Az cs v).take k).all (Ck tab)with
  |false=>simp
  |true=>simp[Ck]
 ·simp only[hM,List.take_length]
  rw[if_neg (by simp)]
end
end T
open Go Go.Va
namespace T
section
variable {V n:Nat} {cs:List Con} {given:List Int}
abbrev Hq (V n:Nat) (cs:List Con):NS:=(true,((n:Int),(Ba cs V,C8 cs V)))
theorem MG (h:SrchOk V n cs) (hg:given.length=V) {σ:Type} (cb:List Int->σ->Option (σ×Bool)): ∀(m d at':Nat) (tab:List Int) (s:σ),at'+m=V->m<d->tab.length=V->(∀x∈tab,0<=x/\x<256)->
    ∀s' b,A9 cb (CS n given (okN cs) m (tab.take at')) s=some (s',b)->
    ∃tab':List Int,tab'.length=V/\(∀x∈tab',0<=x/\x<256)/\tab'.take at'=tab.take at'/\hF cb d ((at':Int),tab,s,Hq V n cs,given,())=some (tab',s',Hq V n cs,given,b):=by
  have hn:=h.hn
  have hV:=h.hv
  intro m
  induction m with
  |zero=>
    intro d a tab s ha hd ht hv s' b hf
    obtain⟨d,rfl⟩: ∃z,d=z+1:=⟨d-1,by omega⟩
    have e:tab.take a=tab:=List.take_of_length_le (by omega)
    rw[e]at hf
    simp only[CS,A9]at hf
    refine⟨tab,ht,hv,rfl,?_⟩
    simp only[hF,Js]
    rw[if_pos (by simp;omega)]
    cases hc:cb tab s with
    |none=>rw[hc]at hf;exact absurd hf (by simp)
    |some q=>
      obtain⟨s1,b1⟩:=q
      rw[hc]at hf
      have:s1=s'/\b1=b:=by cases b1<;>simpa using hf
      obtain⟨rfl,rfl⟩:=this
      rfl
  |succ m ih=>
    intro d a tab s ha hd ht hv s' b hf
    obtain⟨d,rfl⟩: ∃z,d=z+1:=⟨d-1,by omega⟩
    have hat:a<V:=by omega
    have key: ∀(c x f:Nat) (tab1:List Int) (s1:σ),x+c=n->c<f->tab1.length=V->(∀x∈tab1,0<=x/\x<256)->tab1.take a=tab.take a-> ∀s' b,
        A9 cb ((List.range' x c).flatMap λx=>if Ds given (tab.take a).length x&&okN cs (tab.take a++ [(x:Int)])then CS n given (okN cs) m (tab.take a++ [(x:Int)])else []) s1=some (s',b)->
        ∃tab':List Int,tab'.length=V/\(∀x∈tab',0<=x/\x<256)/\tab'.take a=tab.take a/\hL (hF cb d) f ((a:Int),tab1,s1,Hq V n cs,given,(),(x:Int))=some (if b then .inl (tab',s',Hq V n cs,given,())else .inr (tab',s',Hq V n cs,given,(),false)):=by
      intro c
      induction c with
      |zero=>
        intro x f tab1 s1 hx hf1 ht1 hv1 htk s' b hf2
        obtain⟨f,rfl⟩: ∃z,f=z+1:=⟨f-1,by omega⟩
        have:s1=s'/\true=b:=by simpa[A9]using hf2
        obtain⟨rfl,rfl⟩:=this
        refine⟨tab1,ht1,hv1,htk,?_⟩
        simp only[hL]
        rw[if_pos trivial,if_neg (by simp;omega)];rfl
      |succ c ihc=>
        intro x f tab1 s1 hx hf1 ht1 hv1 htk s' b hf2
        obtain⟨f,rfl⟩: ∃z,f=z+1:=⟨f-1,by omega⟩
        have hlen:(tab.take a).length=a:=by rw[List.length_take];omega
        have hag:a<given.length:=by omega
        have hat1:a<tab1.length:=by omega
        have hsc:a<(Ba cs V).length:=by rw[(FR (cs:=cs) hat).1];exact hat
        rw[List.range'_succ,List.flatMap_cons,D2,hlen]at hf2
        rw[hlen]at ihc
        have hset:(tab1.set a (x:Int)).take (a+1)=tab.take a++ [(x:Int)]:=by
          rw[List.take_succ_eq_append_getElem (by simp;omega),List.take_set_of_le (Nat.le_refl _),List.getElem_set_self,htk]
        have hsl:(tab1.set a (x:Int)).length=V:=by simp[ht1]
        have hsv: ∀y∈tab1.set a (x:Int),0<=y/\y<256:=λy hy=>by
          rcases List.mem_or_eq_of_mem_set hy with h1|h1
          · exact hv1 y h1
          · subst h1;omega
        have hst:(tab1.set a (x:Int)).take a=tab.take a:=by rw[List.take_set_of_le (Nat.le_refl _),htk]
        have hfit:=MH (given:=given) h hat hsl hsv s1 (x:Int)
        rw[hset]at hfit
        have hw:w64 ((x:Int)+1)=((x+1:Nat):Int):=Ab (by omega)
        have hwa:w64 ((a:Int)+1)=((a+1:Nat):Int):=Ab (by omega)
        have step : Ds given a x = true → ∀ R, R = (hM Aa ((a : Int), tab1.set a (x : Int), s1, Hq V n cs, given, (), (x : Int), true, gd (Ba cs V) (a : Int) [], ((gd (Ba cs V) (a : Int) []).length : Int), 0)).bind (fun s4 =>
                if s4.2.2.2.2.2.2.2 then
                  (hF cb d (w64 (s4.1+1),s4.2.1,s4.2.2.1,s4.2.2.2.1,s4.2.2.2.2.1,())).bind λr5=>
                    if !r5.2.2.2.2 then
                      some (.inr (r5.1,r5.2.1,r5.2.2.1,r5.2.2.2.1,(),false))
                    else
                      hL (hF cb d) f (s4.1,r5.1,r5.2.1,r5.2.2.1,r5.2.2.2.1,(),w64 (s4.2.2.2.2.2.2.1+1))
                else
                  hL (hF cb d) f (s4.1,s4.2.1,s4.2.2.1,s4.2.2.2.1,s4.2.2.2.2.1,(),w64 (s4.2.2.2.2.2.2.1+1)))->
            ∃tab':List Int,tab'.length=V/\(∀x∈tab',0<=x/\x<256)/\tab'.take a=tab.take a/\R=some (if b then .inl (tab',s',Hq V n cs,given,())else .inr (tab',s',Hq V n cs,given,(),false)):=by
          intro hm R hR
          rw[hfit]at hR
          simp only[Option.bind_some]at hR
          rw[hm]at hf2
          cases hfi:okN cs (tab.take a++ [(x:Int)])with
          |false=>
            rw[hfi]at hf2 hR
            simp only[Bool.and_false,Bool.false_eq_true,if_false,A9]at hf2 hR
            rw[hw]at hR
            rw[hR]
            exact ihc (x+1) f _ s1 (by omega) (by omega) hsl hsv hst s' b hf2
          |true=>
            rw[hfi]at hf2 hR
            simp only[Bool.and_true,if_true]at hf2 hR
            rw[hwa]at hR
            cases hq:A9 cb (CS n given (okN cs) m (tab.take a++ [(x:Int)])) s1 with
            |none=>rw[hq]at hf2;exact absurd hf2 (by simp)
            |some q=>
              obtain⟨s2,b2⟩:=q
              rw[hq]at hf2
              rw[←hset]at hq
              obtain⟨tab2,h1,h2,h3,h4⟩:=ih d (a+1) _ s1 (by omega) (by omega) hsl hsv s2 b2 hq
              have h3':tab2.take a=tab.take a:=by
                have:=congrArg (List.take a) h3
                rw[List.take_take,List.take_take,Nat.min_eq_left (by omega)]at this
                rw[this,hst]
              rw[h4]at hR
              simp only[Option.bind_some]at hR
              cases b2 with
              |false=>
                have:s2=s'/\false=b:=by simpa using hf2
                obtain⟨rfl,rfl⟩:=this
                refine⟨tab2,h1,h2,h3',?_⟩
                rw[hR];rfl
              |true=>
                simp only[Bool.not_true,Bool.false_eq_true,if_false,hw]at hR
                rw[hR]
                exact ihc (x+1) f tab2 s2 (by omega) (by omega) h1 h2 h3' s' b hf2
        simp only[hL,BD,Ac,hag,hat1,hsc,if_true]
        rw[if_pos (by simp;omega)]
        by_cases hc1:gd given (a:Int) 0≥0
        · rw[if_pos (decide_eq_true hc1)]
          by_cases hc2:gd given (a:Int) 0=(x:Int)
          · rw[if_neg (by simpa using hc2)]
            exact step (by unfold Ds;rw[show given.getD a 0=(x:Int) from hc2];simp) _ rfl
          · rw[if_pos (by simpa using hc2),hw]
            have hm:Ds given a x=false:=by
              unfold Ds
              rw[decide_eq_true (show given.getD a 0≥0 from hc1)]
              simp only[Bool.true_and,Bool.not_eq_false',bne_iff_ne];exact hc2
            rw[hm]at hf2
            simp only[Bool.false_and,Bool.false_eq_true,if_false,A9]at hf2
            exact ihc (x+1) f tab1 s1 (by omega) (by omega) ht1 hv1 htk s' b hf2
        · rw[if_neg (by simpa using hc1)]
          exact step (by unfold Ds;rw[decide_eq_false (show¬given.getD a 0≥0 from hc1)];rfl) _ rfl
    simp only[CS]at hf
    rw[List.range_eq_range']at hf
    obtain⟨tab',h1,h2,h3,h4⟩:=key n 0 Aa tab s (by omega) (by unfold Aa;omega) ht hv rfl s' b hf
    refine⟨tab',h1,h2,h3,?_⟩
    simp only[hF,Js]
    rw[if_neg (by simp;omega)]
    have h4:hL (hF cb d) Aa ((a:Int),tab,s,Hq V n cs,given,(),0)=_:=h4
    rw[h4]
    cases b<;>rfl
def DY (V n:Nat) (cs:List Con) (given:List Int):List (List Int):=CS n given (okN cs) V []
theorem Lp {a b:Nat} {x:Int} (hx:x=(b:Int)):Yht (a:Int) x=((max a b:Nat):Int):=by
 subst hx;unfold Yht;split<;>omega
theorem JY (h:SrchOk V n cs):D4 ((V:Int),((n:Int),cs))=some (Hq V n cs):=by
 have hV:=h.hv
 have hc:=h.hc
 unfold D4
 have h3:=CO cs.length (λf (o:Int×(List (List (List Int))×List (List (List ByteArray)))) i=>Bz f (o,cs,(cs.length:Int),i)) (λk=>((n:Int),(Ba (cs.take k) V,C8 (cs.take k) V))) (r:=some ((n:Int),(Ba cs V,C8 cs V))) (λf k hk=>?_) (λf=>?_) (n:=Aa) (by unfold Aa;omega)
 ·have e1:Ba (cs.take 0) V=List.replicate V []:=by
   unfold Ba Az;simp[List.map_const']
  have e2:C8 (cs.take 0) V=List.replicate V []:=by
   unfold C8 Az;simp[List.map_const']
  rw[e1,e2]at h3
  have h3:Bz Aa (((n:Int),(List.replicate (Int.toNat (V:Int)) ([]:List (List Int)),List.replicate (Int.toNat (V:Int)) ([]:List (List ByteArray)))),cs,(cs.length:Int),0)=_:=h3
  rw[if_pos (by unfold lim;omega),if_pos (by unfold lim;omega),h3];rfl
 ·have hcon:=h.con _ (List.getElem_mem hk)
  have hsl:=hcon.sl
  have har:=hcon.ar
  have hmany:=hcon.many
  have h7:=CO cs[k].1.length (λf (o:Int) i=>BA f (((n:Int),(Ba (cs.take k) V,C8 (cs.take k) V)),cs[k],o,cs,(cs.length:Int),(k:Int),cs[k].1,(cs[k].1.length:Int),i)) (λj=>(((cs[k].1.take j).foldl (λm v=>max m v.toNat) 0:Nat):Int)) (r:=some (((n:Int),(Ba (cs.take k) V,C8 (cs.take k) V)),cs[k],(B7 cs[k]:Int),cs,(cs.length:Int),(k:Int))) (λf j hj=>?_) (λf=>?_) (n:=Aa) (by unfold Aa;omega)
  ·have hm:B7 cs[k]<V:=(E1 h (E6.2 ⟨List.getElem_mem hk,rfl⟩)).2
   have h7:BA Aa (((n:Int),(Ba (cs.take k) V,C8 (cs.take k) V)),(cs[k].1,(cs[k].2.1,cs[k].2.2)),0,cs,(cs.length:Int),(k:Int),cs[k].1,(cs[k].1.length:Int),0)=_:=h7
   obtain⟨l1,e1⟩:=FR (cs:=cs.take k) hm
   obtain⟨l2,e2⟩:=H7 (cs:=cs.take k) hm
   have hi1:inb (B7 cs[k]:Int) (Ba (cs.take k) V):=by unfold inb;omega
   have hi2:inb (B7 cs[k]:Int) (C8 (cs.take k) V):=by unfold inb;omega
   have g1:gd (Ba (cs.take k) V) (B7 cs[k]:Int) []=(Az (cs.take k) (B7 cs[k])).map (·.1):=e1
   have g2:gd (C8 (cs.take k) V) (B7 cs[k]:Int) []=(Az (cs.take k) (B7 cs[k])).map λc=>D0 c.2.2:=e2
   have hts:=E5 (r:=(cs[k].2.1,cs[k].2.2)) (show cs[k].2.2.length<=1048576 by omega) (λt ht=>⟨by have:=hcon.tl t ht;omega,λy hy=>by
    obtain⟨i,hi,rfl⟩:=List.mem_iff_getElem.1 hy
    have:=hcon.tv t ht i hi
    have:=h.hn
    omega⟩)
   have hcl:(Az (cs.take k) (B7 cs[k])).length<=40:=Nat.le_trans (List.length_filter_le _ _) (by rw[List.length_take];omega)
   have hca: ∀v,Az (cs.take (k+1)) v=Az (cs.take k) v++(if B7 cs[k]=v then [cs[k]]else []):=λv=>by
    unfold Az
    rw[List.take_succ_eq_append_getElem hk,List.filter_append]
    congr 1
    by_cases e:B7 cs[k]=v<;>simp[e]
   have s1:(Ba (cs.take k) V).set (B7 cs[k]) ((Az (cs.take k) (B7 cs[k])).map (·.1)++ [cs[k].1])=Ba (cs.take (k+1)) V:=by
    apply List.ext_getElem
    ·simp[Ba]
    ·intro v h1 h2
     rw[List.getElem_set]
     simp only[Ba,List.getElem_map,List.getElem_range,hca,List.map_append]
     by_cases e:B7 cs[k]=v
     ·rw[if_pos e,if_pos e,←e];rfl
     ·rw[if_neg e,if_neg e];simp
   have s2:(C8 (cs.take k) V).set (B7 cs[k]) ((Az (cs.take k) (B7 cs[k])).map (λc=>D0 c.2.2)++ [D0 cs[k].2.2])=C8 (cs.take (k+1)) V:=by
    apply List.ext_getElem
    ·simp[C8]
    ·intro v h1 h2
     rw[List.getElem_set]
     simp only[C8,List.getElem_map,List.getElem_range,hca,List.map_append]
     by_cases e:B7 cs[k]=v
     ·rw[if_pos e,if_pos e,←e];rfl
     ·rw[if_neg e,if_neg e];simp
   simp only[Bz,Ac,hk,Ai hk,h7,Option.bind_some,if_true,Ac.1 hi1,Ac.1 hi2,g1,g2,hts,BD,s1,s2,Ab (show k<4611686018427387904 by omega)]
   rw[if_pos (by simp;omega),if_pos (by simp;unfold lim;omega),if_pos (by simp;unfold lim;omega)]
  ·have hj':=hcon.sv j hj
   have e:=Lp (a:=(cs[k].1.take j).foldl (λm v=>max m v.toNat) 0) (b:=(cs[k].1[j]).toNat) (x:=cs[k].1[j]) (by omega)
   have e2:(cs[k].1.take (j+1)).foldl (λm v=>max m v.toNat) 0=max ((cs[k].1.take j).foldl (λm v=>max m v.toNat) 0) (cs[k].1[j]).toNat:=by
    rw[List.take_succ_eq_append_getElem hj,List.foldl_append];rfl
   simp only[BA,Ac,hj,Ai hj,e,e2,if_true,Ab (show j<4611686018427387904 by omega)]
   rw[if_pos (by simp;omega)]
  ·simp only[BA,List.take_length]
   rw[if_neg (by simp)];rfl
 ·simp only[Bz,List.take_length]
  rw[if_neg (by simp)]
def I1 (t:List Int) (s:Bool×List Int):Option ((Bool×List Int)×Bool):=(Cy t (s.1,s.2)).bind λr=>some ((r.1.1,r.1.2),r.2)
theorem Ix (rec): ∀f x,Aj rec f x=hM f x
 |0,_=>rfl
 |f+1,(a,b,c,d,e,g,x,y,z,u,v)=>by simp only[Aj,hM,Ix rec f]
theorem Iw (rec): ∀f x,Ag rec f x=hL rec f x
 |0,_=>rfl
 |f+1,(a,b,c,d,e,g,x)=>by simp only[Ag,hL,Iw rec f,Ix]
theorem Kn: ∀d x,Al d x=hF I1 d x
 |0,_=>rfl
 |d+1,(a,t,(s1,s2),ps,g,u)=>by
  have e:Al d=hF I1 d:=funext λx=>Kn d x
  simp only[Al,hF,Js,Be,Iw,e]
  split
  ·unfold I1;cases Cy t (s1,s2)<;>rfl
  ·congr 1;funext z;cases z<;>rfl
def If (l:List (List Int)):Bool×List Int:=match l with| []=>(false,[])|t::_=>(true,t)
theorem Iy (h:SrchOk V n cs) (hg:given.length=V):DN ((V:Int),((n:Int),cs)) given=some (If (DY V n cs given)):=by
 have hV:=h.hv
 unfold DN
 have e1:=JY h
 have hcb: ∀t s,t.length<=1048576->I1 t s=some ((true,t),false):=λt s ht=>by
  unfold I1 Cy Gt
  rw[if_pos (by simp;unfold lim;omega)];rfl
 have hfold:A9 I1 (DY V n cs given) (false,[])=some (If (DY V n cs given),match DY V n cs given with| []=>true|_=>false):=by
  cases hs:DY V n cs given with
  |nil=>rfl
  |cons t l=>
   have ht:=(Ie (n:=n) (given:=given) (ok:=okN cs) V [] t (by unfold DY at hs;rw[hs];exact List.mem_cons_self ..)).1
   simp only[A9]
   rw[hcb t _ (by simp at ht;omega)];rfl
 obtain⟨tab',_,_,_,h4⟩:=MG h hg I1 V Aa 0 (List.replicate V 0) (false,[]) (by omega) (by unfold Aa;omega) (by simp) (λx hx=>by rw[List.eq_of_mem_replicate hx];omega) _ _ (by simpa[DY]using hfold)
 have h4:Al Aa (0,List.replicate V 0,(false,[]),Hq V n cs,given,())=_:=(Kn Aa _).trans h4
 simp only[e1,Option.bind_some]
 unfold BP
 rw[if_pos (by unfold lim;omega)]
 have hr:List.replicate (Int.toNat (given.length:Int)) (0:Int)=List.replicate V 0:=by rw[hg];rfl
 rw[hr,h4];rfl
end
end T
open Go Go.Va
namespace T
abbrev S19:=List (List Int)×Int×Int×Bool
def E9 (s:S19):Bool:=s.2.2.2&&decide (s.2.1>0)
def IP (t:List Int) (s:S19):Option (S19×Bool):=
 let s':S19:=(if decide ((s.1.length:Int)<s.2.2.1)then s.1++ [t]else s.1,s.2.1+1,s.2.2.1,s.2.2.2)
 some (s',!E9 s')
theorem HQ: ∀(l:List (List Int)) (s s':S19) (b:Bool),A9 IP l s=some (s',b)->s.2.1<=s'.2.1/\s'.2.1<=s.2.1+l.length/\s'.1.length<=s.1.length+l.length/\s'.2.2=s.2.2/\(E9 s=false->b=!E9 s')
 | [],s,s',b,h=>by
  have:s=s'/\true=b:=by simpa[A9]using h
  obtain⟨rfl,rfl⟩:=this
  exact⟨by omega,by simp,by simp,rfl,λh=>by simp[h]⟩
 |t::l,s,s',b,h=>by
  simp only[A9,IP]at h
  generalize hs1:((if decide ((s.1.length:Int)<s.2.2.1)then s.1++ [t]else s.1,s.2.1+1,s.2.2.1,s.2.2.2):S19)=s1 at h
  have h1:s1.2.1=s.2.1+1:=by rw[←hs1]
  have h2:s1.1.length<=s.1.length+1:=by
   rw[←hs1]
   show(if decide ((s.1.length:Int)<s.2.2.1)then s.1++ [t]else s.1).length<=_
   split<;>simp
  have h3:s1.2.2=s.2.2:=by rw[←hs1]
  cases hb:E9 s1 with
  |true=>
   rw[hb]at h
   have:s1=s'/\false=b:=by simpa using h
   obtain⟨rfl,rfl⟩:=this
   rw[List.length_cons]
   exact⟨by omega,by omega,by omega,h3,λ_=>by rw[hb];rfl⟩
  |false=>
   rw[hb]at h
   obtain⟨g1,g2,g3,g4,g5⟩:=HQ l s1 s' b h
   rw[List.length_cons]
   exact⟨by omega,by push_cast;omega,by omega,g4.trans h3,λ_=>g5 hb⟩
theorem HR: ∀(l:List (List Int)) (s:S19),∃q,A9 IP l s=some q
 | [],s=>⟨_,rfl⟩
 |t::l,s=>by
  simp only[A9,IP]
  generalize ((if decide ((s.1.length:Int)<s.2.2.1)then s.1++ [t]else s.1,s.2.1+1,s.2.2.1,s.2.2.2):S19)=s1
  cases hb:E9 s1 with
  |true=>exact⟨_,rfl⟩
  |false=>exact HR l s1
section
variable {V n:Nat} {cs:List Con} {given:List Int}
def atN (cs:List Con) (V:Nat):List (List Con):=(List.range V).map (Az cs)
theorem Jl {v:Nat} (hv:v<V):(atN cs V).length=V/\(atN cs V).getD v []=Az cs v:=by
 refine⟨by simp[atN],?_⟩
 rw[Ah (by simp[atN];exact hv)];simp[atN]
theorem Lr (h:SrchOk V n cs):Fj (V:Int) cs=some (atN cs V):=by
 have hV:=h.hv
 have hc:=h.hc
 unfold Fj
 rw[if_pos (by unfold lim;omega)]
 have h3:=CO cs.length (λf (o:List (List Con)) i=>CC f (cs,o,i)) (λk=>atN (cs.take k) V) (r:=some (atN cs V)) (λf k hk=>?_) (λf=>?_) (n:=Aa) (by unfold Aa;omega)
 ·have e1:atN (cs.take 0) V=List.replicate V []:=by
   unfold atN
   have:Az (cs.take 0)=λ_=> []:=by funext v;simp[Az]
   rw[this];simp[List.map_const']
  rw[e1]at h3
  have h3:CC Aa (cs,List.replicate (Int.toNat (V:Int)) ([]:List Con),0)=_:=h3
  rw[h3];rfl
 ·have hcon:=h.con _ (List.getElem_mem hk)
  have hsl:=hcon.sl
  have har:=hcon.ar
  have h7:=CO cs[k].1.length (λf (o:Int) i=>CD f (cs,atN (cs.take k) V,(k:Int),o,i)) (λj=>(((cs[k].1.take j).foldl (λm v=>max m v.toNat) 0:Nat):Int)) (r:=some (cs,atN (cs.take k) V,(k:Int),(B7 cs[k]:Int))) (λf j hj=>?_) (λf=>?_) (n:=Aa) (by unfold Aa;omega)
  ·have hm:B7 cs[k]<V:=(E1 h (E6.2 ⟨List.getElem_mem hk,rfl⟩)).2
   have h7:CD Aa (cs,atN (cs.take k) V,(k:Int),0,0)=_:=h7
   obtain⟨l1,e1⟩:=Jl (cs:=cs.take k) hm
   have hi1:inb (B7 cs[k]:Int) (atN (cs.take k) V):=by unfold inb;omega
   have g1:gd (atN (cs.take k) V) (B7 cs[k]:Int) []=Az (cs.take k) (B7 cs[k]):=e1
   have hcl:(Az (cs.take k) (B7 cs[k])).length<=40:=Nat.le_trans (List.length_filter_le _ _) (by rw[List.length_take];omega)
   have hca: ∀v,Az (cs.take (k+1)) v=Az (cs.take k) v++(if B7 cs[k]=v then [cs[k]]else []):=λv=>by
    unfold Az
    rw[List.take_succ_eq_append_getElem hk,List.filter_append]
    congr 1
    by_cases e:B7 cs[k]=v<;>simp[e]
   have s1:(atN (cs.take k) V).set (B7 cs[k]) (Az (cs.take k) (B7 cs[k])++ [cs[k]])=atN (cs.take (k+1)) V:=by
    apply List.ext_getElem
    ·simp[atN]
    ·intro v h1 h2
     rw[List.getElem_set]
     simp only[atN,List.getElem_map,List.getElem_range,hca]
     by_cases e:B7 cs[k]=v
     ·rw[if_pos e,if_pos e,←e]
     ·rw[if_neg e,if_neg e];simp
   simp only[CC,Ac,hk,Ai hk,h7,Option.bind_some,if_true,Ac.1 hi1,g1,BD,s1,Ab (show k<4611686018427387904 by omega)]
   rw[if_pos (by simp;omega),if_pos (by simp;unfold lim;omega)]
  ·have hj':=hcon.sv j hj
   have hjx:cs[k].1[j]=(((cs[k].1[j]).toNat:Nat):Int):=by omega
   have e2:(cs[k].1.take (j+1)).foldl (λm v=>max m v.toNat) 0=max ((cs[k].1.take j).foldl (λm v=>max m v.toNat) 0) (cs[k].1[j]).toNat:=by
    rw[List.take_succ_eq_append_getElem hj,List.foldl_append];rfl
   have e:CM (((cs[k].1.take j).foldl (λm v=>max m v.toNat) 0:Nat):Int) cs[k].1[j]=some ((max ((cs[k].1.take j).foldl (λm v=>max m v.toNat) 0) (cs[k].1[j]).toNat:Nat):Int):=by
    rw[hjx];exact Ft _ _
   simp only[CD,Ac,hk,Ai hk,hj,Ai hj,e,e2,if_true,Option.bind_some,Ab (show j<4611686018427387904 by omega)]
   rw[if_pos (by simp;omega)]
  ·simp only[CD,Ac,hk,Ai hk,List.take_length,if_true]
   rw[if_neg (by simp)];rfl
 ·simp only[CC,List.take_length]
  rw[if_neg (by simp)]
theorem Ll (h:SrchOk V n cs) (rec:Int×List (List Con)×List Int×List Int×S19->Option S19) {v:Nat} (hv:v<V) {next:List Int} (hl:next.length=v+1) {pre:List Int} {s s0:S19} {x:Int}:
  AO rec Aa ((n:Int),atN cs V,given,pre,s,s0,(v:Int),x,next,true,0)=some ((n:Int),atN cs V,given,pre,s,s0,(v:Int),x,next,okN cs next):=by
 obtain⟨l1,e1⟩:=Jl (cs:=cs) hv
 have hiv:inb (v:Int) (atN cs V):=by unfold inb;omega
 have hg:gd (atN cs V) (v:Int) []=Az cs v:=e1
 have hcl:(Az cs v).length<=40:=Nat.le_trans (List.length_filter_le _ _) h.hc
 have key: ∀(d k f:Nat) (g:Bool),k+d=(Az cs v).length->d<f->AO rec f ((n:Int),atN cs V,given,pre,s,s0,(v:Int),x,next,g,(k:Int))=some ((n:Int),atN cs V,given,pre,s,s0,(v:Int),x,next,g&&((Az cs v).drop k).all (Ck next)):=by
  intro d
  induction d with
  |zero=>
   intro k f g hk hf
   obtain⟨f,rfl⟩: ∃z,f=z+1:=⟨f-1,by omega⟩
   have:k=(Az cs v).length:=by omega
   subst this
   simp only[AO,hiv,hg,if_true,List.drop_length]
   rw[if_neg (by simp)];simp
  |succ d ih=>
   intro k f g hk hf
   obtain⟨f,rfl⟩: ∃z,f=z+1:=⟨f-1,by omega⟩
   have hkl:k<(Az cs v).length:=by omega
   simp only[AO,hiv,hg,if_true]
   rw[if_pos (by simp;omega)]
   cases g with
   |false=>simp
   |true=>
    have hcon:=(E1 h (List.getElem_mem hkl)).1
    have hs:=Dt hcon (vs:=next) (by omega)
    rw[List.drop_eq_getElem_cons hkl,List.all_cons]
    simp only[if_true,Ac,hkl,Ai hkl,hs,Option.bind_some,Ab (show k<4611686018427387904 by omega)]
    rw[ih (k+1) f _ (by omega) (by omega),Bool.true_and]
 have:=key (Az cs v).length 0 Aa true (by omega) (by unfold Aa;omega)
 have e2:okN cs next=(Az cs v).all (Ck next):=by unfold okN;rw[hl];rfl
 rw[e2]
 simpa using this
theorem Lk (h:SrchOk V n cs) (hg:given.length=V): ∀(m d:Nat) (pre:List Int) (s:S19),pre.length+m=V->m<d->E9 s=false->0<=s.2.1->s.2.2.1<=1000000->s.2.1+(CS n given (okN cs) m pre).length<=4611686018427387904->
    ∀s' b,A9 IP (CS n given (okN cs) m pre) s=some (s',b)->Ax d ((n:Int),atN cs V,given,pre,s)=some s':=by
  have hn:=h.hn
  have hV:=h.hv
  intro m
  induction m with
  |zero=>
    intro d pre s hpre hd hst h0 hr1 hr2 s' b hf
    obtain⟨d,rfl⟩: ∃z,d=z+1:=⟨d-1,by omega⟩
    have hlN:(atN cs V).length=V:=by simp[atN]
    simp only[CS,A9,IP]at hf
    simp only[Ax,Ew]
    simp only[CS,List.length_singleton]at hr2
    have hs':s'=(if decide ((s.1.length:Int)<s.2.2.1)then s.1++ [pre]else s.1,s.2.1+1,s.2.2.1,s.2.2.2):=by
      cases hb:E9 ((if decide ((s.1.length:Int)<s.2.2.1)then s.1++ [pre]else s.1,s.2.1+1,s.2.2.1,s.2.2.2):S19)<;>rw[hb]at hf<;>simp at hf<;>rw[←hf.1]<;>simp
    have hw:w64 (s.2.1+1)=s.2.1+1:=AL (by omega) (by omega)
    rw[if_pos (by simp;omega),hs',hw,DH (by omega)]
    by_cases hc:(s.1.length:Int)<s.2.2.1
    · rw[if_pos (decide_eq_true hc),if_pos (decide_eq_true hc)]
      simp only[Option.bind_some]
      rw[if_pos (by rw[List.length_singleton];unfold lim;omega)]
    · rw[if_neg (by simpa using hc),if_neg (by simpa using hc)]
  |succ m ih=>
    intro d pre s hpre hd hst h0 hr1 hr2 s' b hf
    obtain⟨d,rfl⟩: ∃z,d=z+1:=⟨d-1,by omega⟩
    have hat:pre.length<V:=by omega
    have key: ∀(c x f:Nat) (s1:S19),x+c=n->c<f->E9 s1=false->0<=s1.2.1->
        s1.2.2.1<=1000000->
        s1.2.1+((List.range' x c).flatMap λx=>if Ds given pre.length x&&okN cs (pre++ [(x:Int)])then CS n given (okN cs) m (pre++ [(x:Int)])else []).length<=4611686018427387904-> ∀s' b,
        A9 IP ((List.range' x c).flatMap λx=>if Ds given pre.length x&&okN cs (pre++ [(x:Int)])then CS n given (okN cs) m (pre++ [(x:Int)])else []) s1=some (s',b)->
        Am (Ax d) f ((n:Int),atN cs V,given,pre,s1,([],(0,(0,false))),(pre.length:Int),(x:Int))=some (s',([],(0,(0,false)))):=by
      intro c
      induction c with
      |zero=>
        intro x f s1 hx hf1 hst1 h01 hr1 hr2 s' b hf2
        obtain⟨f,rfl⟩: ∃z,f=z+1:=⟨f-1,by omega⟩
        have:s1=s'/\true=b:=by simpa[A9]using hf2
        obtain⟨rfl,rfl⟩:=this
        simp only[Am]
        rw[if_neg (by simp;omega)]
      |succ c ihc=>
        intro x f s1 hx hf1 hst1 h01 hr1 hr2 s' b hf2
        obtain⟨f,rfl⟩: ∃z,f=z+1:=⟨f-1,by omega⟩
        have hag:pre.length<given.length:=by omega
        rw[List.range'_succ,List.flatMap_cons,D2]at hf2
        rw[List.range'_succ,List.flatMap_cons,List.length_append]at hr2
        have hol:=Ll (given:=given) (pre:=pre) (s:=s1) (s0:=([],(0,(0,false)))) (x:=(x:Int)) h (Ax d) hat (next:=pre++ [(x:Int)]) (by simp)
        have hw:w64 ((x:Int)+1)=((x+1:Nat):Int):=Ab (by omega)
        have hover: ∀(z:S19) (f' y:Nat),0<f'->E9 z=true->Am (Ax d) f' ((n:Int),atN cs V,given,pre,z,([],(0,(0,false))),(pre.length:Int),(y:Int))=some (z,([],(0,(0,false)))):=λz f' y hf' hz=>by
          obtain⟨f',rfl⟩: ∃q,f'=q+1:=⟨f'-1,by omega⟩
          unfold E9 at hz
          rw[Bool.and_eq_true]at hz
          simp only[Am,hz.1,hz.2,if_true,Bool.not_true,Bool.false_eq_true,if_false]
          split<;>(obtain⟨z1,z2,z3,z4⟩:=z;dsimp only at hz⊢;rw[hz.1])
        have step : Ds given pre.length x = true → ∀ R, R = (AO (Ax d) Aa ((n : Int), atN cs V, given, pre, (s1.1, (s1.2.1, (s1.2.2.1, s1.2.2.2))), ([], (0, (0, false))), (pre.length : Int), (x : Int), pre ++ [(x : Int)], true, 0)).bind (fun s6 =>
                  if s6.2.2.2.2.2.2.2.2.2 then
                    (Ax d (s6.1,s6.2.1,s6.2.2.1,s6.2.2.2.2.2.2.2.2.1,(s6.2.2.2.2.1.1,(s6.2.2.2.2.1.2.1,(s6.2.2.2.2.1.2.2.1,s6.2.2.2.2.1.2.2.2))))).bind λr7=>
                      Am (Ax d) f (s6.1,s6.2.1,s6.2.2.1,s6.2.2.2.1,(r7.1,(r7.2.1,(r7.2.2.1,r7.2.2.2))),(s6.2.2.2.2.2.1.1,(s6.2.2.2.2.2.1.2.1,(s6.2.2.2.2.2.1.2.2.1,s6.2.2.2.2.2.1.2.2.2))),s6.2.2.2.2.2.2.1,w64 (s6.2.2.2.2.2.2.2.1+1))
                  else
                    Am (Ax d) f (s6.1,s6.2.1,s6.2.2.1,s6.2.2.2.1,(s6.2.2.2.2.1.1,(s6.2.2.2.2.1.2.1,(s6.2.2.2.2.1.2.2.1,s6.2.2.2.2.1.2.2.2))),(s6.2.2.2.2.2.1.1,(s6.2.2.2.2.2.1.2.1,(s6.2.2.2.2.2.1.2.2.1,s6.2.2.2.2.2.1.2.2.2))),s6.2.2.2.2.2.2.1,w64 (s6.2.2.2.2.2.2.2.1+1)))->
            R=some (s',([],(0,(0,false)))):=by
          intro hm R hR
          have hol:AO (Ax d) Aa ((n:Int),atN cs V,given,pre,(s1.1,(s1.2.1,(s1.2.2.1,s1.2.2.2))),([],(0,(0,false))),(pre.length:Int),(x:Int),pre++ [(x:Int)],true,0)=_:=hol
          rw[hol]at hR
          simp only[Option.bind_some,hw]at hR
          rw[hm]at hf2 hr2
          cases hfi:okN cs (pre++ [(x:Int)])with
          |false=>
            rw[hfi]at hf2 hr2 hR
            simp only[Bool.and_false,Bool.false_eq_true,if_false,A9,List.length_nil,Nat.zero_add]at hf2 hr2 hR
            rw[hR]
            exact ihc (x+1) f s1 (by omega) (by omega) hst1 h01 hr1 hr2 s' b hf2
          |true=>
            rw[hfi]at hf2 hr2 hR
            simp only[Bool.and_true,if_true]at hf2 hr2 hR
            obtain⟨⟨s2,b2⟩,hq⟩:=HR (CS n given (okN cs) m (pre++ [(x:Int)])) s1
            obtain⟨g1,g2,g3,g4,g5⟩:=HQ _ _ _ _ hq
            have g5:=g5 hst1
            rw[hq]at hf2
            have hrec:=ih d (pre++ [(x:Int)]) s1 (by simp;omega) (by omega) hst1 h01 (by omega) (by push_cast at hr2;omega) s2 b2 hq
            have hrec:Ax d ((n:Int),atN cs V,given,pre++ [(x:Int)],(s1.1,(s1.2.1,(s1.2.2.1,s1.2.2.2))))=some s2:=hrec
            rw[hrec]at hR
            simp only[Option.bind_some]at hR
            cases hb2:E9 s2 with
            |true=>
              rw[hb2]at g5
              subst g5
              have:s2=s'/\false=b:=by simpa using hf2
              obtain⟨rfl,rfl⟩:=this
              rw[hR]
              exact hover s2 f (x+1) (by omega) hb2
            |false=>
              rw[hb2]at g5
              subst g5
              rw[hR]
              exact ihc (x+1) f s2 (by omega) (by omega) hb2 (by omega) (by rw[g4];exact hr1) (by push_cast at hr2;omega) s' b hf2
        have hlim:pre.length+ [(x:Int)].length<=lim:=by rw[List.length_singleton];unfold lim;omega
        have body: ∀R,R=(if inb (pre.length:Int) given then
            if decide ((gd given (pre.length:Int) 0)≥0)then
              if inb (pre.length:Int) given then
                if(gd given (pre.length:Int) 0) !=(x:Int)then
                  Am (Ax d) f ((n:Int),atN cs V,given,pre,(s1.1,(s1.2.1,(s1.2.2.1,s1.2.2.2))),([],(0,(0,false))),(pre.length:Int),w64 ((x:Int)+1))
                else
                  (B1 pre).bind λr2=>
                    if r2.length+ [(x:Int)].length<=lim then
                      (AO (Ax d) Aa ((n:Int),atN cs V,given,pre,(s1.1,(s1.2.1,(s1.2.2.1,s1.2.2.2))),([],(0,(0,false))),(pre.length:Int),(x:Int),r2++ [(x:Int)],true,0)).bind (λs6=>
                        if s6.2.2.2.2.2.2.2.2.2 then
                          (Ax d (s6.1,s6.2.1,s6.2.2.1,s6.2.2.2.2.2.2.2.2.1,(s6.2.2.2.2.1.1,(s6.2.2.2.2.1.2.1,(s6.2.2.2.2.1.2.2.1,s6.2.2.2.2.1.2.2.2))))).bind λr7=>
                            Am (Ax d) f (s6.1,s6.2.1,s6.2.2.1,s6.2.2.2.1,(r7.1,(r7.2.1,(r7.2.2.1,r7.2.2.2))),(s6.2.2.2.2.2.1.1,(s6.2.2.2.2.2.1.2.1,(s6.2.2.2.2.2.1.2.2.1,s6.2.2.2.2.2.1.2.2.2))),s6.2.2.2.2.2.2.1,w64 (s6.2.2.2.2.2.2.2.1+1))
                        else
                          Am (Ax d) f (s6.1,s6.2.1,s6.2.2.1,s6.2.2.2.1,(s6.2.2.2.2.1.1,(s6.2.2.2.2.1.2.1,(s6.2.2.2.2.1.2.2.1,s6.2.2.2.2.1.2.2.2))),(s6.2.2.2.2.2.1.1,(s6.2.2.2.2.2.1.2.1,(s6.2.2.2.2.2.1.2.2.1,s6.2.2.2.2.2.1.2.2.2))),s6.2.2.2.2.2.2.1,w64 (s6.2.2.2.2.2.2.2.1+1)))
                    else none
              else none
            else
              (B1 pre).bind λr2=>
                if r2.length+ [(x:Int)].length<=lim then
                  (AO (Ax d) Aa ((n:Int),atN cs V,given,pre,(s1.1,(s1.2.1,(s1.2.2.1,s1.2.2.2))),([],(0,(0,false))),(pre.length:Int),(x:Int),r2++ [(x:Int)],true,0)).bind (λs6=>
                    if s6.2.2.2.2.2.2.2.2.2 then
                      (Ax d (s6.1,s6.2.1,s6.2.2.1,s6.2.2.2.2.2.2.2.2.1,(s6.2.2.2.2.1.1,(s6.2.2.2.2.1.2.1,(s6.2.2.2.2.1.2.2.1,s6.2.2.2.2.1.2.2.2))))).bind λr7=>
                        Am (Ax d) f (s6.1,s6.2.1,s6.2.2.1,s6.2.2.2.1,(r7.1,(r7.2.1,(r7.2.2.1,r7.2.2.2))),(s6.2.2.2.2.2.1.1,(s6.2.2.2.2.2.1.2.1,(s6.2.2.2.2.2.1.2.2.1,s6.2.2.2.2.2.1.2.2.2))),s6.2.2.2.2.2.2.1,w64 (s6.2.2.2.2.2.2.2.1+1))
                    else
                      Am (Ax d) f (s6.1,s6.2.1,s6.2.2.1,s6.2.2.2.1,(s6.2.2.2.2.1.1,(s6.2.2.2.2.1.2.1,(s6.2.2.2.2.1.2.2.1,s6.2.2.2.2.1.2.2.2))),(s6.2.2.2.2.2.1.1,(s6.2.2.2.2.2.1.2.1,(s6.2.2.2.2.2.1.2.2.1,s6.2.2.2.2.2.1.2.2.2))),s6.2.2.2.2.2.2.1,w64 (s6.2.2.2.2.2.2.2.1+1)))
                else none
          else none)->R=some (s',([],(0,(0,false)))):=by
          intro R hR
          rw[DH (show pre.length<=1099511627775 by omega)]at hR
          simp only[Ac,hag,if_true,Option.bind_some]at hR
          rw[if_pos hlim]at hR
          by_cases hc1:gd given (pre.length:Int) 0≥0
          · rw[if_pos (decide_eq_true hc1)]at hR
            by_cases hc2:gd given (pre.length:Int) 0=(x:Int)
            · rw[if_neg (by simpa using hc2)]at hR
              exact step (by unfold Ds;rw[show given.getD pre.length 0=(x:Int) from hc2];simp) R hR
            · rw[if_pos (by simpa using hc2),hw]at hR
              have hm:Ds given pre.length x=false:=by
                unfold Ds
                rw[decide_eq_true (show given.getD pre.length 0≥0 from hc1)]
                simp only[Bool.true_and,Bool.not_eq_false',bne_iff_ne];exact hc2
              rw[hm]at hf2 hr2
              simp only[Bool.false_and,Bool.false_eq_true,if_false,A9,List.length_nil,Nat.zero_add]at hf2 hr2
              rw[hR]
              exact ihc (x+1) f s1 (by omega) (by omega) hst1 h01 hr1 hr2 s' b hf2
          · rw[if_neg (by simpa using hc1)]at hR
            exact step (by unfold Ds;rw[decide_eq_false (show¬given.getD pre.length 0≥0 from hc1)];rfl) R hR
        simp only[Am]
        rw[if_pos (by simp;omega)]
        cases hone:s1.2.2.2 with
        |true=>
          have hcnt:decide (s1.2.1>0)=false:=by unfold E9 at hst1;rw[hone]at hst1;simpa using hst1
          rw[hcnt]
          simp only[if_true,Bool.not_false]
          refine body _ ?_
          rw[hone]
        |false=>
          simp only[Bool.false_eq_true,if_false,Bool.not_false,if_true]
          refine body _ ?_
          rw[hone]
    simp only[CS]at hf hr2
    rw[List.range_eq_range']at hf hr2
    have h4:=key n 0 Aa s (by omega) (by unfold Aa;omega) hst h0 hr1 hr2 s' b hf
    have hlN:(atN cs V).length=V:=by simp[atN]
    simp only[Ax,Ew]
    rw[if_neg (by simp;omega)]
    have h4:Am (Ax d) Aa ((n:Int),atN cs V,given,pre,(s.1,(s.2.1,(s.2.2.1,s.2.2.2))),([],(0,(0,false))),(pre.length:Int),0)=_:=h4
    rw[h4];rfl
theorem HO (h:SrchOk V n cs) (hg:given.length=V) {cs0:List Con} {most:Int} {one:Bool} (hm:most<=1000000) {s':S19} {b:Bool} (hf:A9 IP (DY V n cs given) ([],0,most,one)=some (s',b)):
  EA ((V:Int),((n:Int),cs0)) cs given most one=some s':=by
 have hV:=h.hv
 have hn:=h.hn
 unfold EA
 have hl:(DY V n cs given).length<=4^9:=by
  refine Nat.le_trans (Id (n:=n) (given:=given) V []) ?_
  exact Nat.le_trans (Nat.pow_le_pow_left hn.2 V) (Nat.pow_le_pow_right (by omega) hV)
 have:=Lk h hg V Aa [] ([],0,most,one) (by simp) (by unfold Aa;omega) (by simp[E9]) (by simp) hm (by
  have:(4:Nat)^9=262144:=by decide
  rw[this]at hl
  have:(CS n given (okN cs) V []).length=(DY V n cs given).length:=rfl
  dsimp only;omega) s' b hf
 simp only[Lr h,Option.bind_some,this]
end
end T
set_option linter.unusedVariables false
open Go Go.Va
namespace T
def CE (c:(List Int)×Int×Int):Option (((List Int)×Int×Int)×Int):=
 if decide (c.2.1<(c.1.length:Int))then
 if inb c.2.1 c.1 then
 if decide ((w64 (c.2.1+1))<=(c.1.length:Int))then
 some ((c.1,(w64 (c.2.1+1),IntKind.wrap .u64 ((IntKind.wrap .u64 ((IntKind.wrap .u64 (c.2.2*6364136223846793005))+(IntKind.wrap .u64 (w64 (gd c.1 c.2.1 0)))))+550289))),w64 (gd c.1 c.2.1 0))
 else
 if(0:Int)<=40 then
 some ((c.1,(w64 (c.2.1+1),IntKind.wrap .u64 ((IntKind.wrap .u64 ((IntKind.wrap .u64 (c.2.2*6364136223846793005))+(IntKind.wrap .u64 (w64 (gd c.1 c.2.1 0)))))+550289))),w64 (Yhj .u64 (YhC .u64 (IntKind.wrap .u64 ((IntKind.wrap .u64 ((IntKind.wrap .u64 (c.2.2*6364136223846793005))+(IntKind.wrap .u64 (w64 (gd c.1 c.2.1 0)))))+550289)) 40) 255))
 else none
 else none
 else
 if decide ((w64 (c.2.1+1))<=(c.1.length:Int))then
 some ((c.1,(w64 (c.2.1+1),IntKind.wrap .u64 ((IntKind.wrap .u64 ((IntKind.wrap .u64 (c.2.2*6364136223846793005))+(IntKind.wrap .u64 (0))))+550289))),0)
 else
 if(0:Int)<=40 then
 some ((c.1,(w64 (c.2.1+1),IntKind.wrap .u64 ((IntKind.wrap .u64 ((IntKind.wrap .u64 (c.2.2*6364136223846793005))+(IntKind.wrap .u64 (0))))+550289))),w64 (Yhj .u64 (YhC .u64 (IntKind.wrap .u64 ((IntKind.wrap .u64 ((IntKind.wrap .u64 (c.2.2*6364136223846793005))+(IntKind.wrap .u64 (0))))+550289)) 40) 255))
 else none
def Af (c:(List Int)×Int×Int) (n_:Int):Option (((List Int)×Int×Int)×Int):=
 if decide (n_<=1)then
 some ((c.1,(c.2.1,c.2.2)),0)
 else
 (CE (c.1,(c.2.1,c.2.2))).bind λr1=>
 if decide (n_>200)then
 (CE (r1.1.1,(r1.1.2.1,r1.1.2.2))).bind λr2=>
 if n_≠0 then
 some ((r2.1.1,(r2.1.2.1,r2.1.2.2)),Int.tmod (w64 ((w64 (r1.2*256))+r2.2)) n_)
 else none
 else
 if n_≠0 then
 some ((r1.1.1,(r1.1.2.1,r1.1.2.2)),Int.tmod r1.2 n_)
 else none
def Ad (c:(List Int)×Int×Int) (list:List Int):Option (((List Int)×Int×Int)×Int):=
 (Af (c.1,(c.2.1,c.2.2)) (list.length:Int)).bind λr1=>
 if inb r1.2 list then
 some ((r1.1.1,(r1.1.2.1,r1.1.2.2)),gd list r1.2 0)
 else none
def AP (c:(List Int)×Int×Int) (n_:Int):Option (((List Int)×Int×Int)×Bool):=
 (Af (c.1,(c.2.1,c.2.2)) n_).bind λr1=>
 some ((r1.1.1,(r1.1.2.1,r1.1.2.2)),r1.2==0)
end T
open Go Go.Va
namespace T
abbrev Ed:=List Int×Int×Int
def Cur (k:Nat) (c:Ed):Prop:=c.1.length<=65536/\(∀x∈c.1,0<=x/\x<256)/\0<=c.2.1/\c.2.1<=(k:Int)
theorem LT (x:Int):0<=w64 (Yhj .u64 x 255)/\w64 (Yhj .u64 x 255)<256:=by
 have h1:(BitVec.ofInt 64 x&&&BitVec.ofInt 64 255).toNat<=255:=by
  rw[BitVec.toNat_and]
  have:(BitVec.ofInt 64 255).toNat=255:=by decide
  rw[this]
  exact Nat.and_le_right
 have h2:Yhj .u64 x 255=((BitVec.ofInt 64 x&&&BitVec.ofInt 64 255).toNat:Int):=by
  unfold Yhj
  have e: ∀n:Nat,n<=255->IntKind.wrap .u64 (n:Int)=(n:Int):=λn hn=>by
   simp[IntKind.wrap,IntKind.bits,IntKind.signed]
   omega
  exact e _ h1
 rw[h2,AL (by omega) (by omega)]
 omega
theorem Jw {k:Nat} {c:Ed} (h:Cur k c) (hk:k<=1000000000): ∃c' x,CE c=some (c',x)/\Cur (k+1) c'/\0<=x/\x<256:=by
 obtain⟨code,at',seed⟩:=c
 obtain⟨h1,h2,h3,h4⟩:=h
 dsimp only at h1 h2 h3 h4
 have hw:w64 (at'+1)=at'+1:=AL (by omega) (by omega)
 have hC: ∀s,Cur (k+1) (code,(at'+1,s)):=λs=>⟨h1,h2,by dsimp only;omega,by dsimp only;omega⟩
 unfold CE
 simp only[hw]
 by_cases hc:at'<(code.length:Int)
 ·have hin:inb at' code:=⟨h3,hc⟩
  have hle:at'+1<=(code.length:Int):=by omega
  have hb:0<=gd code at' 0/\gd code at' 0<256:=by
   have:gd code at' 0=code.getD at'.toNat 0:=rfl
   rw[this,Ah (by omega)]
   exact h2 _ (List.getElem_mem _)
  rw[if_pos (decide_eq_true hc),if_pos hin,if_pos (decide_eq_true hle)]
  exact⟨_,_,rfl,hC _,by rw[AL (by omega) (by omega)];exact hb⟩
 ·have hle: ¬at'+1<=(code.length:Int):=by omega
  rw[if_neg (by simpa using hc),if_neg (by simpa using hle),if_pos (by decide)]
  exact⟨_,_,rfl,hC _,LT _⟩
theorem D8 {k:Nat} {c:Ed} (h:Cur k c) (hk:k<=100000000) (n:Int) (hn:n<=1000000): ∃c' x,Af c n=some (c',x)/\Cur (k+2) c'/\0<=x/\(1<=n->x<n)/\(n<=1->x=0):=by
 have mono: ∀ {c:Ed} {i j:Nat},i<=j->Cur i c->Cur j c:=λhij ⟨a,b,d,e⟩=>⟨a,b,d,by omega⟩
 unfold Af
 by_cases h1:n<=1
 ·rw[if_pos (decide_eq_true h1)]
  exact⟨_,_,rfl,mono (by omega) h,by omega,λ_=>by omega,λ_=>rfl⟩
 ·rw[if_neg (by simpa using h1)]
  obtain⟨c1,x1,e1,g1,a1,b1⟩:=Jw h (by omega)
  have e1:CE (c.1,(c.2.1,c.2.2))=_:=e1
  simp only[e1,Option.bind_some]
  by_cases h2:n>200
  ·obtain⟨c2,x2,e2,g2,a2,b2⟩:=Jw g1 (by omega)
   have e2:CE (c1.1,(c1.2.1,c1.2.2))=_:=e2
   rw[if_pos (decide_eq_true h2)]
   simp only[e2,Option.bind_some]
   rw[if_pos (by omega)]
   have w1:w64 (x1*256)=x1*256:=AL (by omega) (by omega)
   have w2:w64 (x1*256+x2)=x1*256+x2:=AL (by omega) (by omega)
   refine⟨_,_,rfl,g2,?_,λ_=>?_,λh=>absurd h h1⟩
   ·rw[w1,w2,Int.tmod_eq_emod_of_nonneg (by omega)];exact Int.emod_nonneg _ (by omega)
   ·rw[w1,w2,Int.tmod_eq_emod_of_nonneg (by omega)];exact Int.emod_lt_of_pos _ (by omega)
  ·rw[if_neg (by simpa using h2),if_pos (by omega)]
   refine⟨_,_,rfl,mono (by omega) g1,?_,λ_=>?_,λh=>absurd h h1⟩
   ·rw[Int.tmod_eq_emod_of_nonneg a1];exact Int.emod_nonneg _ (by omega)
   ·rw[Int.tmod_eq_emod_of_nonneg a1];exact Int.emod_lt_of_pos _ (by omega)
theorem D1 {k:Nat} {c:Ed} (h:Cur k c) (hk:k<=100000000) {l:List Int} (h0:0<l.length) (hl:l.length<=1000): ∃c' x,Ad c l=some (c',x)/\Cur (k+2) c'/\x∈l:=by
 obtain⟨c1,x1,e1,g1,a1,b1,_⟩:=D8 h hk (l.length:Int) (by omega)
 have b1:=b1 (by omega)
 unfold Ad
 have e1:Af (c.1,(c.2.1,c.2.2)) (l.length:Int)=_:=e1
 simp only[e1,Option.bind_some]
 have hin:inb x1 l:=⟨a1,b1⟩
 rw[if_pos hin]
 refine⟨_,_,rfl,g1,?_⟩
 have:gd l x1 0=l.getD x1.toNat 0:=rfl
 rw[this]
 exact Iz (by omega)
theorem Il {k:Nat} {c:Ed} (h:Cur k c) (hk:k<=100000000) (n:Int) (hn:n<=1000000): ∃c' x,AP c n=some (c',x)/\Cur (k+2) c':=by
 obtain⟨c1,x1,e1,g1,_⟩:=D8 h hk n hn
 unfold AP
 have e1:Af (c.1,(c.2.1,c.2.2)) n=_:=e1
 simp only[e1,Option.bind_some]
 exact⟨_,_,rfl,g1⟩
theorem Cur.mono {c:Ed} {i j:Nat} (hij:i<=j):Cur i c->Cur j c:=λ⟨a,b,d,e⟩=>⟨a,b,d,by omega⟩
end T
set_option linter.unusedVariables false
open Go Go.Va
namespace T
def Gr (list:List (List Int)) (t:List Int):Option ((List (List Int))):=
 (Es list t).bind λr1=>
 if r1.2 then
 some list
 else
 if(0:Int)<=0/\0<=r1.1/\r1.1<=(list.length:Int)then
 if([]:List (List Int)).length+((list.take (Int.toNat r1.1)).drop (Int.toNat 0)).length<=lim then
 if([]++((list.take (Int.toNat r1.1)).drop (Int.toNat 0))).length+ [t].length<=lim then
 if(0:Int)<=r1.1/\r1.1<=(list.length:Int)/\(list.length:Int)<=(list.length:Int)then
 if(([]++((list.take (Int.toNat r1.1)).drop (Int.toNat 0)))++ [t]).length+((list.take (Int.toNat (list.length:Int))).drop (Int.toNat r1.1)).length<=lim then
 some ((([]++((list.take (Int.toNat r1.1)).drop (Int.toNat 0)))++ [t])++((list.take (Int.toNat (list.length:Int))).drop (Int.toNat r1.1)))
 else none
 else none
 else none
 else none
 else none
end T
open Go Go.Va
namespace T
def Zn (cmp:List Int->List Int->Int) (rows:List (List Int)):List (List Int):=rows.mergeSort (λx y=>!decide (cmp y x<0))
end T
open Go Go.Va
namespace T
theorem F7 {l:List (List Int)}:D7 l=true↔l.Pairwise (λa b=>cmpL a b<0):=by
 constructor
 ·intro h
  rw[List.pairwise_iff_getElem]
  exact λi j hi hj hij=>Fg h i j hij hj
 ·intro h
  rw[IA]
  rw[List.pairwise_iff_getElem]at h
  exact λi hi=>h i (i+1) (by omega) hi (by omega)
theorem HI {list:List (List Int)} {t:List Int} {k:Nat} (hl:list.length<=1000000) (hk:k<=1000000) (hv: ∀u∈list,u.length=k) (ht:t.length=k) (hi:D7 list=true):
  ∃out,Gr list t=some out/\D7 out=true/\(∀u,u∈out↔u=t∨u∈list)/\(t∉list->out.Perm (t::list)):=by
 obtain⟨c,e,k1,k2,k3⟩:=EJ (by omega) (by omega) hv ht hi
 unfold Gr
 rw[e]
 simp only[Option.bind_some]
 by_cases hm:t∈list
 ·rw[decide_eq_true hm,if_pos rfl]
  exact⟨list,rfl,hi,λu=>⟨Or.inr,λh=>h.elim (λh=>h▸hm) id⟩,λh=>absurd hm h⟩
 ·rw[decide_eq_false hm,if_neg (by simp)]
  have e1:(list.take (Int.toNat (c:Int))).drop (Int.toNat 0)=list.take c:=by simp
  have e2:(list.take (Int.toNat (list.length:Int))).drop (Int.toNat (c:Int))=list.drop c:=by simp
  have hlim:lim=1099511627776:=rfl
  have t1:(list.take c).length=c:=by rw[List.length_take];omega
  rw[e1,e2,if_pos (by omega),if_pos (by simp;omega),if_pos (by simp;omega),if_pos (by omega),if_pos (by simp;omega)]
  refine⟨_,rfl,?_,λu=>?_,λ_=>?_⟩
  ·rw[F7]at hi⊢
   simp only[List.nil_append]
   have hsp:list=list.take c++list.drop c:=(List.take_append_drop c list).symm
   rw[hsp,List.pairwise_append]at hi
   have h4: ∀u∈list.take c,cmpL u t<0:=λu hu=>by
    obtain⟨i,hi',rfl⟩:=List.mem_iff_getElem.1 hu
    rw[List.getElem_take]
    exact k2 i _ (by omega)
   have h5: ∀u∈list.drop c,cmpL t u<0:=λu hu=>by
    obtain⟨i,hi',rfl⟩:=List.mem_iff_getElem.1 hu
    rw[List.length_drop]at hi'
    rw[List.getElem_drop]
    have h6:=k3 (c+i) (by omega) (by omega)
    have h7:=cmpL_symm (list[c+i]'(by omega)) t
    have h8:cmpL (list[c+i]'(by omega)) t≠0:=λh=>hm (by rw[←cmpL_eq.1 h];exact List.getElem_mem _)
    omega
   rw[List.pairwise_append,List.pairwise_append]
   refine⟨⟨hi.1,List.pairwise_singleton _ _,λa ha b hb=>by rw[List.mem_singleton.1 hb];exact h4 a ha⟩,hi.2.1,λa ha b hb=>?_⟩
   rcases List.mem_append.1 ha with ha|ha
   ·exact hi.2.2 a ha b hb
   ·rw[List.mem_singleton.1 ha];exact h5 b hb
  ·have hsp:u∈list↔u∈list.take c∨u∈list.drop c:=by rw[←List.mem_append,List.take_append_drop]
   simp only[List.nil_append,List.mem_append,List.mem_singleton,hsp]
   constructor
   ·rintro ((h|h)|h)
    ·exact Or.inr (Or.inl h)
    ·exact Or.inl h
    ·exact Or.inr (Or.inr h)
   ·rintro (h|h|h)
    ·exact Or.inl (Or.inr h)
    ·exact Or.inl (Or.inl h)
    ·exact Or.inr h
  ·simp only[List.nil_append]
   refine(List.Perm.append_right _ (List.perm_append_comm)).trans ?_
   rw[List.append_assoc,List.take_append_drop]
   exact List.Perm.refl _
theorem JI {x y:List Int} (h1: ¬cmpL y x<0) (h2: ¬cmpL x y<0):x=y:=by
 have:=cmpL_symm x y
 exact cmpL_eq.1 (by omega)
theorem FT {out l:List (List Int)} (hi:D7 out=true) (hp:out.Perm l):Zn cmpL l=out:=by
 have hs:(Zn cmpL l).Pairwise λx y=>(!decide (cmpL y x<0))=true:=by
  unfold Zn
  refine List.pairwise_mergeSort (λa b c h1 h2=>?_) (λa b=>?_) l
  ·simp only[Bool.not_eq_true',decide_eq_false_iff_not]at*
   intro h3
   have q1:=cmpL_symm a b
   have q2:=cmpL_symm b c
   by_cases e:cmpL a b=0
   ·rw[cmpL_eq.1 e]at h3;exact h2 h3
   ·exact h2 (cmpL_trans h3 (by omega))
  ·simp only[Bool.or_eq_true,Bool.not_eq_true',decide_eq_false_iff_not]
   have q1:=cmpL_symm a b
   omega
 have ho:out.Pairwise λx y=>(!decide (cmpL y x<0))=true:=by
  refine(F7.1 hi).imp ?_
  intro a b h
  simp only[Bool.not_eq_true',decide_eq_false_iff_not]
  have q1:=cmpL_symm a b
  omega
 have hpp:(Zn cmpL l).Perm out:=(List.mergeSort_perm l _).trans hp.symm
 refine List.Perm.eq_of_pairwise (λa b _ _ h1 h2=>?_) hs ho hpp
 simp only[Bool.not_eq_true',decide_eq_false_iff_not]at h1 h2
 exact JI h1 h2
end T
open Go Go.Va
namespace T
section
variable {p:Int} {W N V:Nat}
def coG (p:Int) (s:ES) (u:Nat) (f:Int):Int:=if GZ s.2.1 u<0 then(if f=(u:Int)then 1 else 0)else p-(s.1.getD (GZ s.2.1 u).toNat []).getD f.toNat 0
def Mx (p:Int) (V:Nat) (s:ES) (F x:List Int) (u:Nat):Nat->Int
 |0=>K4 V s u
 |k+1=>Mx p V s F x u k+coG p s u (F.getD k 0)*x.getD k 0
def MT (p:Int) (V:Nat) (s:ES) (F x:List Int) (k:Nat):List Int:=(List.range V).map λu=>Mx p V s F x u k%p
structure GenOk (p:Int) (W N V:Nat) (s:ES) (F x:List Int):Prop where
 hp:pr4 p
 hs:ESok p W N V s
 hV:V<W
 hW:W<=1000
 hN:N<=100000
 hF:F=MD V s.2.1
 hx:x.length=F.length
 xb: ∀v∈x,0<=v/\v<p
variable {s:ES} {F x:List Int}
theorem GenOk.pb (g:GenOk p W N V s F x):2<=p/\p<=7:=by have:=g.hp;unfold pr4 at this;omega
theorem GenOk.row (g:GenOk p W N V s F x) {u:Nat} (hu: ¬GZ s.2.1 u<0):(GZ s.2.1 u).toNat<s.1.length/\Jx p W (s.1.getD (GZ s.2.1 u).toNat []):=by
 have hm:(u:Int)∈s.2.1:=by
  rcases Decidable.em ((u:Int)∈s.2.1)with h|h
  ·exact h
  ·exact absurd (KY.2 h) hu
 obtain⟨i,hi,g1,_⟩:=Jy hm
 rw[g1,Int.toNat_natCast]
 have:=g.hs.bl
 exact⟨by omega,by rw[Ah (by omega)];exact g.hs.t _ (List.getElem_mem _)⟩
theorem GenOk.base (g:GenOk p W N V s F x) (u:Nat):0<=K4 V s u/\K4 V s u<p:=by
 have:=g.pb
 unfold K4
 split
 ·omega
 ·rename_i h
  exact Mf (g.row h).2 g.hV
end
end T
open Go Go.Va
namespace T
section
variable {p:Int} {W N V:Nat} {s:ES} {F x:List Int}
theorem GenOk.zero (g:GenOk p W N V s F x):MT p V s F x 0=MR V s:=by
 unfold MT MR
 refine List.map_congr_left λu _=>?_
 have:=g.base u
 simp only[Mx]
 exact Int.emod_eq_of_lt this.1 this.2
end
end T
open Go Go.Va
namespace T
theorem KG: ∀ {a b:List (List Int)},D7 a=true->D7 b=true->(∀u,u∈a↔u∈b)->a=b:=by
 intro a b ha hb h
 have pa:=F7.1 ha
 have pb:=F7.1 hb
 have na:a.Nodup:=pa.imp fun {x y} h e=>by rw[e,cmpL_refl]at h;omega
 have nb:b.Nodup:=pb.imp fun {x y} h e=>by rw[e,cmpL_refl]at h;omega
 have hp:a.Perm b:=(List.perm_ext_iff_of_nodup na nb).2 h
 rw[←FT ha (List.Perm.refl _),←FT hb (List.Perm.refl _)]
 have h1:=FT ha hp
 have h2:=FT hb (List.Perm.refl b)
 have h3:=FT ha (List.Perm.refl a)
 rw[h2,h3,←h1,h2]
end T
open Go Go.Va
namespace T
section
variable {n:Int} {k:Nat} {ts:List (List Int)}
theorem LA {out list:List (List Int)} {t:List Int} (h1:D7 out=true) (h0:D7 list=true) (h2: ∀u,u∈out↔u=t∨u∈list) (h3:t∉list->out.Perm (t::list)):out.length<=list.length+1:=by
 by_cases hm:t∈list
 ·have:out=list:=KG h1 h0 λu=>(h2 u).trans ⟨λh=>h.elim (λh=>h▸hm) id,Or.inr⟩
  rw[this];omega
 ·rw[(h3 hm).length_eq];simp
end
end T
set_option linter.unusedVariables false
open Go Go.Va
namespace T
def HW (code:List Int):Option (Bool):=
 some (decide ((code.length:Int)>65536))
def Ej (t0:Int):Option (Int×(List (Int×(List (List Int))))):=
 if t0==0 then
 some (2,[(2,[[0,0],[0,1],[1,1]])])
 else
 if t0==1 then
 some (2,[(2,[[0,1],[1,0],[1,1]]),(2,[[0,0],[0,1],[1,0]])])
 else
 if t0==2 then
 some (2,[(3,[[0,0,0],[0,1,1],[1,0,1],[1,1,0]])])
 else
 if t0==3 then
 some (2,[(3,[[0,0,1],[0,1,0],[1,0,0]])])
 else
 if t0==4 then
 some (2,[(3,[[0,0,0],[0,0,1],[0,1,0],[0,1,1],[1,0,0],[1,0,1],[1,1,1]]),(1,[[1]])])
 else
 if t0==5 then
 some (3,[(2,[[0,1],[0,2],[1,0],[1,2],[2,0],[2,1]])])
 else
 if t0==6 then
 some (3,[(2,[[0,0],[0,1],[0,2],[1,1],[1,2],[2,2]])])
 else
 if t0==7 then
 some (3,[(2,[[0,1],[1,2],[2,0]])])
 else
 if t0==8 then
 some (2,[(2,[[0,1],[1,0]])])
 else
 if t0==9 then
 some (4,[(2,[[0,1],[1,0],[1,2],[2,1],[2,3],[3,2]])])
 else
 some (2,[])
def AF:Nat->(((List Int)×Int×Int)×Int×(List Int)×Int)->Option (((List Int)×Int×Int)×(List Int))
 |0,_=>none
 |n+1,(c,n_,out,x)=>
 if decide (x<n_)then
 (Af (c.1,(c.2.1,c.2.2)) (w64 (x+1))).bind λr1=>
 if decide (r1.2<x)then
 if inb r1.2 out then
 if out.length+ [gd out r1.2 0].length<=lim then
 AF n ((r1.1.1,(r1.1.2.1,r1.1.2.2)),n_,out++ [gd out r1.2 0],w64 (x+1))
 else none
 else none
 else
 if out.length+ [r1.2].length<=lim then
 AF n ((r1.1.1,(r1.1.2.1,r1.1.2.2)),n_,out++ [r1.2],w64 (x+1))
 else none
 else
 some ((c.1,(c.2.1,c.2.2)),out)
def Ci (c:(List Int)×Int×Int) (n_:Int):Option (((List Int)×Int×Int)×(List Int)):=
 (AF Aa ((c.1,(c.2.1,c.2.2)),n_,[],0)).bind λs1=>
 some ((s1.1.1,(s1.1.2.1,s1.1.2.2)),s1.2)
def AX:Nat->((List Int)×(Int×(List (List Int)))×(Int×(List (List Int)))×Int×Int)->Option ((List Int)×(Int×(List (List Int)))×(Int×(List (List Int)))×Int)
 |0,_=>none
 |n+1,(p,t2,out,x,y)=>
 if decide (y<(p.length:Int))then
 if inb x p then
 if inb y p then
 if(gd p x 0)==(gd p y 0)then
 if out.2.length+ [[x,y]].length<=lim then
 AX n (p,(t2.1,t2.2),(out.1,out.2++ [[x,y]]),x,w64 (y+1))
 else none
 else
 AX n (p,(t2.1,t2.2),(out.1,out.2),x,w64 (y+1))
 else none
 else none
 else
 some (p,(t2.1,t2.2),(out.1,out.2),x)
def Bi:Nat->((List Int)×(Int×(List (List Int)))×(Int×(List (List Int)))×Int)->Option ((Int×(List (List Int)))×(Int×(List (List Int))))
 |0,_=>none
 |n+1,(p,t2,out,x)=>
 if decide (x<(p.length:Int))then
 (AX Aa (p,(t2.1,t2.2),(out.1,out.2),x,0)).bind λs1=>
 Bi n (s1.1,(s1.2.1.1,s1.2.1.2),(s1.2.2.1.1,s1.2.2.1.2),w64 (s1.2.2.2+1))
 else
 some ((t2.1,t2.2),(out.1,out.2))
def DB (p:List Int):Option ((Int×(List (List Int)))):=
 (Bi Aa (p,(0,[]),(2,[]),0)).bind λs1=>
 some (s1.2.1,s1.2.2)
def Cz:Nat->(Int×Int×(Int×(List (List Int)))×(Int×(List (List Int)))×Int)->Option ((Int×(List (List Int)))×(Int×(List (List Int))))
 |0,_=>none
 |n+1,(n_,arity,t4,out,at_)=>
 (Dw n_ arity).bind λr1=>
 if decide (at_<r1)then
 (ET n_ arity at_).bind λr2=>
 if out.2.length+ [r2].length<=lim then
 Cz n (n_,arity,(t4.1,t4.2),(out.1,out.2++ [r2]),w64 (at_+1))
 else none
 else
 some ((t4.1,t4.2),(out.1,out.2))
def DA (n_:Int) (arity:Int):Option ((Int×(List (List Int)))):=
 (Cz Aa (n_,arity,(0,[]),(arity,[]),0)).bind λs1=>
 some (s1.2.1,s1.2.2)
def GC (list:List (List Int)) (t:List Int):Option ((List (List Int))):=
 (Es list t).bind λr1=>
 if r1.2 then
 some list
 else
 if(0:Int)<=0/\0<=r1.1/\r1.1<=(list.length:Int)then
 if([]:List (List Int)).length+((list.take (Int.toNat r1.1)).drop (Int.toNat 0)).length<=lim then
 if([]++((list.take (Int.toNat r1.1)).drop (Int.toNat 0))).length+ [t].length<=lim then
 if(0:Int)<=r1.1/\r1.1<=(list.length:Int)/\(list.length:Int)<=(list.length:Int)then
 if(([]++((list.take (Int.toNat r1.1)).drop (Int.toNat 0)))++ [t]).length+((list.take (Int.toNat (list.length:Int))).drop (Int.toNat r1.1)).length<=lim then
 some ((([]++((list.take (Int.toNat r1.1)).drop (Int.toNat 0)))++ [t])++((list.take (Int.toNat (list.length:Int))).drop (Int.toNat r1.1)))
 else none
 else none
 else none
 else none
 else none
def Bl:Nat->(((List Int)×Int×Int)×Int×Int×(Int×(List (List Int)))×(Int×(List (List Int)))×Int×(List Int)×Int)->Option (((List Int)×Int×Int)×Int×Int×(Int×(List (List Int)))×(Int×(List (List Int)))×Int×(List Int))
 |0,_=>none
 |n+1,(t0,t1,t2,t6,t7,t8,t9,t10)=>
 if decide (t10<t2)then
 (Af (t0.1,(t0.2.1,t0.2.2)) t1).bind λr4=>
 if t9.length+ [r4.2].length<=lim then
 Bl n ((r4.1.1,(r4.1.2.1,r4.1.2.2)),t1,t2,(t6.1,t6.2),(t7.1,t7.2),t8,t9++ [r4.2],w64 (t10+1))
 else none
 else
 some ((t0.1,(t0.2.1,t0.2.2)),t1,t2,(t6.1,t6.2),(t7.1,t7.2),t8,t9)
def Bk:Nat->(((List Int)×Int×Int)×Int×Int×(Int×(List (List Int)))×(Int×(List (List Int)))×Int)->Option (((List Int)×Int×Int)×Int×Int×(Int×(List (List Int)))×(Int×(List (List Int))))
 |0,_=>none
 |n+1,(t0,t1,t2,t6,t7,t8)=>
 if decide (t8>0)then
 (Bl Aa ((t0.1,(t0.2.1,t0.2.2)),t1,t2,(t6.1,t6.2),(t7.1,t7.2),t8,[],0)).bind λs4=>
 (GC s4.2.2.2.2.1.2 s4.2.2.2.2.2.2).bind λr5=>
 Bk n ((s4.1.1,(s4.1.2.1,s4.1.2.2)),s4.2.1,s4.2.2.1,(s4.2.2.2.1.1,s4.2.2.2.1.2),(s4.2.2.2.2.1.1,r5),w64 (s4.2.2.2.2.2.1-1))
 else
 some ((t0.1,(t0.2.1,t0.2.2)),t1,t2,(t6.1,t6.2),(t7.1,t7.2))
def BO (t0:(List Int)×Int×Int) (t1:Int) (t2:Int):Option (((List Int)×Int×Int)×(Int×(List (List Int)))):=
 (FY t1).bind λr1=>
 if !r1 then
 some ((t0.1,(t0.2.1,t0.2.2)),(t2,[]))
 else
 (C3 t2 1 3).bind λr2=>
 if !r2 then
 some ((t0.1,(t0.2.1,t0.2.2)),(t2,[]))
 else
 (Ad (t0.1,(t0.2.1,t0.2.2)) [0,1,2,3,4,6,9]).bind λr3=>
 (Bk Aa ((r3.1.1,(r3.1.2.1,r3.1.2.2)),t1,t2,(0,[]),(t2,[]),r3.2)).bind λs4=>
 if s4.2.2.1==2 then
 (AP (s4.1.1,(s4.1.2.1,s4.1.2.2)) 3).bind λr5=>
 if r5.2 then
 (Ci (r5.1.1,(r5.1.2.1,r5.1.2.2)) s4.2.1).bind λr6=>
 (DB r6.2).bind λr7=>
 (AP (r6.1.1,(r6.1.2.1,r6.1.2.2)) 12).bind λr8=>
 if r8.2 then
 (DA s4.2.1 s4.2.2.1).bind λr9=>
 (Af (r8.1.1,(r8.1.2.1,r8.1.2.2)) 40).bind λr10=>
 if r10.2==0 then
 (Ad (r10.1.1,(r10.1.2.1,r10.1.2.2)) [0,4,(-1)]).bind λr11=>
 some ((r11.1.1,(r11.1.2.1,r11.1.2.2)),(r11.2,r9.2))
 else
 if r10.2==1 then
 if 0<=s4.2.2.1/\s4.2.2.1<=s4.2.2.1/\s4.2.2.1<=lim then
 if r9.2.length+ [List.replicate (Int.toNat s4.2.2.1) (0:Int)].length<=lim then
 some ((r10.1.1,(r10.1.2.1,r10.1.2.2)),(r9.1,r9.2++ [List.replicate (Int.toNat s4.2.2.1) (0:Int)]))
 else none
 else none
 else
 if r10.2==2 then
 if decide ((r9.2.length:Int)>0)then
 (Ad (r10.1.1,(r10.1.2.1,r10.1.2.2)) [(-1),s4.2.1,0]).bind λr12=>
 if inb 0 r9.2 then
 some ((r12.1.1,(r12.1.2.1,r12.1.2.2)),(r9.1,stt r9.2 0 [r12.2]))
 else none
 else
 some ((r10.1.1,(r10.1.2.1,r10.1.2.2)),(r9.1,r9.2))
 else
 some ((r10.1.1,(r10.1.2.1,r10.1.2.2)),(r9.1,r9.2))
 else
 (Af (r8.1.1,(r8.1.2.1,r8.1.2.2)) 40).bind λr13=>
 if r13.2==0 then
 (Ad (r13.1.1,(r13.1.2.1,r13.1.2.2)) [0,4,(-1)]).bind λr14=>
 some ((r14.1.1,(r14.1.2.1,r14.1.2.2)),(r14.2,r7.2))
 else
 if r13.2==1 then
 if 0<=s4.2.2.1/\s4.2.2.1<=s4.2.2.1/\s4.2.2.1<=lim then
 if r7.2.length+ [List.replicate (Int.toNat s4.2.2.1) (0:Int)].length<=lim then
 some ((r13.1.1,(r13.1.2.1,r13.1.2.2)),(r7.1,r7.2++ [List.replicate (Int.toNat s4.2.2.1) (0:Int)]))
 else none
 else none
 else
 if r13.2==2 then
 if decide ((r7.2.length:Int)>0)then
 (Ad (r13.1.1,(r13.1.2.1,r13.1.2.2)) [(-1),s4.2.1,0]).bind λr15=>
 if inb 0 r7.2 then
 some ((r15.1.1,(r15.1.2.1,r15.1.2.2)),(r7.1,stt r7.2 0 [r15.2]))
 else none
 else
 some ((r13.1.1,(r13.1.2.1,r13.1.2.2)),(r7.1,r7.2))
 else
 some ((r13.1.1,(r13.1.2.1,r13.1.2.2)),(r7.1,r7.2))
 else
 (AP (r5.1.1,(r5.1.2.1,r5.1.2.2)) 12).bind λr16=>
 if r16.2 then
 (DA s4.2.1 s4.2.2.1).bind λr17=>
 (Af (r16.1.1,(r16.1.2.1,r16.1.2.2)) 40).bind λr18=>
 if r18.2==0 then
 (Ad (r18.1.1,(r18.1.2.1,r18.1.2.2)) [0,4,(-1)]).bind λr19=>
 some ((r19.1.1,(r19.1.2.1,r19.1.2.2)),(r19.2,r17.2))
 else
 if r18.2==1 then
 if 0<=s4.2.2.1/\s4.2.2.1<=s4.2.2.1/\s4.2.2.1<=lim then
 if r17.2.length+ [List.replicate (Int.toNat s4.2.2.1) (0:Int)].length<=lim then
 some ((r18.1.1,(r18.1.2.1,r18.1.2.2)),(r17.1,r17.2++ [List.replicate (Int.toNat s4.2.2.1) (0:Int)]))
 else none
 else none
 else
 if r18.2==2 then
 if decide ((r17.2.length:Int)>0)then
 (Ad (r18.1.1,(r18.1.2.1,r18.1.2.2)) [(-1),s4.2.1,0]).bind λr20=>
 if inb 0 r17.2 then
 some ((r20.1.1,(r20.1.2.1,r20.1.2.2)),(r17.1,stt r17.2 0 [r20.2]))
 else none
 else
 some ((r18.1.1,(r18.1.2.1,r18.1.2.2)),(r17.1,r17.2))
 else
 some ((r18.1.1,(r18.1.2.1,r18.1.2.2)),(r17.1,r17.2))
 else
 (Af (r16.1.1,(r16.1.2.1,r16.1.2.2)) 40).bind λr21=>
 if r21.2==0 then
 (Ad (r21.1.1,(r21.1.2.1,r21.1.2.2)) [0,4,(-1)]).bind λr22=>
 some ((r22.1.1,(r22.1.2.1,r22.1.2.2)),(r22.2,s4.2.2.2.2.2))
 else
 if r21.2==1 then
 if 0<=s4.2.2.1/\s4.2.2.1<=s4.2.2.1/\s4.2.2.1<=lim then
 if s4.2.2.2.2.2.length+ [List.replicate (Int.toNat s4.2.2.1) (0:Int)].length<=lim then
 some ((r21.1.1,(r21.1.2.1,r21.1.2.2)),(s4.2.2.2.2.1,s4.2.2.2.2.2++ [List.replicate (Int.toNat s4.2.2.1) (0:Int)]))
 else none
 else none
 else
 if r21.2==2 then
 if decide ((s4.2.2.2.2.2.length:Int)>0)then
 (Ad (r21.1.1,(r21.1.2.1,r21.1.2.2)) [(-1),s4.2.1,0]).bind λr23=>
 if inb 0 s4.2.2.2.2.2 then
 some ((r23.1.1,(r23.1.2.1,r23.1.2.2)),(s4.2.2.2.2.1,stt s4.2.2.2.2.2 0 [r23.2]))
 else none
 else
 some ((r21.1.1,(r21.1.2.1,r21.1.2.2)),(s4.2.2.2.2.1,s4.2.2.2.2.2))
 else
 some ((r21.1.1,(r21.1.2.1,r21.1.2.2)),(s4.2.2.2.2.1,s4.2.2.2.2.2))
 else
 (AP (s4.1.1,(s4.1.2.1,s4.1.2.2)) 12).bind λr24=>
 if r24.2 then
 (DA s4.2.1 s4.2.2.1).bind λr25=>
 (Af (r24.1.1,(r24.1.2.1,r24.1.2.2)) 40).bind λr26=>
 if r26.2==0 then
 (Ad (r26.1.1,(r26.1.2.1,r26.1.2.2)) [0,4,(-1)]).bind λr27=>
 some ((r27.1.1,(r27.1.2.1,r27.1.2.2)),(r27.2,r25.2))
 else
 if r26.2==1 then
 if 0<=s4.2.2.1/\s4.2.2.1<=s4.2.2.1/\s4.2.2.1<=lim then
 if r25.2.length+ [List.replicate (Int.toNat s4.2.2.1) (0:Int)].length<=lim then
 some ((r26.1.1,(r26.1.2.1,r26.1.2.2)),(r25.1,r25.2++ [List.replicate (Int.toNat s4.2.2.1) (0:Int)]))
 else none
 else none
 else
 if r26.2==2 then
 if decide ((r25.2.length:Int)>0)then
 (Ad (r26.1.1,(r26.1.2.1,r26.1.2.2)) [(-1),s4.2.1,0]).bind λr28=>
 if inb 0 r25.2 then
 some ((r28.1.1,(r28.1.2.1,r28.1.2.2)),(r25.1,stt r25.2 0 [r28.2]))
 else none
 else
 some ((r26.1.1,(r26.1.2.1,r26.1.2.2)),(r25.1,r25.2))
 else
 some ((r26.1.1,(r26.1.2.1,r26.1.2.2)),(r25.1,r25.2))
 else
 (Af (r24.1.1,(r24.1.2.1,r24.1.2.2)) 40).bind λr29=>
 if r29.2==0 then
 (Ad (r29.1.1,(r29.1.2.1,r29.1.2.2)) [0,4,(-1)]).bind λr30=>
 some ((r30.1.1,(r30.1.2.1,r30.1.2.2)),(r30.2,s4.2.2.2.2.2))
 else
 if r29.2==1 then
 if 0<=s4.2.2.1/\s4.2.2.1<=s4.2.2.1/\s4.2.2.1<=lim then
 if s4.2.2.2.2.2.length+ [List.replicate (Int.toNat s4.2.2.1) (0:Int)].length<=lim then
 some ((r29.1.1,(r29.1.2.1,r29.1.2.2)),(s4.2.2.2.2.1,s4.2.2.2.2.2++ [List.replicate (Int.toNat s4.2.2.1) (0:Int)]))
 else none
 else none
 else
 if r29.2==2 then
 if decide ((s4.2.2.2.2.2.length:Int)>0)then
 (Ad (r29.1.1,(r29.1.2.1,r29.1.2.2)) [(-1),s4.2.1,0]).bind λr31=>
 if inb 0 s4.2.2.2.2.2 then
 some ((r31.1.1,(r31.1.2.1,r31.1.2.2)),(s4.2.2.2.2.1,stt s4.2.2.2.2.2 0 [r31.2]))
 else none
 else
 some ((r29.1.1,(r29.1.2.1,r29.1.2.2)),(s4.2.2.2.2.1,s4.2.2.2.2.2))
 else
 some ((r29.1.1,(r29.1.2.1,r29.1.2.2)),(s4.2.2.2.2.1,s4.2.2.2.2.2))
def AZ:Nat->(((List Int)×Int×Int)×Int×(List (Int×(List (List Int))))×(List (Int×(List (List Int))))×Int×(Int×(List (List Int)))×Int)->Option (((List Int)×Int×Int)×Int×(List (Int×(List (List Int))))×(List (Int×(List (List Int))))×Int×(Int×(List (List Int))))
 |0,_=>none
 |n+1,(t0,t4,t5,t6,t7,t8,t9)=>
 if inb t7 t5 then
 if decide (t9<(((gd t5 t7 (0,[])).2).length:Int))then
 if inb t7 t5 then
 if inb t9 ((gd t5 t7 (0,[])).2)then
 (B1 (gd ((gd t5 t7 (0,[])).2) t9 [])).bind λr4=>
 if t8.2.length+ [r4].length<=lim then
 AZ n ((t0.1,(t0.2.1,t0.2.2)),t4,t5,t6,t7,(t8.1,t8.2++ [r4]),w64 (t9+1))
 else none
 else none
 else none
 else
 some ((t0.1,(t0.2.1,t0.2.2)),t4,t5,t6,t7,(t8.1,t8.2))
 else none
def AY:Nat->(((List Int)×Int×Int)×Int×(List (Int×(List (List Int))))×(List (Int×(List (List Int))))×Int)->Option (((List Int)×Int×Int)×Int×(List (Int×(List (List Int)))))
 |0,_=>none
 |n+1,(t0,t4,t5,t6,t7)=>
 if decide (t7<(t5.length:Int))then
 if inb t7 t5 then
 (AZ Aa ((t0.1,(t0.2.1,t0.2.2)),t4,t5,t6,t7,((gd t5 t7 (0,[])).1,[]),0)).bind λs4=>
 if s4.2.2.2.1.length+ [(s4.2.2.2.2.2.1,s4.2.2.2.2.2.2)].length<=lim then
 AY n ((s4.1.1,(s4.1.2.1,s4.1.2.2)),s4.2.1,s4.2.2.1,s4.2.2.2.1++ [(s4.2.2.2.2.2.1,s4.2.2.2.2.2.2)],w64 (s4.2.2.2.2.1+1))
 else none
 else none
 else
 some ((t0.1,(t0.2.1,t0.2.2)),t4,t6)
def Bc:Nat->(((List Int)×Int×Int)×Int×(List (Int×(List (List Int))))×Int)->Option (((List Int)×Int×Int)×Int×(List (Int×(List (List Int)))))
 |0,_=>none
 |n+1,(t0,t10,t11,t12)=>
 if decide (t12>0)then
 (Ad (t0.1,(t0.2.1,t0.2.2)) [1,2,2,3]).bind λr10=>
 (BO (r10.1.1,(r10.1.2.1,r10.1.2.2)) t10 r10.2).bind λr11=>
 if t11.length+ [r11.2].length<=lim then
 Bc n ((r11.1.1,(r11.1.2.1,r11.1.2.2)),t10,t11++ [r11.2],w64 (t12-1))
 else none
 else
 some ((t0.1,(t0.2.1,t0.2.2)),t10,t11)
def CR (t0:(List Int)×Int×Int):Option (((List Int)×Int×Int)×Int×(List (Int×(List (List Int))))):=
 (AP (t0.1,(t0.2.1,t0.2.2)) 3).bind λr1=>
 if !r1.2 then
 (Af (r1.1.1,(r1.1.2.1,r1.1.2.2)) 11).bind λr2=>
 (Ej r2.2).bind λr3=>
 (AY Aa ((r2.1.1,(r2.1.2.1,r2.1.2.2)),r3.1,r3.2,[],0)).bind λs4=>
 some ((s4.1.1,(s4.1.2.1,s4.1.2.2)),s4.2.1,s4.2.2)
 else
 (Af (r1.1.1,(r1.1.2.1,r1.1.2.2)) 24).bind λr5=>
 if(11:Int)≠0 then
 if(0:Int)<=0/\0<=(w64 (7+(w64 (Int.tdiv r5.2 11))))/\(w64 (7+(w64 (Int.tdiv r5.2 11))))<=([1,2,2,2,3,3,4,0,5].length:Int)then
 (Ad (r5.1.1,(r5.1.2.1,r5.1.2.2)) (([1,2,2,2,3,3,4,0,5].take (Int.toNat (w64 (7+(w64 (Int.tdiv r5.2 11)))))).drop (Int.toNat 0))).bind λr6=>
 (Af (r6.1.1,(r6.1.2.1,r6.1.2.2)) 24).bind λr7=>
 if(23:Int)≠0 then
 if(0:Int)<=0/\0<=(w64 (5+(w64 (Int.tdiv r7.2 23))))/\(w64 (5+(w64 (Int.tdiv r7.2 23))))<=([0,1,1,2,4,5].length:Int)then
 (Ad (r7.1.1,(r7.1.2.1,r7.1.2.2)) (([0,1,1,2,4,5].take (Int.toNat (w64 (5+(w64 (Int.tdiv r7.2 23)))))).drop (Int.toNat 0))).bind λr8=>
 (Bc Aa ((r8.1.1,(r8.1.2.1,r8.1.2.2)),r6.2,[],r8.2)).bind λs9=>
 some ((s9.1.1,(s9.1.2.1,s9.1.2.2)),s9.2.1,s9.2.2)
 else none
 else none
 else none
 else none
def De:Nat->((List Int)×(List Int)×Int)->Option ((Unit)⊕(Bool))
 |0,_=>none
 |n+1,(a,b,i)=>
 if decide (i<(a.length:Int))then
 if inb i a then
 if inb i b then
 if(gd a i 0) !=(gd b i 0)then
 some (.inr false)
 else
 De n (a,b,w64 (i+1))
 else none
 else none
 else
 some (.inl ())
def Ef (a:List Int) (b:List Int):Option (Bool):=
 if(a.length:Int) !=(b.length:Int)then
  some false
 else
  (De Aa (a,b,0)).bind λs1=>
   match s1 with
   | .inl s2=>
    some true
   | .inr s3=>
    some s3
def C0:Nat->((List (List Int))×(List (List Int))×Int)->Option ((Unit)⊕(Bool))
 |0,_=>none
 |n+1,(a,b,i)=>
 if decide (i<(a.length:Int))then
 if inb i a then
 if inb i b then
 (Ef (gd a i []) (gd b i [])).bind λr1=>
 if !r1 then
 some (.inr false)
 else
 C0 n (a,b,w64 (i+1))
 else none
 else none
 else
 some (.inl ())
def FO (a:List (List Int)) (b:List (List Int)):Option (Bool):=
 if(a.length:Int) !=(b.length:Int)then
  some false
 else
  (C0 Aa (a,b,0)).bind λs1=>
   match s1 with
   | .inl s2=>
    some true
   | .inr s3=>
    some s3
end T
set_option linter.unusedVariables false
open Go Go.Va
namespace T
def Ep (a:Int×(List Int)) (b:Int×(List Int)):Option (Bool):=
 if a.1==b.1 then
 (Ef a.2 b.2).bind λr1=>
 some r1
 else
 some false
end T
open Go Go.Va
namespace T
def rowsB (R W:Nat) (l:List (List Int)):Prop:=l.length<=R/\ ∀r∈l,r.length<=W
theorem rowsB.mono {R W R' W':Nat} {l:List (List Int)} (h:rowsB R W l) (h1:R<=R') (h2:W<=W'):rowsB R' W' l:=⟨by have:=h.1;omega,λr hr=>by have:=h.2 r hr;omega⟩
theorem rowsB.app {R W:Nat} {l:List (List Int)} {t:List Int} (h:rowsB R W l) (ht:t.length<=W):rowsB (R+1) W (l++ [t]):=⟨by rw[List.length_append,List.length_singleton];have:=h.1;omega,λr hr=>by
 rcases List.mem_append.1 hr with hr|hr
 ·exact h.2 r hr
 ·rw[List.mem_singleton.1 hr];exact ht⟩
theorem MN:GC=Gr:=rfl
theorem Lx {N:Nat} (hN:N<=8): ∀(d f k x:Nat) (c:Ed) (o:List Int),x+d=N->d<f->Cur k c->k+2*d<=1000000->o.length=x->
  ∃c' o',AF f (c,(N:Int),o,(x:Int))=some (c',o')/\Cur (k+2*d) c'/\o'.length=N:=by
 intro d
 induction d with
 |zero=>
  intro f k x c o hx hf hc hk ho
  obtain⟨f,rfl⟩: ∃z,f=z+1:=⟨f-1,by omega⟩
  refine⟨c,o,?_,hc,by omega⟩
  simp only[AF]
  rw[if_neg (by simp;omega)]
 |succ d ih=>
  intro f k x c o hx hf hc hk ho
  obtain⟨f,rfl⟩: ∃z,f=z+1:=⟨f-1,by omega⟩
  obtain⟨c1,x1,e1,g1,a1,b1,_⟩:=D8 hc (by omega) ((x+1:Nat):Int) (by omega)
  have b1:=b1 (by omega)
  have e1:Af (c.1,(c.2.1,c.2.2)) ((x+1:Nat):Int)=_:=e1
  have ew:=Ab (show x<4611686018427387904 by omega)
  simp only[AF,ew,e1,Option.bind_some]
  rw[if_pos (by simp;omega)]
  by_cases h:x1<(x:Int)
  ·obtain⟨c',o',e2,g2,l2⟩:=ih f (k+2) (x+1) c1 (o++ [gd o x1 0]) (by omega) (by omega) g1 (by omega) (by simp;omega)
   refine⟨c',o',?_,g2.mono (by omega),l2⟩
   rw[if_pos (by simpa using h),if_pos (by unfold inb;omega),if_pos (by simp;unfold lim;omega)]
   exact e2
  ·obtain⟨c',o',e2,g2,l2⟩:=ih f (k+2) (x+1) c1 (o++ [x1]) (by omega) (by omega) g1 (by omega) (by simp;omega)
   refine⟨c',o',?_,g2.mono (by omega),l2⟩
   rw[if_neg (by simpa using h),if_pos (by simp;unfold lim;omega)]
   exact e2
theorem Im {N k:Nat} {c:Ed} (hN:N<=8) (hc:Cur k c) (hk:k<=500000): ∃c' o,Ci c (N:Int)=some (c',o)/\Cur (k+16) c'/\o.length=N:=by
 obtain⟨c',o,e,g,l⟩:=Lx hN N Aa k 0 c [] (by omega) (by unfold Aa;omega) hc (by omega) rfl
 refine⟨c',o,?_,g.mono (by omega),l⟩
 unfold Ci
 have e:AF Aa ((c.1,(c.2.1,c.2.2)),(N:Int),[],0)=_:=e
 rw[e];rfl
theorem JZ {p:List Int} (hp:p.length<=8): ∃out,DB p=some (2,out)/\rowsB 64 2 out:=by
 have in6: ∀(x:Nat),x<p.length-> ∀(d f y:Nat) (o:List (List Int)),y+d=p.length->d<f->rowsB (8*x+y) 2 o->
   ∃o',AX f (p,(0,[]),(2,o),(x:Int),(y:Int))=some (p,(0,[]),(2,o'),(x:Int))/\rowsB (8*x+p.length) 2 o':=by
  intro x hx d
  induction d with
  |zero=>
   intro f y o hy hf ho
   obtain⟨f,rfl⟩: ∃z,f=z+1:=⟨f-1,by omega⟩
   refine⟨o,?_,ho.mono (by omega) (by omega)⟩
   simp only[AX]
   rw[if_neg (by simp;omega)]
  |succ d ih=>
   intro f y o hy hf ho
   obtain⟨f,rfl⟩: ∃z,f=z+1:=⟨f-1,by omega⟩
   have hyl:y<p.length:=by omega
   have hol:=ho.1
   simp only[AX,Ac,hx,hyl,if_true,Ab (show y<4611686018427387904 by omega)]
   rw[if_pos (by simp;omega)]
   by_cases h:(gd p (x:Int) 0==gd p (y:Int) 0)=true
   ·obtain⟨o',e,g⟩:=ih f (y+1) (o++ [[(x:Int),(y:Int)]]) (by omega) (by omega) (by rw[←Nat.add_assoc];exact ho.app (by simp))
    refine⟨o',?_,g⟩
    rw[if_pos h,if_pos (by simp;unfold lim;omega)]
    exact e
   ·obtain⟨o',e,g⟩:=ih f (y+1) o (by omega) (by omega) (ho.mono (by omega) (by omega))
    refine⟨o',?_,g⟩
    rw[if_neg h]
    exact e
 have in3: ∀(d f x:Nat) (o:List (List Int)),x+d=p.length->d<f->rowsB (8*x) 2 o->
   ∃o',Bi f (p,(0,[]),(2,o),(x:Int))=some ((0,[]),(2,o'))/\rowsB 64 2 o':=by
  intro d
  induction d with
  |zero=>
   intro f x o hx hf ho
   obtain⟨f,rfl⟩: ∃z,f=z+1:=⟨f-1,by omega⟩
   refine⟨o,?_,ho.mono (by omega) (by omega)⟩
   simp only[Bi]
   rw[if_neg (by simp;omega)]
  |succ d ih=>
   intro f x o hx hf ho
   obtain⟨f,rfl⟩: ∃z,f=z+1:=⟨f-1,by omega⟩
   obtain⟨o1,e1,g1⟩:=in6 x (by omega) p.length Aa 0 o (by omega) (by unfold Aa;omega) ho
   have e1:AX Aa (p,(0,[]),(2,o),(x:Int),0)=_:=e1
   obtain⟨o',e2,g2⟩:=ih f (x+1) o1 (by omega) (by omega) (g1.mono (by omega) (by omega))
   refine⟨o',?_,g2⟩
   simp only[Bi,e1,Option.bind_some,Ab (show x<4611686018427387904 by omega)]
   rw[if_pos (by simp;omega)]
   exact e2
 obtain⟨o,e,g⟩:=in3 p.length Aa 0 [] (by omega) (by unfold Aa;omega) ⟨by simp,by simp⟩
 refine⟨o,?_,g⟩
 unfold DB
 have e:Bi Aa (p,(0,[]),(2,[]),0)=_:=e
 rw[e];rfl
theorem JR {N A:Nat} (hN:1<=N/\N<=8) (hA:1<=A/\A<=3): ∃out,DA (N:Int) (A:Int)=some ((A:Int),out)/\rowsB 512 3 out:=by
 have hp:N^A<=512:=by
  have:N^A<=8^3:=Nat.le_trans (Nat.pow_le_pow_left hN.2 A) (Nat.pow_le_pow_right (by omega) hA.2)
  omega
 have e1:=Gd (n:=(N:Int)) (by omega) (by omega) (k:=A) (by omega)
 have e0:(N:Int)^A=((N^A:Nat):Int):=by rw[Int.natCast_pow]
 rw[e0]at e1
 have key: ∀(d f x:Nat) (o:List (List Int)),x+d=N^A->d<f->rowsB x 3 o->
   ∃o',Cz f ((N:Int),(A:Int),(0,[]),((A:Int),o),(x:Int))=some ((0,[]),((A:Int),o'))/\rowsB (N^A) 3 o':=by
  intro d
  induction d with
  |zero=>
   intro f x o hx hf ho
   obtain⟨f,rfl⟩: ∃z,f=z+1:=⟨f-1,by omega⟩
   refine⟨o,?_,ho.mono (by omega) (by omega)⟩
   simp only[Cz,e1,Option.bind_some]
   rw[if_neg (by simp only[decide_eq_true_eq];omega)]
  |succ d ih=>
   intro f x o hx hf ho
   obtain⟨f,rfl⟩: ∃z,f=z+1:=⟨f-1,by omega⟩
   have hol:=ho.1
   have e2:=FV (b:=N) (k:=A) (i:=x) (by omega) (by omega) (by omega)
   have hl2:(cI (dg N A x)).length=A:=by rw[Dk,GH]
   obtain⟨o',e3,g3⟩:=ih f (x+1) (o++ [cI (dg N A x)]) (by omega) (by omega) (ho.app (by omega))
   refine⟨o',?_,g3⟩
   simp only[Cz,e1,e2,Option.bind_some,Ab (show x<4611686018427387904 by omega)]
   rw[if_pos (by simp only[decide_eq_true_eq];omega),if_pos (by simp;unfold lim;omega)]
   exact e3
 obtain⟨o,e,g⟩:=key (N^A) Aa 0 [] (by omega) (by unfold Aa;omega) ⟨by simp,by simp⟩
 refine⟨o,?_,g.mono hp (by omega)⟩
 unfold DA
 have e:Cz Aa ((N:Int),(A:Int),(0,[]),((A:Int),[]),0)=_:=e
 rw[e];rfl
theorem Mp {N:Int} (hN:N<=100) {A:Nat} (hA:A<=3) (t6 t7:Int×List (List Int)) (t8:Int): ∀(d f k x:Nat) (c:Ed) (o:List Int),x+d=A->d<f->Cur k c->k+2*d<=1000000->o.length=x->
  ∃c' o',Bl f (c,N,(A:Int),t6,t7,t8,o,(x:Int))=some (c',N,(A:Int),t6,t7,t8,o')/\Cur (k+2*d) c'/\o'.length=A:=by
 intro d
 induction d with
 |zero=>
  intro f k x c o hx hf hc hk ho
  obtain⟨f,rfl⟩: ∃z,f=z+1:=⟨f-1,by omega⟩
  refine⟨c,o,?_,hc,by omega⟩
  simp only[Bl]
  rw[if_neg (by simp;omega)]
 |succ d ih=>
  intro f k x c o hx hf hc hk ho
  obtain⟨f,rfl⟩: ∃z,f=z+1:=⟨f-1,by omega⟩
  obtain⟨c1,x1,e1,g1,_⟩:=D8 hc (by omega) N (by omega)
  have e1:Af (c.1,(c.2.1,c.2.2)) N=_:=e1
  obtain⟨c',o',e2,g2,l2⟩:=ih f (k+2) (x+1) c1 (o++ [x1]) (by omega) (by omega) g1 (by omega) (by simp;omega)
  refine⟨c',o',?_,g2.mono (by omega),l2⟩
  simp only[Bl,e1,Option.bind_some,Ab (show x<4611686018427387904 by omega)]
  rw[if_pos (by simp;omega),if_pos (by simp;unfold lim;omega)]
  exact e2
theorem Mo {N:Int} (hN:N<=100) {A:Nat} (hA:A<=3) (t6:Int×List (List Int)): ∀(d f k:Nat) (c:Ed) (o:List (List Int)),d<f->Cur k c->k+10*d<=500000->o.length+d<=1000->D7 o=true->(∀u∈o,u.length=A)->
  ∃c' o',Bk f (c,N,(A:Int),t6,((A:Int),o),(d:Int))=some (c',N,(A:Int),t6,((A:Int),o'))/\Cur (k+10*d) c'/\rowsB (o.length+d) A o':=by
 intro d
 induction d with
 |zero=>
  intro f k c o hf hc hk ho hi hl
  obtain⟨f,rfl⟩: ∃z,f=z+1:=⟨f-1,by omega⟩
  refine⟨c,o,?_,hc,⟨by omega,λu hu=>by rw[hl u hu];exact Nat.le_refl _⟩⟩
  simp only[Bk]
  rw[if_neg (by simp)]
 |succ d ih=>
  intro f k c o hf hc hk ho hi hl
  obtain⟨f,rfl⟩: ∃z,f=z+1:=⟨f-1,by omega⟩
  obtain⟨c1,t,e1,g1,l1⟩:=Mp hN hA t6 ((A:Int),o) ((d+1:Nat):Int) A Aa k 0 c [] (by omega) (by unfold Aa;omega) hc (by omega) rfl
  have e1:Bl Aa ((c.1,(c.2.1,c.2.2)),N,(A:Int),(t6.1,t6.2),((A:Int),o),((d+1:Nat):Int),[],0)=_:=e1
  obtain⟨o1,p1,p2,p3,p4⟩:=HI (list:=o) (t:=t) (k:=A) (by omega) (by omega) hl l1 hi
  have z1:=LA p2 hi p3 p4
  obtain⟨c',o',e2,g2,l2⟩:=ih f (k+2*A) c1 o1 (by omega) g1 (by omega) (by omega) p2 (λu hu=>((p3 u).1 hu).elim (λh=>by rw[h];exact l1) (hl u))
  refine⟨c',o',?_,g2.mono (by omega),l2.mono (by omega) (by omega)⟩
  have ew:w64 (((d+1:Nat):Int)-1)=(d:Int):=by rw[AL (by omega) (by omega)];omega
  simp only[Bk,e1,MN,p1,Option.bind_some,ew]
  rw[if_pos (by simp)]
  exact e2
def Gx (c:Ed) (N A:Int) (out:Int×List (List Int)):Option (Ed×(Int×List (List Int))):=
 (Af (c.1,(c.2.1,c.2.2)) 40).bind λr10=>
 if r10.2==0 then
 (Ad (r10.1.1,(r10.1.2.1,r10.1.2.2)) [0,4,(-1)]).bind λr11=>
 some ((r11.1.1,(r11.1.2.1,r11.1.2.2)),(r11.2,out.2))
 else
 if r10.2==1 then
 if 0<=A/\A<=A/\A<=lim then
 if out.2.length+ [List.replicate (Int.toNat A) (0:Int)].length<=lim then
 some ((r10.1.1,(r10.1.2.1,r10.1.2.2)),(out.1,out.2++ [List.replicate (Int.toNat A) (0:Int)]))
 else none
 else none
 else
 if r10.2==2 then
 if decide ((out.2.length:Int)>0)then
 (Ad (r10.1.1,(r10.1.2.1,r10.1.2.2)) [(-1),N,0]).bind λr12=>
 if inb 0 out.2 then
 some ((r12.1.1,(r12.1.2.1,r12.1.2.2)),(out.1,stt out.2 0 [r12.2]))
 else none
 else
 some ((r10.1.1,(r10.1.2.1,r10.1.2.2)),(out.1,out.2))
 else
 some ((r10.1.1,(r10.1.2.1,r10.1.2.2)),(out.1,out.2))
theorem Ja {k:Nat} {c:Ed} (hc:Cur k c) (hk:k<=1000000) {N:Int} {A:Nat} (hA:A<=3) {out:Int×List (List Int)} (ho:rowsB 600 3 out.2): ∃c' r,Gx c N (A:Int) out=some (c',r)/\Cur (k+4) c'/\rowsB 601 3 r.2:=by
 obtain⟨c1,x1,e1,g1,_⟩:=D8 hc (by omega) 40 (by omega)
 have e1:Af (c.1,(c.2.1,c.2.2)) 40=_:=e1
 have hol:=ho.1
 unfold Gx
 simp only[e1,Option.bind_some]
 by_cases h0:x1=0
 ·rw[if_pos (by simpa using h0)]
  obtain⟨c2,x2,e2,g2,_⟩:=D1 g1 (by omega) (l:= [0,4,(-1)]) (by simp) (by simp)
  have e2:Ad (c1.1,(c1.2.1,c1.2.2)) [0,4,(-1)]=_:=e2
  simp only[e2,Option.bind_some]
  exact⟨_,_,rfl,g2.mono (by omega),ho.mono (by omega) (by omega)⟩
 ·rw[if_neg (by simpa using h0)]
  by_cases h1:x1=1
  ·rw[if_pos (by simpa using h1),if_pos (by unfold lim;omega),if_pos (by simp;unfold lim;omega)]
   exact⟨_,_,rfl,g1.mono (by omega),ho.app (by simp;omega)⟩
  ·rw[if_neg (by simpa using h1)]
   by_cases h2:x1=2
   ·rw[if_pos (by simpa using h2)]
    by_cases h3:(out.2.length:Int)>0
    ·rw[if_pos (by simpa using h3)]
     obtain⟨c2,x2,e2,g2,_⟩:=D1 g1 (by omega) (l:= [(-1),N,0]) (by simp) (by simp)
     have e2:Ad (c1.1,(c1.2.1,c1.2.2)) [(-1),N,0]=_:=e2
     simp only[e2,Option.bind_some]
     rw[if_pos (by unfold inb;omega)]
     refine⟨_,_,rfl,g2.mono (by omega),⟨by show(List.set out.2 _ _).length<=601;rw[List.length_set];omega,λr hr=>?_⟩⟩
     have hr:r∈List.set out.2 (0:Int).toNat [x2]:=hr
     rcases List.mem_or_eq_of_mem_set hr with hr|rfl
     ·exact ho.2 r hr
     ·simp
    ·rw[if_neg (by simpa using h3)]
     exact⟨_,_,rfl,g1.mono (by omega),ho.mono (by omega) (by omega)⟩
   ·rw[if_neg (by simpa using h2)]
    exact⟨_,_,rfl,g1.mono (by omega),ho.mono (by omega) (by omega)⟩
theorem GW {k:Nat} {c:Ed} (hc:Cur k c) (hk:k<=100000) {N A:Int} (hN:N<=100): ∃c' r,BO c N A=some (c',r)/\Cur (k+200) c'/\rowsB 601 3 r.2:=by
 unfold BO
 rw[HA,Cj]
 simp only[Option.bind_some]
 cases hs:JC N with
 |false=>exact⟨_,_,rfl,hc.mono (by omega),⟨by simp,by simp⟩⟩
 |true=>
  simp only[Bool.not_true,Bool.false_eq_true,if_false]
  by_cases hA:1<=A/\A<=3
  ·rw[if_neg (by simp;omega)]
   obtain⟨a,rfl⟩: ∃a:Nat,A=(a:Int):=⟨A.toNat,by omega⟩
   have hn:1<=N/\N<=8:=by unfold JC at hs;simpa using hs
   obtain⟨n,rfl⟩: ∃n:Nat,N=(n:Int):=⟨N.toNat,by omega⟩
   obtain⟨c1,x1,e1,g1,m1⟩:=D1 hc (by omega) (l:= [0,1,2,3,4,6,9]) (by simp) (by simp)
   have hx1:0<=x1/\x1<=9:=by simp at m1;omega
   obtain⟨m,rfl⟩: ∃m:Nat,x1=(m:Int):=⟨x1.toNat,by omega⟩
   obtain⟨c2,o,e2,g2,r2⟩:=Mo (N:=(n:Int)) (by omega) (A:=a) (by omega) (0,[]) m Aa (k+2) c1 [] (by unfold Aa;omega) g1 (by omega) (by simp;omega) rfl (by simp)
   have r2:rowsB 600 3 o:=r2.mono (by simp;omega) (by omega)
   have e1:Ad (c.1,(c.2.1,c.2.2)) [0,1,2,3,4,6,9]=_:=e1
   have e2:Bk Aa ((c1.1,(c1.2.1,c1.2.2)),(n:Int),(a:Int),(0,[]),((a:Int),[]),(m:Int))=_:=e2
   simp only[e1,e2,Option.bind_some]
   have hn':1<=n/\n<=8:=by omega
   have ha':1<=a/\a<=3:=by omega
   have fin: ∀(c:Ed) (out:Int×List (List Int)),Cur (k+150) c->rowsB 600 3 out.2-> ∃c' r,Gx c (n:Int) (a:Int) out=some (c',r)/\Cur (k+200) c'/\rowsB 601 3 r.2:=λc out hc ho=>by
    obtain⟨c',r,e,g,h⟩:=Ja hc (by omega) (N:=(n:Int)) (A:=a) (by omega) ho
    exact⟨c',r,e,g.mono (by omega),h⟩
   have mid: ∀(c:Ed) (out:Int×List (List Int)),Cur (k+130) c->rowsB 600 3 out.2-> ∃c' r,((AP (c.1,(c.2.1,c.2.2)) 12).bind λr8=>if r8.2 then(DA (n:Int) (a:Int)).bind λr9=>Gx r8.1 (n:Int) (a:Int) r9 else Gx r8.1 (n:Int) (a:Int) out)=some (c',r)/\Cur (k+200) c'/\rowsB 601 3 r.2:=λc out hc ho=>by
    obtain⟨c3,b3,e3,g3⟩:=Il hc (by omega) 12 (by omega)
    have e3:AP (c.1,(c.2.1,c.2.2)) 12=_:=e3
    simp only[e3,Option.bind_some]
    cases b3 with
    |true=>
     obtain⟨w,e4,h4⟩:=JR hn' ha'
     simp only[if_true,e4,Option.bind_some]
     exact fin c3 ((a:Int),w) (g3.mono (by omega)) (h4.mono (by omega) (by omega))
    |false=>
     simp only[Bool.false_eq_true,if_false]
     exact fin c3 out (g3.mono (by omega)) ho
   by_cases h2:((a:Int)==2)=true
   ·rw[if_pos h2]
    obtain⟨c3,b3,e3,g3⟩:=Il g2 (by omega) 3 (by omega)
    have e3:AP (c2.1,(c2.2.1,c2.2.2)) 3=_:=e3
    simp only[e3,Option.bind_some]
    cases b3 with
    |true=>
     obtain⟨c4,p,e4,g4,l4⟩:=Im (N:=n) (by omega) g3 (by omega)
     have e4:Ci (c3.1,(c3.2.1,c3.2.2)) (n:Int)=_:=e4
     obtain⟨w,e5,h5⟩:=JZ (p:=p) (by omega)
     simp only[if_true,e4,e5,Option.bind_some]
     exact mid c4 (2,w) (g4.mono (by omega)) (h5.mono (by omega) (by omega))
    |false=>
     simp only[Bool.false_eq_true,if_false]
     exact mid c3 ((a:Int),o) (g3.mono (by omega)) r2
   ·rw[if_neg h2]
    exact mid c2 ((a:Int),o) (g2.mono (by omega)) r2
  ·rw[if_pos (by simp;omega)]
   exact⟨_,_,rfl,hc.mono (by omega),⟨by simp,by simp⟩⟩
end T
open Go Go.Va
namespace T
def IM (l:List Bb):Prop:=l.length<=5/\ ∀r∈l,rowsB 601 3 r.2
def KM (o:Option (Int×List Bb)):Bool:=match o with
 |some (n,rels)=>decide (0<=n/\n<=5)&&(decide (rels.length<=5)&&rels.all λr=>decide (r.2.length<=601)&&r.2.all λt=>decide (t.length<=3))
 |none=>false
theorem Ln (x:Int):KM (Ej x)=true:=by
 unfold Ej
 repeat' split
 all_goals rfl
theorem KN (x:Int): ∃n rels,Ej x=some (n,rels)/\0<=n/\n<=5/\IM rels:=by
 have h:=Ln x
 unfold KM at h
 split at h
 ·rename_i n rels e
  simp only[Bool.and_eq_true,decide_eq_true_eq,List.all_eq_true]at h
  exact⟨n,rels,e,h.1.1,h.1.2,h.2.1,λr hr=>h.2.2 r hr⟩
 ·simp at h
theorem Mz {l:List Bb} {i:Nat} (hi:i<l.length) (hr:rowsB 1000 1000 l[i].2) (c:Ed) (n:Int) (o:List Bb) (ar:Int):AZ Aa (c,n,l,o,(i:Int),(ar,[]),0)=some (c,n,l,o,(i:Int),(ar,l[i].2)):=by
 have h1:=hr.1
 have:=CO l[i].2.length (λm (q:List (List Int)) k=>AZ m (c,n,l,o,(i:Int),(ar,q),k)) (λk=>l[i].2.take k) (r:=some (c,n,l,o,(i:Int),(ar,l[i].2))) (λm k hk=>?_) (λm=>?_) (n:=Aa) (by unfold Aa;omega)
 ·exact this
 ·have e:=DH (l:=l[i].2[k]) (by have:=hr.2 _ (List.getElem_mem hk);omega)
  simp only[AZ,Ac,hi,Ai hi,hk,Ai hk,if_true,e,Option.bind_some,Ab (show k<4611686018427387904 by omega)]
  rw[if_pos (by simp;omega),if_pos (by simp;unfold lim;omega),List.take_succ_eq_append_getElem hk]
 ·simp only[AZ,Ac,hi,Ai hi,if_true,List.take_length]
  rw[if_neg (by simp)]
theorem My {l:List Bb} (h:IM l) (c:Ed) (n:Int):AY Aa (c,n,l,[],0)=some (c,n,l):=by
 have h1:=h.1
 have:=CO l.length (λm (q:List Bb) k=>AY m (c,n,l,q,k)) (λk=>l.take k) (r:=some (c,n,l)) (λm k hk=>?_) (λm=>?_) (n:=Aa) (by unfold Aa;omega)
 ·exact this
 ·have e:=Mz hk ((h.2 _ (List.getElem_mem hk)).mono (by omega) (by omega)) c n (l.take k) l[k].1
  have e:AZ Aa ((c.1,(c.2.1,c.2.2)),n,l,l.take k,(k:Int),(l[k].1,[]),0)=_:=e
  simp only[AY,Ac,hk,Ai hk,if_true,e,Option.bind_some,Ab (show k<4611686018427387904 by omega)]
  rw[if_pos (by simp;omega),if_pos (by simp;unfold lim;omega),List.take_succ_eq_append_getElem hk]
 ·simp only[AY,List.take_length]
  rw[if_neg (by simp)]
theorem LH {n:Int} (hn:n<=100): ∀(d f k:Nat) (c:Ed) (o:List Bb),d<f->Cur k c->k+300*d<=50000->o.length+d<=5->(∀r∈o,rowsB 601 3 r.2)->
  ∃c' o',Bc f (c,n,o,(d:Int))=some (c',n,o')/\Cur (k+300*d) c'/\IM o':=by
 intro d
 induction d with
 |zero=>
  intro f k c o hf hc hk ho hr
  obtain⟨f,rfl⟩: ∃z,f=z+1:=⟨f-1,by omega⟩
  refine⟨c,o,?_,hc,⟨by omega,hr⟩⟩
  simp only[Bc]
  rw[if_neg (by simp)]
 |succ d ih=>
  intro f k c o hf hc hk ho hr
  obtain⟨f,rfl⟩: ∃z,f=z+1:=⟨f-1,by omega⟩
  obtain⟨c1,x1,e1,g1,_⟩:=D1 hc (by omega) (l:= [1,2,2,3]) (by simp) (by simp)
  have e1:Ad (c.1,(c.2.1,c.2.2)) [1,2,2,3]=_:=e1
  obtain⟨c2,r,e2,g2,h2⟩:=GW (N:=n) (A:=x1) g1 (by omega) hn
  have e2:BO (c1.1,(c1.2.1,c1.2.2)) n x1=_:=e2
  obtain⟨c',o',e3,g3,h3⟩:=ih f (k+202) c2 (o++ [r]) (by omega) (g2.mono (by omega)) (by omega) (by simp;omega) (λq hq=>by
   rcases List.mem_append.1 hq with hq|hq
   ·exact hr q hq
   ·rw[List.mem_singleton.1 hq];exact h2)
  refine⟨c',o',?_,g3.mono (by omega),h3⟩
  have ew:w64 (((d+1:Nat):Int)-1)=(d:Int):=by rw[AL (by omega) (by omega)];omega
  simp only[Bc,e1,e2,Option.bind_some,ew]
  rw[if_pos (by simp),if_pos (by simp;unfold lim;omega)]
  exact e3
theorem HZ {k:Nat} {c:Ed} (hc:Cur k c) (hk:k<=1000000) (l:List Int) (b m:Nat) (hm:11<=m/\m<=24) (hb:0<b) (hl:b+(23/m)<=l.length) (hl2:l.length<=100):
  ∃c1 x1 c' x,Af (c.1,(c.2.1,c.2.2)) 24=some (c1,x1)/\((0:Int)<=0/\0<=(w64 ((b:Int)+(w64 (Int.tdiv x1 (m:Int)))))/\(w64 ((b:Int)+(w64 (Int.tdiv x1 (m:Int)))))<=(l.length:Int))/\
   Ad (c1.1,(c1.2.1,c1.2.2)) ((l.take (Int.toNat (w64 ((b:Int)+(w64 (Int.tdiv x1 (m:Int))))))).drop (Int.toNat 0))=some (c',x)/\Cur (k+4) c'/\x∈l:=by
 obtain⟨c1,x1,e1,g1,a1,b1,_⟩:=D8 hc (by omega) 24 (by omega)
 have b1:=b1 (by omega)
 obtain⟨y,rfl⟩: ∃y:Nat,x1=(y:Int):=⟨x1.toNat,by omega⟩
 have hqb:y/m<=23/m:=Nat.div_le_div_right (by omega)
 have hq:Int.tdiv (y:Int) (m:Int)=((y/m:Nat):Int):=by rw[Int.tdiv_eq_ediv_of_nonneg (by omega)];rfl
 obtain⟨q,eq⟩: ∃q,q=y/m:=⟨_,rfl⟩
 obtain⟨z,ez⟩: ∃z,z=23/m:=⟨_,rfl⟩
 rw[←ez]at hqb hl
 rw[←eq]at hqb hq
 clear eq ez
 refine⟨c1,(y:Int),?_⟩
 rw[hq]
 clear hq
 have w1:w64 ((q:Nat):Int)=(q:Int):=AL (by omega) (by omega)
 have w2:w64 ((b:Int)+(q:Int))=((b+q:Nat):Int):=by rw[AL (by omega) (by omega)];omega
 rw[w1,w2]
 have e0:(l.take (Int.toNat ((b+q:Nat):Int))).drop (Int.toNat 0)=l.take (b+q):=by rw[Int.toNat_natCast];rfl
 rw[e0]
 obtain⟨c2,x2,e2,g2,m2⟩:=D1 g1 (by omega) (l:=l.take (b+q)) (by rw[List.length_take];omega) (by rw[List.length_take];omega)
 exact⟨c2,x2,e1,by omega,e2,g2.mono (by omega),List.mem_of_mem_take m2⟩
theorem IU {k:Nat} {c:Ed} (hc:Cur k c) (hk:k<=10000): ∃c' n rels,CR c=some (c',n,rels)/\Cur (k+2000) c'/\0<=n/\n<=5/\IM rels:=by
 obtain⟨c1,b1,e1,g1⟩:=Il hc (by omega) 3 (by omega)
 have e1:AP (c.1,(c.2.1,c.2.2)) 3=_:=e1
 unfold CR
 simp only[e1,Option.bind_some]
 cases b1 with
 |false=>
  obtain⟨c2,x2,e2,g2,_⟩:=D8 g1 (by omega) 11 (by omega)
  have e2:Af (c1.1,(c1.2.1,c1.2.2)) 11=_:=e2
  obtain⟨n,rels,e3,h1,h2,h3⟩:=KN x2
  have e4:=My h3 c2 n
  have e4:AY Aa ((c2.1,(c2.2.1,c2.2.2)),n,rels,[],0)=_:=e4
  simp only[Bool.not_false,if_true,e2,e3,e4,Option.bind_some]
  exact⟨_,_,_,rfl,g2.mono (by omega),h1,h2,h3⟩
 |true=>
  simp only[Bool.not_true,Bool.false_eq_true,if_false]
  obtain⟨d1,y1,c2,n,e2,i2,f2,g2,m2⟩:=HZ g1 (by omega) [1,2,2,2,3,3,4,0,5] 7 11 (by omega) (by omega) (by simp) (by simp)
  obtain⟨d2,y2,c3,d,e3,i3,f3,g3,m3⟩:=HZ g2 (by omega) [0,1,1,2,4,5] 5 23 (by omega) (by omega) (by simp) (by simp)
  have hn:0<=n/\n<=5:=by simp at m2;omega
  have hd:0<=d/\d<=5:=by simp at m3;omega
  obtain⟨D,rfl⟩: ∃D:Nat,d=(D:Int):=⟨d.toNat,by omega⟩
  obtain⟨c4,rels,e4,g4,h4⟩:=LH (n:=n) (by omega) D Aa (k+10) c3 [] (by unfold Aa;omega) (g3.mono (by omega)) (by omega) (by simp;omega) (by simp)
  have e4:Bc Aa ((c3.1,(c3.2.1,c3.2.2)),n,[],(D:Int))=_:=e4
  simp only[e2,Option.bind_some]
  rw[if_pos (by decide),if_pos (show(0:Int)<=0/\0<=(w64 (7+(w64 (Int.tdiv y1 11))))/\(w64 (7+(w64 (Int.tdiv y1 11))))<=([1,2,2,2,3,3,4,0,5].length:Int) from i2)]
  have f2:Ad (d1.1,(d1.2.1,d1.2.2)) (([1,2,2,2,3,3,4,0,5].take (Int.toNat (w64 (7+(w64 (Int.tdiv y1 11)))))).drop (Int.toNat 0))=_:=f2
  rw[f2]
  simp only[Option.bind_some,e3]
  rw[if_pos (by decide),if_pos (show(0:Int)<=0/\0<=(w64 (5+(w64 (Int.tdiv y2 23))))/\(w64 (5+(w64 (Int.tdiv y2 23))))<=([0,1,1,2,4,5].length:Int) from i3)]
  have f3:Ad (d2.1,(d2.2.1,d2.2.2)) (([0,1,1,2,4,5].take (Int.toNat (w64 (5+(w64 (Int.tdiv y2 23)))))).drop (Int.toNat 0))=_:=f3
  rw[f3]
  simp only[Option.bind_some,e4]
  exact⟨_,_,_,rfl,g4.mono (by omega),hn.1,hn.2,h4⟩
end T
open Go Go.Va
namespace T
theorem Jk {α:Type} [DecidableEq α] {l l':List α} (d:α) (h:l.length=l'.length):(List.range l.length).all (λk=>decide (l.getD k d=l'.getD k d))=decide (l=l'):=by
 rw[Bool.eq_iff_iff]
 simp only[List.all_eq_true,List.mem_range,decide_eq_true_eq]
 constructor
 ·intro hx
  refine List.ext_getElem h λi h1 h2=>?_
  have:=hx i h1
  rwa [Ah h1,Ah h2]at this
 ·rintro rfl _ _;rfl
section
variable {A B:Nat->Nat} {m j:Nat}
end
section
variable {n k m:Nat} {r:Bb} {rels:List Bb}
end
end T
open Go Go.Va
namespace T
section
variable {V n k:Nat} {cs:List Con} {rels:List Bb}
theorem JX (h:SrchOk V n cs):C1 ((V:Int),((n:Int),cs))=true:=by
 have hv:=h.hv
 have hn:=h.hn
 have hc:=h.hc
 unfold C1
 simp only[Bool.and_eq_true,decide_eq_true_eq,List.all_eq_true]
 refine⟨⟨⟨by omega,by omega⟩,hc⟩,λc hcm=>?_⟩
 have h1:=h.con c hcm
 have h3:=h1.sl
 unfold Gs Fz Ce
 simp only[Bool.and_eq_true,decide_eq_true_eq,List.all_eq_true]
 refine⟨⟨⟨⟨h1.ar,λt ht=>⟨by have:=h1.tl t ht;omega,λx hx=>?_⟩⟩,h1.inc⟩,h3⟩,λx hx=>?_⟩
 ·obtain⟨j,hj,rfl⟩:=List.mem_iff_getElem.1 hx
  exact h1.tv t ht j hj
 ·obtain⟨j,hj,rfl⟩:=List.mem_iff_getElem.1 hx
  exact h1.sv j hj
end
end T
open Go Go.Va
namespace T
section
variable {V n k:Nat} {cs:List Con} {rels:List Bb}
theorem FQ {a b:List Int} (h:a.length<=1048576):Ef a b=some (decide (a=b)):=by
 unfold Ef
 by_cases h2:a.length=b.length
 ·rw[if_neg (by simp[h2])]
  have:=L0 a.length (λn (_:Unit) i=>De n (a,b,i)) (λ_=>()) (λk=>decide (a.getD k 0=b.getD k 0)) (r:=some (.inr false)) (e:=some (.inl ())) (λf k hk=>?_) (λf=>?_) (n:=Aa) (by unfold Aa;omega)
  ·rw[Jk 0 h2]at this
   have this:De Aa (a,b,0)=_:=this
   rw[this]
   by_cases e:a=b
   ·subst e;simp
   ·simp[e]
  ·simp only[De,Ac,hk,Ai hk,h2▸hk,Ai (h2▸hk),if_true,Ah hk,Ah (h2▸hk:k<b.length),Ab (show k<4611686018427387904 by omega)]
   rw[if_pos (by simp;omega)]
   by_cases e:a[k]=b[k]<;>simp[e]
  ·simp only[De]
   rw[if_neg (by simp)]
 ·rw[if_pos (by simpa using λh=>h2 (by omega))]
  rw[decide_eq_false λh=>h2 (by rw[h])]
theorem J4 {a b:List (List Int)} (h:a.length<=1048576) (ht: ∀t∈a,t.length<=1048576):FO a b=some (decide (a=b)):=by
 unfold FO
 by_cases h2:a.length=b.length
 ·rw[if_neg (by simp[h2])]
  have:=L0 a.length (λn (_:Unit) i=>C0 n (a,b,i)) (λ_=>()) (λk=>decide (a.getD k []=b.getD k [])) (r:=some (.inr false)) (e:=some (.inl ())) (λf k hk=>?_) (λf=>?_) (n:=Aa) (by unfold Aa;omega)
  ·rw[Jk [] h2]at this
   have this:C0 Aa (a,b,0)=_:=this
   rw[this]
   by_cases e:a=b
   ·subst e;simp
   ·simp[e]
  ·have e:=FQ (a:=a[k]) (b:=b[k]) (ht _ (List.getElem_mem hk))
   simp only[C0,Ac,hk,Ai hk,h2▸hk,Ai (h2▸hk),e,Option.bind_some,if_true,Ah hk,Ah (h2▸hk:k<b.length),Ab (show k<4611686018427387904 by omega)]
   rw[if_pos (by simp;omega)]
   by_cases e:a[k]=b[k]<;>simp[e]
  ·simp only[C0]
   rw[if_neg (by simp)]
 ·rw[if_pos (by simpa using λh=>h2 (by omega))]
  rw[decide_eq_false λh=>h2 (by rw[h])]
end
end T
open Go Go.Va
namespace T
section
variable {n k m:Nat} {r:Bb} {rels:List Bb} {given t:List Int}
def I8 (n k:Nat) (rels:List Bb) (t:List Int):Bool:=rels.all λr=>kB n k r.1.toNat ((k:Int),t) r
theorem LE {i:Nat}:Mq n ((k:Int),t) r.2 r.1.toNat (dg r.2.length k i)=(cI (PL n k r i)).map (Aq t):=by
 unfold Mq PL cI
 rw[List.map_map,List.map_map]
 rfl
theorem IJ:I8 n k rels t=true↔ ∀r∈rels,∀i,i<r.2.length^k->(cI (PL n k r i)).map (Aq t)∈r.2:=by
 unfold I8 kB
 simp only[List.all_eq_true,List.mem_range,decide_eq_true_eq,LE]
theorem G4 {ok:List Int->Bool}: ∀(m:Nat) (pre t:List Int),t∈CS n given ok m pre↔t.length=pre.length+m/\t.take pre.length=pre/\
  ∀q,pre.length<=q->q<t.length->(0<=t.getD q 0/\t.getD q 0<(n:Int))/\Ds given q (t.getD q 0).toNat=true/\ok (t.take (q+1))=true
 |0,pre,t=>by
  simp only[CS,List.mem_singleton,Nat.add_zero]
  constructor
  ·rintro rfl
   exact⟨rfl,by simp,λq h1 h2=>by omega⟩
  ·rintro ⟨h1,h2,_⟩
   rw[←h2,List.take_of_length_le (by omega)]
 |m+1,pre,t=>by
  simp only[CS,List.mem_flatMap,List.mem_range]
  constructor
  ·rintro ⟨x,hx,h⟩
   by_cases hc:(Ds given pre.length x&&ok (pre++ [(x:Int)]))=true
   ·rw[if_pos hc]at h
    obtain⟨h1,h2,h3⟩:=(G4 m (pre++ [(x:Int)]) t).1 h
    rw[Bool.and_eq_true]at hc
    rw[List.length_append,List.length_singleton]at h1 h2 h3
    have hv:t.getD pre.length 0=(x:Int):=by
     have hl:pre.length<t.length:=by omega
     have e:(t.take (pre.length+1)).getD pre.length 0=t.getD pre.length 0:=by simp[List.getD_eq_getElem?_getD,List.getElem?_take]
     rw[←e,h2];simp[List.getD_eq_getElem?_getD]
    refine⟨by omega,?_,λq h4 h5=>?_⟩
    ·have:(t.take (pre.length+1)).take pre.length=pre:=by rw[h2];simp
     rw[List.take_take]at this
     rwa [Nat.min_eq_left (by omega)]at this
    ·by_cases e:q=pre.length
     ·subst e
      rw[hv,h2]
      exact⟨by omega,by rw[Int.toNat_natCast];exact hc.1,hc.2⟩
     ·exact h3 q (by omega) h5
   ·rw[if_neg hc]at h;simp at h
  ·rintro ⟨h1,h2,h3⟩
   have hl:pre.length<t.length:=by omega
   obtain⟨a1,a2,a3⟩:=h3 pre.length (Nat.le_refl _) hl
   have hx:(((t.getD pre.length 0).toNat:Nat):Int)=t.getD pre.length 0:=Int.toNat_of_nonneg a1.1
   have ht:t.take (pre.length+1)=pre++ [(((t.getD pre.length 0).toNat:Nat):Int)]:=by
    rw[hx,List.take_succ_eq_append_getElem hl,h2,Ah hl]
   refine⟨(t.getD pre.length 0).toNat,by omega,?_⟩
   rw[if_pos (by rw[Bool.and_eq_true];exact⟨a2,by rw[←ht];exact a3⟩)]
   refine(G4 m _ t).2 ⟨by simp;omega,by rw[List.length_append,List.length_singleton];exact ht,λq h4 h5=>h3 q (by rw[List.length_append,List.length_singleton]at h4;omega) h5⟩
theorem Kg (h:RelsOk n k rels):t∈Yhi n k rels given↔t.length=n^k/\(∀x∈t,0<=x/\x<(n:Int))/\(∀q,q<n^k->Ds given q (t.getD q 0).toNat=true)/\I8 n k rels t=true:=by
 unfold Yhi
 rw[G4,IJ]
 simp only[List.length_nil,Nat.zero_add,List.take_zero,true_and,Nat.zero_le,true_implies]
 have hok: ∀q,q<t.length->(okB n k rels (t.take (q+1))=true↔GL n k rels q t=true):=λq hq=>by
  unfold okB
  rw[List.length_take,Nat.min_eq_left (by omega),Nat.add_sub_cancel,HX]
 constructor
 ·rintro ⟨h1,h3⟩
  refine⟨h1,λx hx=>?_,λq hq=>(h3 q (by omega)).2.1,λr hr i hi=>?_⟩
  ·obtain⟨j,hj,rfl⟩:=List.mem_iff_getElem.1 hx
   have:=(h3 j hj).1
   rwa [Ah hj]at this
  ·have hlt:=Ij (h.ok r hr) h.hn h.hk.1 hi
   have hm:=(hok _ (by omega)).1 (h3 _ (show Bu (PL n k r i)<t.length by omega)).2.2
   unfold GL at hm
   simp only[List.all_eq_true,List.mem_range,Bool.or_eq_true,Bool.not_eq_true',decide_eq_false_iff_not,decide_eq_true_eq]at hm
   exact(hm r hr i hi).resolve_left λhne=>hne rfl
 ·rintro ⟨h1,h2,h3,h4⟩
  refine⟨h1,λq hq=>⟨?_,h3 q (by omega),(hok q hq).2 ?_⟩⟩
  ·rw[Ah hq];exact h2 _ (List.getElem_mem hq)
  ·unfold GL
   simp only[List.all_eq_true,List.mem_range,Bool.or_eq_true,Bool.not_eq_true',decide_eq_false_iff_not,decide_eq_true_eq]
   exact λr hr i hi=> .inr (h4 r hr i hi)
theorem KS {N q x:Nat} (hq:q<N):Ds (List.replicate N (-1)) q x=true:=by
 unfold Ds
 rw[Ah (by simpa using hq)];simp
theorem Lc {b:Nat}: ∀(k:Nat) (ys:List Nat),ys.length=k->(∀y∈ys,y<b)-> ∃i,i<b^k/\dg b k i=ys:=by
 intro k
 induction k with
 |zero=>intro ys hl _;exact⟨0,by simp,by rw[List.eq_nil_of_length_eq_zero hl];rfl⟩
 |succ k ih=>
  intro ys hl hy
  obtain⟨z,y,rfl⟩: ∃z y,ys=z++ [y]:=⟨ys.dropLast,ys.getLast (by intro e;rw[e]at hl;simp at hl),(List.dropLast_concat_getLast _).symm⟩
  have hyb:=hy y (by simp)
  obtain⟨i,h1,h2⟩:=ih z (by simpa using hl) λx hx=>hy x (by simp[hx])
  refine⟨i*b+y,?_,?_⟩
  ·rw[Nat.pow_succ]
   calc i*b+y<i*b+b:=by omega
    _=(i+1)*b:=by rw[Nat.succ_mul]
    _<=b^k*b:=Nat.mul_le_mul_right _ h1
  ·simp only[dg]
   have e1:(i*b+y)/b=i:=by rw[Nat.mul_comm,Nat.mul_add_div (by omega),Nat.div_eq_of_lt hyb];omega
   have e2:(i*b+y)%b=y:=by rw[Nat.mul_comm,Nat.mul_add_mod,Nat.mod_eq_of_lt hyb]
   rw[e1,e2,h2]
theorem LR {i j:Nat} (hj:j<r.1.toNat):((cI (PL n k r i)).map (Aq t)).getD j 0=t.getD (atF n r.2 j (dg r.2.length k i)) 0:=by
 unfold PL cI
 rw[Ah (by simpa using hj)]
 simp[Aq]
theorem Ly (h:ROk n m r) (hk:I8 n k [r] t=true) {ys:List Nat} (hl:ys.length=k) (hy: ∀y∈ys,y<r.2.length):
  ∃z,z<r.2.length/\ ∀j,j<m->t.getD (atF n r.2 j ys) 0=(r.2.getD z []).getD j 0:=by
 obtain⟨i,h1,h2⟩:=Lc (b:=r.2.length) k ys hl hy
 have hm:=IJ.1 hk r (by simp) i h1
 obtain⟨z,hz,e⟩:=List.mem_iff_getElem.1 hm
 refine⟨z,hz,λj hj=>?_⟩
 rw[Ah hz,e,←h2,LR (by have:=h.ar;omega)]
end
end T
open Go Go.Va
namespace T
section
variable {n k:Nat} {t f:List Int} {inner:List (List Int)}
end
theorem Mn {a b:Opn} (h:a.2.length<=1048576):Ep a b=some (decide (a=b)):=by
 obtain⟨a1,a2⟩:=a
 obtain⟨b1,b2⟩:=b
 dsimp only at h
 unfold Ep
 dsimp only
 by_cases e:a1=b1
 ·subst e
  rw[if_pos (by simp),FQ h]
  by_cases e':a2=b2
  ·subst e';simp
  ·simp[e']
 ·rw[if_neg (by simpa using e)]
  simp[e]
end T
open Go Go.Va
namespace T
section
variable {n:Nat} {t:List Int}
def K9 (n:Nat) (t:List Int) (x y:Nat):Nat:=(t.getD (x*n+y) 0).toNat
structure TabOk (n:Nat) (t:List Int):Prop where
 hn:1<=n/\n<=4
 len:t.length=n*n
 val: ∀x∈t,0<=x/\x<(n:Int)
theorem ix2 (hn:n<=4) {x y:Nat} (hx:x<n) (hy:y<n):w64 (w64 ((x:Int)*(n:Int))+(y:Int))=((x*n+y:Nat):Int)/\x*n+y<n*n:=by
 have h1:x*n+y<n*n:=by
  calc x*n+y<x*n+n:=by omega
   _=(x+1)*n:=by rw[Nat.succ_mul]
   _<=n*n:=Nat.mul_le_mul_right _ hx
 have h2:n*n<=4*4:=Nat.mul_le_mul hn hn
 have e:(x:Int)*(n:Int)=((x*n:Nat):Int):=by simp
 have a1:w64 ((x*n:Nat):Int)=((x*n:Nat):Int):=AL (by omega) (by omega)
 rw[e,a1,AL (by omega) (by omega)]
 exact⟨by omega,h1⟩
theorem TabOk.at (h:TabOk n t) {x y:Nat} (hx:x<n) (hy:y<n):w64 (w64 ((x:Int)*(n:Int))+(y:Int))=((x*n+y:Nat):Int)/\inb ((x*n+y:Nat):Int) t/\gd t ((x*n+y:Nat):Int) 0=((K9 n t x y:Nat):Int)/\K9 n t x y<n:=by
 obtain⟨h1,h2⟩:=ix2 h.hn.2 hx hy
 have hl:x*n+y<t.length:=by rw[h.len];exact h2
 have hv:=h.val _ (List.getElem_mem hl)
 refine⟨h1,by rw[Ac];exact hl,?_,?_⟩
 ·rw[Ai hl];unfold K9;rw[Ah hl];omega
 ·unfold K9;rw[Ah hl];omega
end
end T
set_option linter.unusedVariables false
open Go Go.Va
namespace T
def Ay:Nat->(((List Int)×Int×Int)×(Int×(Int×(List ((List Int)×Int×(List (List Int))))))×Int×(List (Int×(List (List Int))))×(Int×(Int×(List ((List Int)×Int×(List (List Int))))))×Int×(Int×(List (List Int)))×((List Int)×(Int×(List (List Int))))×Int)->Option (((List Int)×Int×Int)×(Int×(Int×(List ((List Int)×Int×(List (List Int))))))×Int×(List (Int×(List (List Int))))×(Int×(Int×(List ((List Int)×Int×(List (List Int))))))×Int×((List Int)×(Int×(List (List Int)))))
 |0,_=>none
 |n+1,(t0,t2,t3,t4,t5,t6,t7,t8,t9)=>
 if decide (t9<t7.1)then
 if decide (t9<4)then
 (CM t5.1 1).bind λr9=>
 (Af (t0.1,(t0.2.1,t0.2.2)) r9).bind λr10=>
 if t8.1.length+ [r10.2].length<=lim then
 Ay n ((r10.1.1,(r10.1.2.1,r10.1.2.2)),(t2.1,(t2.2.1,t2.2.2)),t3,t4,(t5.1,(t5.2.1,t5.2.2)),t6,(t7.1,t7.2),(t8.1++ [r10.2],(t8.2.1,t8.2.2)),w64 (t9+1))
 else none
 else
 some ((t0.1,(t0.2.1,t0.2.2)),(t2.1,(t2.2.1,t2.2.2)),t3,t4,(t5.1,(t5.2.1,t5.2.2)),t6,(t8.1,(t8.2.1,t8.2.2)))
 else
 some ((t0.1,(t0.2.1,t0.2.2)),(t2.1,(t2.2.1,t2.2.2)),t3,t4,(t5.1,(t5.2.1,t5.2.2)),t6,(t8.1,(t8.2.1,t8.2.2)))
def AB:Nat->(((List Int)×Int×Int)×(Int×(Int×(List ((List Int)×Int×(List (List Int))))))×Int×(List (Int×(List (List Int))))×(Int×(Int×(List ((List Int)×Int×(List (List Int))))))×Int)->Option (((List Int)×Int×Int)×(Int×(Int×(List ((List Int)×Int×(List (List Int))))))×(Int×(Int×(List ((List Int)×Int×(List (List Int)))))))
 |0,_=>none
 |n+1,(t0,t2,t3,t4,t5,t6)=>
 if decide (t6>0)then
 (CM t3 1).bind λr4=>
 (Ad (t0.1,(t0.2.1,t0.2.2)) [1,2,2,3]).bind λr5=>
 (BO (r5.1.1,(r5.1.2.1,r5.1.2.2)) r4 r5.2).bind λr6=>
 if decide ((t4.length:Int)>0)then
 (AP (r6.1.1,(r6.1.2.1,r6.1.2.2)) 5).bind λr7=>
 if !r7.2 then
 (Af (r7.1.1,(r7.1.2.1,r7.1.2.2)) (t4.length:Int)).bind λr8=>
 if inb r8.2 t4 then
 (Ay Aa ((r8.1.1,(r8.1.2.1,r8.1.2.2)),(t2.1,(t2.2.1,t2.2.2)),t3,t4,(t5.1,(t5.2.1,t5.2.2)),t6,((gd t4 r8.2 (0,[])).1,(gd t4 r8.2 (0,[])).2),([],((gd t4 r8.2 (0,[])).1,(gd t4 r8.2 (0,[])).2)),0)).bind λs9=>
 if s9.2.2.2.2.1.2.2.length+ [(s9.2.2.2.2.2.2.1,(s9.2.2.2.2.2.2.2.1,s9.2.2.2.2.2.2.2.2))].length<=lim then
 AB n ((s9.1.1,(s9.1.2.1,s9.1.2.2)),(s9.2.1.1,(s9.2.1.2.1,s9.2.1.2.2)),s9.2.2.1,s9.2.2.2.1,(s9.2.2.2.2.1.1,(s9.2.2.2.2.1.2.1,s9.2.2.2.2.1.2.2++ [(s9.2.2.2.2.2.2.1,(s9.2.2.2.2.2.2.2.1,s9.2.2.2.2.2.2.2.2))])),w64 (s9.2.2.2.2.2.1-1))
 else none
 else none
 else
 (Ay Aa ((r7.1.1,(r7.1.2.1,r7.1.2.2)),(t2.1,(t2.2.1,t2.2.2)),t3,t4,(t5.1,(t5.2.1,t5.2.2)),t6,(r6.2.1,r6.2.2),([],(r6.2.1,r6.2.2)),0)).bind λs10=>
 if s10.2.2.2.2.1.2.2.length+ [(s10.2.2.2.2.2.2.1,(s10.2.2.2.2.2.2.2.1,s10.2.2.2.2.2.2.2.2))].length<=lim then
 AB n ((s10.1.1,(s10.1.2.1,s10.1.2.2)),(s10.2.1.1,(s10.2.1.2.1,s10.2.1.2.2)),s10.2.2.1,s10.2.2.2.1,(s10.2.2.2.2.1.1,(s10.2.2.2.2.1.2.1,s10.2.2.2.2.1.2.2++ [(s10.2.2.2.2.2.2.1,(s10.2.2.2.2.2.2.2.1,s10.2.2.2.2.2.2.2.2))])),w64 (s10.2.2.2.2.2.1-1))
 else none
 else
 (Ay Aa ((r6.1.1,(r6.1.2.1,r6.1.2.2)),(t2.1,(t2.2.1,t2.2.2)),t3,t4,(t5.1,(t5.2.1,t5.2.2)),t6,(r6.2.1,r6.2.2),([],(r6.2.1,r6.2.2)),0)).bind λs11=>
 if s11.2.2.2.2.1.2.2.length+ [(s11.2.2.2.2.2.2.1,(s11.2.2.2.2.2.2.2.1,s11.2.2.2.2.2.2.2.2))].length<=lim then
 AB n ((s11.1.1,(s11.1.2.1,s11.1.2.2)),(s11.2.1.1,(s11.2.1.2.1,s11.2.1.2.2)),s11.2.2.1,s11.2.2.2.1,(s11.2.2.2.2.1.1,(s11.2.2.2.2.1.2.1,s11.2.2.2.2.1.2.2++ [(s11.2.2.2.2.2.2.1,(s11.2.2.2.2.2.2.2.1,s11.2.2.2.2.2.2.2.2))])),w64 (s11.2.2.2.2.2.1-1))
 else none
 else
 some ((t0.1,(t0.2.1,t0.2.2)),(t2.1,(t2.2.1,t2.2.2)),(t5.1,(t5.2.1,t5.2.2)))
def Bj:Nat->(((List Int)×Int×Int)×(Int×(Int×(List ((List Int)×Int×(List (List Int))))))×(Int×(Int×(List ((List Int)×Int×(List (List Int))))))×Int)->Option (((List Int)×Int×Int)×(Int×(Int×(List ((List Int)×Int×(List (List Int))))))×(Int×(Int×(List ((List Int)×Int×(List (List Int)))))))
 |0,_=>none
 |n+1,(t0,t2,t5,t10)=>
 if decide ((t5.2.2.length:Int)>0)then
 if decide ((t5.2.2.length:Int)<t10)then
 if inb 0 t5.2.2 then
 if t5.2.2.length+ [((gd t5.2.2 0 ([],(0,[]))).1,(((gd t5.2.2 0 ([],(0,[]))).2).1,((gd t5.2.2 0 ([],(0,[]))).2).2))].length<=lim then
 Bj n ((t0.1,(t0.2.1,t0.2.2)),(t2.1,(t2.2.1,t2.2.2)),(t5.1,(t5.2.1,t5.2.2++ [((gd t5.2.2 0 ([],(0,[]))).1,(((gd t5.2.2 0 ([],(0,[]))).2).1,((gd t5.2.2 0 ([],(0,[]))).2).2))])),t10)
 else none
 else none
 else
 some ((t0.1,(t0.2.1,t0.2.2)),(t2.1,(t2.2.1,t2.2.2)),(t5.1,(t5.2.1,t5.2.2)))
 else
 some ((t0.1,(t0.2.1,t0.2.2)),(t2.1,(t2.2.1,t2.2.2)),(t5.1,(t5.2.1,t5.2.2)))
def DQ (t0:(List Int)×Int×Int):Option (((List Int)×Int×Int)×(Int×Int×(List ((List Int)×Int×(List (List Int)))))):=
 (CR (t0.1,(t0.2.1,t0.2.2))).bind λr1=>
 (Ad (r1.1.1,(r1.1.2.1,r1.1.2.2)) [1,2,3,3,4,4,5,6]).bind λr2=>
 (Ad (r2.1.1,(r2.1.2.1,r2.1.2.2)) [0,1,2,3,4,5,6,8]).bind λr3=>
 (AB Aa ((r3.1.1,(r3.1.2.1,r3.1.2.2)),(0,(0,[])),r1.2.1,r1.2.2,(r2.2,(r1.2.1,[])),r3.2)).bind λs4=>
 (Af (s4.1.1,(s4.1.2.1,s4.1.2.2)) 40).bind λr5=>
 if r5.2==0 then
 (Ad (r5.1.1,(r5.1.2.1,r5.1.2.2)) [(-1),0,9,10]).bind λr6=>
 some ((r6.1.1,(r6.1.2.1,r6.1.2.2)),(r6.2,(s4.2.2.2.1,s4.2.2.2.2)))
 else
 if r5.2==1 then
 if decide ((s4.2.2.2.2.length:Int)>0)then
 if inb 0 s4.2.2.2.2 then
 if((gd s4.2.2.2.2 0 ([],(0,[]))).1).length+ [0].length<=lim then
 if inb 0 s4.2.2.2.2 then
 if 0=0 then
 some ((r5.1.1,(r5.1.2.1,r5.1.2.2)),(s4.2.2.1,(s4.2.2.2.1,stt s4.2.2.2.2 0 (((gd s4.2.2.2.2 0 ([],(0,[]))).1)++ [0],(gd s4.2.2.2.2 0 ([],(0,[]))).2))))
 else none
 else none
 else none
 else none
 else
 some ((r5.1.1,(r5.1.2.1,r5.1.2.2)),(s4.2.2.1,(s4.2.2.2.1,s4.2.2.2.2)))
 else
 if r5.2==2 then
 (Af (r5.1.1,(r5.1.2.1,r5.1.2.2)) 2).bind λr7=>
 (Bj Aa ((r7.1.1,(r7.1.2.1,r7.1.2.2)),(s4.2.1.1,(s4.2.1.2.1,s4.2.1.2.2)),(s4.2.2.1,(s4.2.2.2.1,s4.2.2.2.2)),w64 (40+r7.2))).bind λs8=>
 some ((s8.1.1,(s8.1.2.1,s8.1.2.2)),(s8.2.2.1,(s8.2.2.2.1,s8.2.2.2.2)))
 else
 some ((r5.1.1,(r5.1.2.1,r5.1.2.2)),(s4.2.2.1,(s4.2.2.2.1,s4.2.2.2.2)))
def EG (code:List Int):Option ((Int×Int×(List ((List Int)×Int×(List (List Int)))))):=
 (DQ (code,(0,0))).bind λr1=>
 some (r1.2.1,(r1.2.2.1,r1.2.2.2))
def CI (net:Int×Int×(List ((List Int)×Int×(List (List Int))))) (values:List Int):Option (Bool):=
 if(values.length:Int)==net.1 then
 (Eo values net.2.1).bind λr1=>
 some r1
 else
 some false
def Eb (net:Int×Int×(List ((List Int)×Int×(List (List Int))))) (values:List Int):Option (Int×Bool):=
 (B2 (net.1,(net.2.1,net.2.2))).bind λr1=>
 if !r1 then
 some (0,false)
 else
 (CI (net.1,(net.2.1,net.2.2)) values).bind λr2=>
 if !r2 then
 some (0,false)
 else
 (Dy (net.1,(net.2.1,net.2.2)) values).bind λr3=>
 if decide (r3<0)then
 some (0,false)
 else
 some (r3,true)
def C2 (net:Int×Int×(List ((List Int)×Int×(List (List Int))))) (values:List Int):Option (Bool):=
 if(values.length:Int)==net.1 then
 (Dc net.2.1 values).bind λr1=>
 some r1
 else
 some false
def Ec (net:Int×Int×(List ((List Int)×Int×(List (List Int))))) (values:List Int):Option (Int×Bool):=
 (C6 (net.1,(net.2.1,net.2.2))).bind λr1=>
 if !r1 then
 some (0,false)
 else
 (C2 (net.1,(net.2.1,net.2.2)) values).bind λr2=>
 if !r2 then
 some (0,false)
 else
 (Ek (net.1,(net.2.1,net.2.2)) values).bind λr3=>
 if decide (r3<0)then
 some (0,false)
 else
 some (r3,true)
def Cf (net:Int×Int×(List ((List Int)×Int×(List (List Int))))) (values:List Int):Option (Bool×Bool):=
 (B2 (net.1,(net.2.1,net.2.2))).bind λr1=>
 if !r1 then
 some (false,false)
 else
 (CI (net.1,(net.2.1,net.2.2)) values).bind λr2=>
 if !r2 then
 some (false,false)
 else
 (Dy (net.1,(net.2.1,net.2.2)) values).bind λr3=>
 some (decide (r3<0),true)
def Fr (net:Int×Int×(List ((List Int)×Int×(List (List Int))))) (values:List Int):Option (Bool×Bool):=
 (C6 (net.1,(net.2.1,net.2.2))).bind λr1=>
 if !r1 then
 some (false,false)
 else
 (C2 (net.1,(net.2.1,net.2.2)) values).bind λr2=>
 if !r2 then
 some (false,false)
 else
 (Ek (net.1,(net.2.1,net.2.2)) values).bind λr3=>
 some (decide (r3<0),true)
end T
open Go Go.Va
namespace T
theorem LM (a:Int): ∃m,CM a 1=some m/\1<=m/\a<=m/\(m<=a∨m<=1):=by
 unfold CM
 by_cases h:a>1
 ·exact⟨a,by rw[if_pos (by simpa using h)],by omega,by omega,by omega⟩
 ·exact⟨1,by rw[if_neg (by simpa using h)],by omega,by omega,by omega⟩
def conD (W:Nat) (c:Con):Prop:=c.1.length<=W/\rowsB 601 3 c.2.2
theorem conD.mono {W W':Nat} {c:Con} (h:W<=W'):conD W c->conD W' c:=λ⟨a,b⟩=>⟨by omega,b⟩
def IF (a:Net):Prop:= -1<=a.1/\a.1<=10/\0<=a.2.1/\a.2.1<=5/\a.2.2.length<=41/\ ∀c∈a.2.2,conD 5 c
theorem KT {a:Net} (h:IF a):HF a:=⟨by have:=h.2.2.2.2.1;omega,λc hc=>by
 have h1:=h.2.2.2.2.2 c hc
 exact⟨by have:=h1.1;omega,by have:=h1.2.1;omega,λr hr=>by have:=h1.2.2 r hr;omega⟩⟩
theorem Lu {V:Int} (hV:V<=100) (t2:Net) (t3:Int) (t4:List Bb) (n5:Int) (cs:List Con) (t6:Int) (t7 rl:Int×List (List Int)): ∀(d f k x:Nat) (c:Ed) (s:List Int),x+d=4->d<f->Cur k c->k+2*d<=1000000->s.length=x->
  ∃c' s',Ay f (c,t2,t3,t4,(V,(n5,cs)),t6,t7,(s,rl),(x:Int))=some (c',t2,t3,t4,(V,(n5,cs)),t6,(s',rl))/\Cur (k+2*d) c'/\s'.length<=4:=by
 intro d
 induction d with
 |zero=>
  intro f k x c s hx hf hc hk hs
  obtain⟨f,rfl⟩: ∃z,f=z+1:=⟨f-1,by omega⟩
  refine⟨c,s,?_,hc,by omega⟩
  simp only[Ay]
  rw[if_neg (show¬decide ((x:Int)<4)=true by simp;omega)]
  simp
 |succ d ih=>
  intro f k x c s hx hf hc hk hs
  obtain⟨f,rfl⟩: ∃z,f=z+1:=⟨f-1,by omega⟩
  simp only[Ay]
  by_cases h:(x:Int)<t7.1
  ·obtain⟨m,e1,m1,m2,m3⟩:=LM V
   obtain⟨c1,y,e2,g2,_⟩:=D8 hc (by omega) m (by omega)
   have e2:Af (c.1,(c.2.1,c.2.2)) m=_:=e2
   obtain⟨c',s',e3,g3,h3⟩:=ih f (k+2) (x+1) c1 (s++ [y]) (by omega) (by omega) g2 (by omega) (by simp;omega)
   refine⟨c',s',?_,g3.mono (by omega),h3⟩
   rw[if_pos (by simpa using h),if_pos (by simp;omega)]
   simp only[e1,Option.bind_some,e2]
   rw[if_pos (by rw[List.length_singleton];unfold lim;omega),Ab (by omega)]
   exact e3
  ·exact⟨c,s,by rw[if_neg (by simpa using h)],hc.mono (by omega),by omega⟩
theorem Mc {n V:Int} (hn:n<=100) (hV:V<=100) {rels:List Bb} (hr:IM rels) (t2:Net) (n5:Int): ∀(d f k:Nat) (c:Ed) (cs:List Con),d<f->Cur k c->k+300*d<=90000->cs.length+d<=8->(∀c∈cs,conD 4 c)->
  ∃c' cs',AB f (c,t2,n,rels,(V,(n5,cs)),(d:Int))=some (c',t2,(V,(n5,cs')))/\Cur (k+300*d) c'/\cs'.length<=8/\ ∀c∈cs',conD 4 c:=by
 intro d
 induction d with
 |zero=>
  intro f k c cs hf hc hk ho hr
  obtain⟨f,rfl⟩: ∃z,f=z+1:=⟨f-1,by omega⟩
  refine⟨c,cs,?_,hc,by omega,hr⟩
  simp only[AB]
  rw[if_neg (by simp)]
 |succ d ih=>
  intro f k c cs hf hc hk ho hcs
  obtain⟨f,rfl⟩: ∃z,f=z+1:=⟨f-1,by omega⟩
  have ew:w64 (((d+1:Nat):Int)-1)=(d:Int):=by rw[AL (by omega) (by omega)];omega
  obtain⟨m,e0,m1,m2,m3⟩:=LM n
  obtain⟨c1,x1,e1,g1,_⟩:=D1 hc (by omega) (l:= [1,2,2,3]) (by simp) (by simp)
  have e1:Ad (c.1,(c.2.1,c.2.2)) [1,2,2,3]=_:=e1
  obtain⟨c2,r,e2,g2,h2⟩:=GW (N:=m) (A:=x1) g1 (by omega) (by omega)
  have e2:BO (c1.1,(c1.2.1,c1.2.2)) m x1=_:=e2
  have hfin: ∀(k':Nat) (c3:Ed) (r:Int×List (List Int)),Cur k' c3->k'<=k+290->rowsB 601 3 r.2->
    ∃c' cs',((Ay Aa (c3,t2,n,rels,(V,(n5,cs)),((d+1:Nat):Int),r,([],r),0)).bind λs10=>
     if s10.2.2.2.2.1.2.2.length+ [(s10.2.2.2.2.2.2.1,(s10.2.2.2.2.2.2.2.1,s10.2.2.2.2.2.2.2.2))].length<=lim then
      AB f ((s10.1.1,(s10.1.2.1,s10.1.2.2)),(s10.2.1.1,(s10.2.1.2.1,s10.2.1.2.2)),s10.2.2.1,s10.2.2.2.1,(s10.2.2.2.2.1.1,(s10.2.2.2.2.1.2.1,s10.2.2.2.2.1.2.2++ [(s10.2.2.2.2.2.2.1,(s10.2.2.2.2.2.2.2.1,s10.2.2.2.2.2.2.2.2))])),w64 (s10.2.2.2.2.2.1-1))
     else none)=some (c',t2,(V,(n5,cs')))/\Cur (k+300*(d+1)) c'/\cs'.length<=8/\ ∀c∈cs',conD 4 c:=by
   intro k' c3 r hc3 hk' hr3
   obtain⟨c4,s,e4,g4,h4⟩:=Lu hV t2 n rels n5 cs ((d+1:Nat):Int) r r 4 Aa k' 0 c3 [] (by omega) (by unfold Aa;omega) hc3 (by omega) rfl
   have e4:Ay Aa (c3,t2,n,rels,(V,(n5,cs)),((d+1:Nat):Int),r,([],r),0)=_:=e4
   obtain⟨c',cs',e5,g5,h5,h6⟩:=ih f (k'+8) c4 (cs++ [(s,r)]) (by omega) g4 (by omega) (by simp;omega) (λq hq=>by
    rcases List.mem_append.1 hq with hq|hq
    ·exact hcs q hq
    ·rw[List.mem_singleton.1 hq];exact⟨h4,hr3⟩)
   refine⟨c',cs',?_,g5.mono (by omega),h5,h6⟩
   rw[e4]
   simp only[Option.bind_some]
   rw[if_pos (by rw[List.length_singleton];unfold lim;omega)]
   simp only[ew]
   exact e5
  simp only[AB,e0,e1,e2,Option.bind_some]
  rw[if_pos (show decide ((((d+1:Nat):Int))>0)=true by simp)]
  by_cases hl:0<rels.length
  ·rw[if_pos (show decide ((rels.length:Int)>0)=true by simp;omega)]
   obtain⟨c3,x3,e3,g3⟩:=Il g2 (by omega) 5 (by omega)
   have e3:AP (c2.1,(c2.2.1,c2.2.2)) 5=_:=e3
   simp only[e3,Option.bind_some]
   cases x3 with
   |true=>
    simp only[Bool.not_true,Bool.false_eq_true,if_false]
    exact hfin _ _ r g3 (by omega) h2
   |false=>
    simp only[Bool.not_false,if_true]
    have hrl:=hr.1
    obtain⟨c4,x4,e4,g4,h40,h41,_⟩:=D8 g3 (by omega) (rels.length:Int) (by omega)
    have e4:Af (c3.1,(c3.2.1,c3.2.2)) (rels.length:Int)=_:=e4
    obtain⟨x,rfl⟩: ∃x:Nat,x4=(x:Int):=⟨x4.toNat,by omega⟩
    have hx:x<rels.length:=by have:=h41 (by omega);omega
    simp only[e4,Option.bind_some,Ac,hx,if_true,Ai hx]
    exact hfin _ _ rels[x] g4 (by omega) (hr.2 _ (List.getElem_mem hx))
  ·rw[if_neg (show¬decide ((rels.length:Int)>0)=true by rw[decide_eq_true_eq];omega)]
   exact hfin _ _ r g2 (by omega) h2
theorem Lw {W:Nat} {c:Ed} {t2:Net} {V n T:Int} (hT:T<=41): ∀(d f:Nat) (cs:List Con),cs.length+d=41->d<f->(∀c∈cs,conD W c)->
  ∃cs',Bj f (c,t2,(V,(n,cs)),T)=some (c,t2,(V,(n,cs')))/\cs'.length<=41/\ ∀c∈cs',conD W c:=by
 intro d
 induction d with
 |zero=>
  intro f cs hl hf hc
  obtain⟨f,rfl⟩: ∃z,f=z+1:=⟨f-1,by omega⟩
  refine⟨cs,?_,by omega,hc⟩
  simp only[Bj]
  rw[if_neg (show¬decide ((cs.length:Int)<T)=true by rw[decide_eq_true_eq];omega)]
  simp
 |succ d ih=>
  intro f cs hl hf hc
  obtain⟨f,rfl⟩: ∃z,f=z+1:=⟨f-1,by omega⟩
  simp only[Bj]
  by_cases h0:0<cs.length
  ·rw[if_pos (show decide ((cs.length:Int)>0)=true by simp;omega)]
   by_cases h1:(cs.length:Int)<T
   ·rw[if_pos (by simpa using h1)]
    have hi:inb 0 cs:=by unfold inb;omega
    have hg:gd cs 0 ([],(0,[]))=cs[0]:=Ai (k:=0) h0
    obtain⟨cs',e,h2,h3⟩:=ih f (cs++ [cs[0]]) (by simp;omega) (by omega) (λq hq=>by
     rcases List.mem_append.1 hq with hq|hq
     ·exact hc q hq
     ·rw[List.mem_singleton.1 hq];exact hc _ (List.getElem_mem h0))
    refine⟨cs',?_,h2,h3⟩
    rw[if_pos hi,if_pos (by rw[List.length_singleton];unfold lim;omega)]
    simp only[hg]
    exact e
   ·exact⟨cs,by rw[if_neg (by simpa using h1)],by omega,hc⟩
  ·exact⟨cs,by rw[if_neg (by rw[decide_eq_true_eq];omega)],by omega,hc⟩
theorem I4 {k:Nat} {c:Ed} (hc:Cur k c) (hk:k<=5000): ∃c' a,DQ c=some (c',a)/\Cur (k+5000) c'/\IF a:=by
 obtain⟨c1,n,rels,e1,g1,n0,n1,hr⟩:=IU hc (by omega)
 have e1:CR (c.1,(c.2.1,c.2.2))=_:=e1
 obtain⟨c2,V,e2,g2,hV⟩:=D1 g1 (by omega) (l:= [1,2,3,3,4,4,5,6]) (by simp) (by simp)
 have e2:Ad (c1.1,(c1.2.1,c1.2.2)) [1,2,3,3,4,4,5,6]=_:=e2
 obtain⟨c3,m,e3,g3,hm⟩:=D1 g2 (by omega) (l:= [0,1,2,3,4,5,6,8]) (by simp) (by simp)
 have e3:Ad (c2.1,(c2.2.1,c2.2.2)) [0,1,2,3,4,5,6,8]=_:=e3
 have hV':1<=V/\V<=6:=by simp at hV;omega
 obtain⟨m,rfl⟩: ∃z:Nat,m=(z:Int):=⟨m.toNat,by simp at hm;omega⟩
 have hm':m<=8:=by simp at hm;omega
 obtain⟨c4,cs,e4,g4,h4,h5⟩:=Mc (n:=n) (V:=V) (by omega) (by omega) hr (0,(0,[])) n m Aa _ c3 [] (by unfold Aa;omega) g3 (by omega) (by simpa using hm') (by simp)
 have e4:AB Aa ((c3.1,(c3.2.1,c3.2.2)),(0,(0,[])),n,rels,(V,(n,[])),(m:Int))=_:=e4
 obtain⟨c5,x5,e5,g5,h50,h51,_⟩:=D8 g4 (by omega) 40 (by omega)
 have e5:Af (c4.1,(c4.2.1,c4.2.2)) 40=_:=e5
 unfold DQ
 simp only[e1,e2,e3,e4,e5,Option.bind_some]
 by_cases b0:x5=0
 ·obtain⟨c6,x6,e6,g6,hm6⟩:=D1 g5 (by omega) (l:= [(-1),0,9,10]) (by simp) (by simp)
  have e6:Ad (c5.1,(c5.2.1,c5.2.2)) [(-1),0,9,10]=_:=e6
  rw[if_pos (by simpa using b0)]
  simp only[e6,Option.bind_some]
  refine⟨_,_,rfl,g6.mono (by omega),?_⟩
  have: -1<=x6/\x6<=10:=by simp at hm6;omega
  exact⟨this.1,this.2,n0,n1,by dsimp only;omega,λq hq=>(h5 q hq).mono (by omega)⟩
 ·rw[if_neg (by simpa using b0)]
  by_cases b1:x5=1
  ·rw[if_pos (by simpa using b1)]
   by_cases hl:0<cs.length
   ·have hi:inb 0 cs:=by unfold inb;omega
    have hg:gd cs 0 ([],(0,[]))=cs[0]:=Ai (k:=0) hl
    have h0:=h5 _ (List.getElem_mem hl)
    have h1:((gd cs 0 ([],(0,[]))).1).length+ [(0:Nat)].length<=lim:=by
     rw[hg,List.length_singleton];have:=h0.1;unfold lim;omega
    rw[if_pos (show decide ((cs.length:Int)>0)=true by simp;omega),if_pos hi]
    simp only[hg]at h1⊢
    rw[if_pos h1,if_pos hi]
    simp only[if_true]
    refine⟨_,_,rfl,g5.mono (by omega),by dsimp only;omega,by dsimp only;omega,n0,n1,by dsimp only[stt];rw[List.length_set];omega,λq hq=>?_⟩
    rcases List.mem_or_eq_of_mem_set hq with hq|rfl
    ·exact(h5 q hq).mono (by omega)
    ·exact⟨by have:=h0.1;simp;omega,h0.2⟩
   ·rw[if_neg (by rw[decide_eq_true_eq];omega)]
    exact⟨_,_,rfl,g5.mono (by omega),by dsimp only;omega,by dsimp only;omega,n0,n1,by dsimp only;omega,λq hq=>(h5 q hq).mono (by omega)⟩
  ·rw[if_neg (by simpa using b1)]
   by_cases b2:x5=2
   ·rw[if_pos (by simpa using b2)]
    obtain⟨c6,x6,e6,g6,h60,h61,_⟩:=D8 g5 (by omega) 2 (by omega)
    have e6:Af (c5.1,(c5.2.1,c5.2.2)) 2=_:=e6
    have h61:=h61 (by omega)
    have ew:w64 (40+x6)=40+x6:=AL (by omega) (by omega)
    obtain⟨cs',e7,h7,h8⟩:=Lw (c:=c6) (t2:=(0,(0,[]))) (V:=V) (n:=n) (T:=40+x6) (by omega) (41-cs.length) Aa cs (by omega) (by unfold Aa;omega) h5
    have e7:Bj Aa ((c6.1,(c6.2.1,c6.2.2)),(0,(0,[])),(V,(n,cs)),40+x6)=_:=e7
    simp only[e6,Option.bind_some,ew,e7]
    exact⟨_,_,rfl,g6.mono (by omega),by dsimp only;omega,by dsimp only;omega,n0,n1,h7,λq hq=>(h8 q hq).mono (by omega)⟩
   ·rw[if_neg (by simpa using b2)]
    exact⟨_,_,rfl,g5.mono (by omega),by dsimp only;omega,by dsimp only;omega,n0,n1,by dsimp only;omega,λq hq=>(h5 q hq).mono (by omega)⟩
end T
open Go Go.Va
namespace T
theorem In {a:Net} (hb:C1 a=true): ∃(V n:Nat) (cs:List Con),a=((V:Int),((n:Int),cs))/\SrchOk V n cs:=by
 have hN:=Fh hb
 obtain⟨v,nn,cs⟩:=a
 have hv:=hN.hv
 have hn:=hN.hn
 have hc:=hN.hc
 have hcon:=hN.con
 dsimp only at hv hn hc hcon
 obtain⟨V,rfl⟩: ∃V:Nat,v=(V:Int):=⟨v.toNat,by omega⟩
 obtain⟨n,rfl⟩: ∃n:Nat,nn=(n:Int):=⟨nn.toNat,by omega⟩
 exact⟨V,n,cs,rfl,by omega,by omega,hc,hcon⟩
end T
open Go Go.Va
namespace T
section
variable {V n:Nat} {cs:List Con} {t:List Int} {a:Net}
theorem K5 (hS:SrchOk V n cs):t∈DY V n cs (List.replicate V (-1))↔t.length=V/\(∀u,u<V->0<=t.getD u 0/\t.getD u 0<(n:Int))/\ ∀c∈cs,Ck t c=true:=by
 unfold DY
 rw[G4]
 simp only[List.length_nil,Nat.zero_add,List.take_zero,true_and,Nat.zero_le,true_implies]
 constructor
 ·rintro ⟨h1,h2⟩
  refine⟨h1,λu hu=>(h2 u (by omega)).1,λc hc=>?_⟩
  have hm:c∈Az cs (B7 c):=E6.2 ⟨hc,rfl⟩
  have hlt:=(E1 hS hm).2
  have:=(h2 (B7 c) (by omega)).2.2
  rw[Hr hS (by omega),List.all_eq_true]at this
  exact this c hm
 ·rintro ⟨h1,h2,h3⟩
  refine⟨h1,λq hq=>⟨by have:=h2 q (by omega);omega,KS (by omega),?_⟩⟩
  rw[Hr hS hq,List.all_eq_true]
  exact λc hc=>h3 c (E6.1 hc).1
end
end T
open Go Go.Va
namespace T
section
variable {V n:Nat} {cs:List Con} {a:Net}
def asB (a:Net) (v:List Int):Bool:=decide ((v.length:Int)=a.1)&&Ce a.2.1 v
theorem FI {v:List Int} (hl:v.length<=1048576):CI a v=some (asB a v):=by
 unfold CI asB
 by_cases h:(v.length:Int)=a.1
 ·rw[if_pos (by simpa using h),EE _ (by omega),decide_eq_true h];rfl
 ·rw[if_neg (by simpa using h),decide_eq_false h];rfl
theorem F9 {v:List Int} (hl:v.length<=1048576) (hn:0<=a.2.1/\a.2.1<=100):C2 a v=some (asB a v):=by
 unfold C2 asB
 by_cases h:(v.length:Int)=a.1
 ·rw[if_pos (by simpa using h),DS (by omega) (by omega) (by omega),decide_eq_true h];rfl
 ·rw[if_neg (by simpa using h),decide_eq_false h];rfl
def fuV (a:Net) (v:List Int):Int×Bool:=if C1 a&&asB a v then(if HD a v<0 then(0,false)else(HD a v,true))else(0,false)
def isV (a:Net) (v:List Int):Bool×Bool:=if C1 a&&asB a v then(decide (HD a v<0),true)else(false,false)
theorem Ms (h:HF a) {v:List Int} (hl:v.length<=1048576):
  Eb a v=some (fuV a v)/\Ec a v=some (fuV a v)/\Cf a v=some (isV a v)/\Fr a v=some (isV a v):=by
 unfold Eb Ec Cf Fr fuV isV
 rw[Bm (a:=(a.1,(a.2.1,a.2.2))) h,DK (a:=(a.1,(a.2.1,a.2.2))) h]
 rw[show C1 (a.1,(a.2.1,a.2.2))=C1 a from rfl]
 cases hb:C1 a with
 |false=>simp
 |true=>
  have hN:=Fh hb
  have hn:=hN.hn
  have e1:CI (a.1,(a.2.1,a.2.2)) v=_:=FI (a:=a) hl
  have e2:C2 (a.1,(a.2.1,a.2.2)) v=_:=F9 (a:=a) hl (by omega)
  simp only[Option.bind_some,Bool.not_true,Bool.false_eq_true,if_false,e1,e2,Bool.true_and]
  cases hA:asB a v with
  |false=>simp
  |true=>
   have hv:(v.length:Int)=a.1:=by
    unfold asB at hA
    rw[Bool.and_eq_true]at hA
    exact of_decide_eq_true hA.1
   simp only[Option.bind_some,Bool.not_true,Bool.false_eq_true,if_false,if_true,F8 hN hv,GR hN hv,decide_eq_true_eq]
   by_cases hf:HD a v<0<;>simp[hf]
end
end T
set_option linter.unusedVariables false
open Go Go.Va
namespace T
def Bp:Nat->((List Int)×(Int×Int×(List ((List Int)×Int×(List (List Int)))))×(List Int)×Int×Int)->Option (((List Int)×(Int×Int×(List ((List Int)×Int×(List (List Int))))))⊕((List Int)×Bool))
 |0,_=>none
 |n+1,(partial_,net,t20,t21,t22)=>
 if decide (t22<t21)then
 if inb t22 t20 then
 if decide ((gd t20 t22 0)<(-1))then
 some (.inr ([],false))
 else
 if decide ((gd t20 t22 0)≥net.2.1)then
 some (.inr ([],false))
 else
 Bp n (partial_,(net.1,(net.2.1,net.2.2)),t20,t21,w64 (t22+1))
 else none
 else
 some (.inl (partial_,(net.1,(net.2.1,net.2.2))))
def DM (net:Int×Int×(List ((List Int)×Int×(List (List Int))))) (partial_:List Int):Option ((List Int)×Bool):=
 (B2 (net.1,(net.2.1,net.2.2))).bind λr1=>
  if !r1 then
   some ([],false)
  else
   if(partial_.length:Int) !=net.1 then
    some ([],false)
   else
    (Bp Aa (partial_,(net.1,(net.2.1,net.2.2)),partial_,(partial_.length:Int),0)).bind λs2=>
     match s2 with
     | .inl s3=>
      (DN (s3.2.1,(s3.2.2.1,s3.2.2.2)) s3.1).bind λr5=>
       if !r5.1 then
        some ([],false)
       else
        some (r5.2,true)
     | .inr s4=>
      some (s4.1,s4.2)
end T
set_option linter.unusedVariables false
open Go Go.Va
namespace T
def B0:Nat->((List Int)×(Int×Int×(List ((List Int)×Int×(List (List Int)))))×Int)->Option (((List Int)×(Int×Int×(List ((List Int)×Int×(List (List Int))))))⊕(Bool))
 |0,_=>none
 |n+1,(partial_,net,i)=>
 if decide (i<(partial_.length:Int))then
 if inb i partial_ then
 (C3 (gd partial_ i 0) (-1) (w64 (net.2.1-1))).bind λr1=>
 if !r1 then
 some (.inr false)
 else
 B0 n (partial_,(net.1,(net.2.1,net.2.2)),w64 (i+1))
 else none
 else
 some (.inl (partial_,(net.1,(net.2.1,net.2.2))))
def DL (net:Int×Int×(List ((List Int)×Int×(List (List Int))))) (partial_:List Int):Option (Bool):=
 (B0 Aa (partial_,(net.1,(net.2.1,net.2.2)),0)).bind λs1=>
  match s1 with
  | .inl s2=>
   some ((s2.1.length:Int)==s2.2.1)
  | .inr s3=>
   some s3
def DP (net:Int×Int×(List ((List Int)×Int×(List (List Int))))) (partial_:List Int):Option ((List Int)×Bool):=
 (C6 (net.1,(net.2.1,net.2.2))).bind λr1=>
 if !r1 then
 some ([],false)
 else
 (DL (net.1,(net.2.1,net.2.2)) partial_).bind λr2=>
 if !r2 then
 some ([],false)
 else
 (EA (net.1,(net.2.1,net.2.2)) net.2.2 partial_ 1 true).bind λr3=>
 if r3.2.1==0 then
 some ([],false)
 else
 if inb 0 r3.1 then
 some (gd r3.1 0 [],true)
 else none
end T
open Go Go.Va
namespace T
section
variable {a:Net} {V n:Nat} {cs:List Con}
def Ga (acc:List Bb) (c:Con):List Bb:=if c.2∈acc then acc else acc++ [c.2]
def DX (cs:List Con):List Bb:=cs.foldl Ga []
theorem Jb {k:Nat} (hk:k<cs.length):DX (cs.take (k+1))=Ga (DX (cs.take k)) cs[k]:=by
 unfold DX
 rw[List.take_succ_eq_append_getElem hk,List.foldl_append];rfl
theorem JF {acc:List Bb} {c:Con} {r:Bb}:r∈Ga acc c↔r∈acc∨r=c.2:=by
 unfold Ga
 split
 ·constructor
  ·exact .inl
  ·rintro (h|rfl)
   ·exact h
   ·assumption
 ·simp
theorem HT {r:Bb}: ∀(cs:List Con) (acc:List Bb),r∈cs.foldl Ga acc↔r∈acc∨ ∃c∈cs,r=c.2
 | [],acc=>by simp
 |c::cs,acc=>by
  rw[List.foldl_cons,HT cs,JF]
  simp only[List.mem_cons,exists_eq_or_imp]
  constructor
  ·rintro ((h|h)|h)
   ·exact .inl h
   ·exact .inr (.inl h)
   ·exact .inr (.inr h)
  ·rintro (h|h|h)
   ·exact .inl (.inl h)
   ·exact .inl (.inr h)
   ·exact .inr h
theorem GO {r:Bb}:r∈DX cs↔ ∃c∈cs,r=c.2:=by
 unfold DX
 rw[HT];simp
theorem JE {acc:List Bb} {c:Con}:(Ga acc c).length<=acc.length+1:=by
 unfold Ga;split
 ·omega
 ·simp
theorem HS: ∀(cs:List Con) (acc:List Bb),(cs.foldl Ga acc).length<=acc.length+cs.length
 | [],acc=>by simp
 |c::cs,acc=>by
  have:=HS cs (Ga acc c)
  have:=JE (acc:=acc) (c:=c)
  rw[List.foldl_cons,List.length_cons];omega
theorem H4:(DX cs).length<=cs.length:=by
 have:=HS cs []
 simpa[DX]using this
def GV (a:Net) (p:List Int):Bool:=decide ((p.length:Int)=a.1)&&p.all λx=>decide (-1<=x/\x<a.2.1)
def fsV (a:Net) (p:List Int):List Int×Bool:=
 if C1 a&&GV a p then(match DY a.1.toNat a.2.1.toNat a.2.2 p with| []=>([],false)|t::_=>(t,true))else([],false)
theorem Fv (h:HF a) {p:List Int} (hl:p.length<=1048576):DM a p=some (fsV a p):=by
 unfold DM fsV
 rw[Bm (a:=(a.1,(a.2.1,a.2.2))) h]
 rw[show C1 (a.1,(a.2.1,a.2.2))=C1 a from rfl]
 cases hb:C1 a with
 |false=>simp
 |true=>
  simp only[Option.bind_some,Bool.not_true,Bool.false_eq_true,if_false,Bool.true_and]
  unfold GV
  by_cases he:(p.length:Int)=a.1
  ·rw[if_neg (by simpa using he),decide_eq_true he]
   have:=Fa p (λf i=>Bp f (p,a,p,(p.length:Int),i)) (λx=>decide (-1<=x/\x<a.2.1)) (.inr ([],false)) (.inl (p,a)) (λf k hk=>?_) (λf=>?_) (n:=Aa) (by unfold Aa;omega)
   ·have this:Bp Aa (p,(a.1,(a.2.1,a.2.2)),p,(p.length:Int),0)=_:=this
    rw[this]
    cases hp:p.all λx=>decide (-1<=x/\x<a.2.1)with
    |false=>simp
    |true=>
     obtain⟨V,n,cs,rfl,hS⟩:=In hb
     have e:=Iy hS (given:=p) (by dsimp only at he;omega)
     simp only[Option.bind_some,if_true,e,Bool.and_self,Int.toNat_natCast]
     cases DY V n cs p with
     |nil=>simp[If]
     |cons t l=>simp[If]
   ·simp only[Bp,Ac,hk,Ai hk,if_true,Ab (show k<4611686018427387904 by omega)]
    rw[if_pos (by rw[decide_eq_true_eq];omega)]
    by_cases h1:p[k]< -1
    ·rw[if_pos (decide_eq_true h1),if_neg (by rw[decide_eq_true_eq];omega)]
    ·rw[if_neg (by simpa using h1)]
     by_cases h2:p[k]≥a.2.1
     ·rw[if_pos (decide_eq_true h2),if_neg (by rw[decide_eq_true_eq];omega)]
     ·rw[if_neg (by simpa using h2),if_pos (by rw[decide_eq_true_eq];omega)]
   ·simp only[Bp]
    rw[if_neg (by simp)]
  ·rw[if_pos (by simpa using he),decide_eq_false he];simp
theorem I0 {p:List Int} (h:SrchOk V n cs) (hp:p.length=V): ∃s:S19,EA ((V:Int),((n:Int),cs)) cs p 1 true=some s/\(DY V n cs p= []->s.2.1=0)/\ ∀t l,DY V n cs p=t::l->s.2.1=1/\s.1= [t]:=by
 cases hs:DY V n cs p with
 |nil=>exact⟨_,HO (cs0:=cs) (given:=p) (most:=1) (one:=true) h hp (by omega) (s':=([],0,1,true)) (b:=true) (by rw[hs];rfl),λ_=>rfl,λt l e=>(by cases e)⟩
 |cons t l=>exact⟨_,HO (cs0:=cs) (given:=p) (most:=1) (one:=true) h hp (by omega) (s':=([t],1,1,true)) (b:=false) (by rw[hs];rfl),λe=>(by cases e),λt' l' e=>by cases e;exact⟨rfl,rfl⟩⟩
theorem Gn {p:List Int} (hl:p.length<=1048576) (hn:0<=a.2.1/\a.2.1<=100):DL a p=some (GV a p):=by
 unfold DL GV
 have:=Fa p (λf i=>B0 f (p,a,i)) (λx=>decide (-1<=x/\x<a.2.1)) (.inr false) (.inl (p,a)) (λf k hk=>?_) (λf=>?_) (n:=Aa) (by unfold Aa;omega)
 ·have this:B0 Aa (p,(a.1,(a.2.1,a.2.2)),0)=_:=this
  rw[this]
  cases hp:p.all λx=>decide (-1<=x/\x<a.2.1)with
  |false=>simp
  |true=>
   simp only[Option.bind_some,if_true,Bool.and_true]
   congr 1
 ·have ew:w64 (a.2.1-1)=a.2.1-1:=AL (by omega) (by omega)
  simp only[B0,Ac,hk,Ai hk,if_true,Cj,Option.bind_some,ew,Ab (show k<4611686018427387904 by omega)]
  rw[if_pos (by rw[decide_eq_true_eq];omega)]
  by_cases h1: -1<=p[k]/\p[k]<a.2.1
  ·rw[decide_eq_true h1,decide_eq_true (show-1<=p[k]/\p[k]<=a.2.1-1 by omega)];rfl
  ·rw[decide_eq_false h1,decide_eq_false (show¬(-1<=p[k]/\p[k]<=a.2.1-1) by omega)];rfl
 ·simp only[B0]
  rw[if_neg (by simp)]
theorem FA (h:HF a) {p:List Int} (hl:p.length<=1048576):DP a p=some (fsV a p):=by
 unfold DP fsV
 rw[DK (a:=(a.1,(a.2.1,a.2.2))) h]
 rw[show C1 (a.1,(a.2.1,a.2.2))=C1 a from rfl]
 cases hb:C1 a with
 |false=>simp
 |true=>
  have hn:=(Fh hb).hn
  have e1:DL (a.1,(a.2.1,a.2.2)) p=_:=Gn (a:=a) hl (by omega)
  simp only[Option.bind_some,Bool.not_true,Bool.false_eq_true,if_false,Bool.true_and,e1]
  cases hp:GV a p with
  |false=>simp
  |true=>
   have hp':=hp
   unfold GV at hp'
   rw[Bool.and_eq_true]at hp'
   have he:=of_decide_eq_true hp'.1
   obtain⟨V,n,cs,rfl,hS⟩:=In hb
   obtain⟨s,e2,e3,e4⟩:=I0 (p:=p) hS (by dsimp only at he;omega)
   simp only[Option.bind_some,Bool.not_true,Bool.false_eq_true,if_false,e2,if_true,Int.toNat_natCast]
   cases hs:DY V n cs p with
   |nil=>
    rw[if_pos (by simpa using e3 hs)]
   |cons t l=>
    obtain⟨f1,f2⟩:=e4 t l hs
    rw[f1,f2];rfl
theorem J1 (hb:C1 a=true):GV a (List.replicate a.1.toNat (-1))=true:=by
 have hN:=Fh hb
 have hv:=hN.hv
 have hn:=hN.hn
 unfold GV
 rw[Bool.and_eq_true,decide_eq_true_eq,List.all_eq_true]
 refine⟨by simp;omega,λx hx=>?_⟩
 rw[List.eq_of_mem_replicate hx]
 exact decide_eq_true (by omega)
end
end T
open Go Go.Va
namespace T
section
variable {a:Net} {V n:Nat} {cs:List Con} {vals x y:List Int}
theorem Li (h: ∀c∈a.2.2,Ck vals c=true):HD a vals<0:=by
 unfold HD
 cases hf:(List.range' 0 a.2.2.length).find? (λk=>!Ck vals (a.2.2.getD k JJ))with
 |none=>simp
 |some k=>
  have h1:=List.find?_some hf
  have h2:=List.mem_of_find?_eq_some hf
  rw[List.mem_range'_1]at h2
  have hk:k<a.2.2.length:=by omega
  rw[Ah hk]at h1
  have:=h _ (List.getElem_mem hk)
  rw[this]at h1;simp at h1
theorem KH (hb:C1 a=true) (hA:asB a vals=true) (h: ∀c∈a.2.2,Ck vals c=true):isV a vals=(true,true):=by
 unfold isV
 rw[hb,hA,Bool.and_self,if_pos rfl,decide_eq_true (Li h)]
theorem LU (hl:vals.length=V) (hv: ∀u,u<V->0<=vals.getD u 0/\vals.getD u 0<(n:Int)):asB ((V:Int),((n:Int),cs)) vals=true:=by
 unfold asB Ce
 rw[Bool.and_eq_true,decide_eq_true_eq,List.all_eq_true]
 refine⟨by dsimp only;omega,λx hx=>?_⟩
 obtain⟨u,hu,rfl⟩:=List.mem_iff_getElem.1 hx
 have:=hv u (by omega)
 rw[Ah hu]at this
 exact decide_eq_true this
end
end T
open Go Go.Va
namespace T
section
variable {a:Net} {V n:Nat} {cs:List Con} {vals x y:List Int}
theorem KU {a:Net} (h:IF a) {c:Con} (hc:c∈a.2.2):c.2.2.length<=1048576/\ ∀t∈c.2.2,t.length<=1048576:=by
 have h1:=(h.2.2.2.2.2 c hc).2
 exact⟨by have:=h1.1;omega,λt ht=>by have:=h1.2 t ht;omega⟩
theorem LB (hD:IF a) {k:Nat}: ∀r∈DX (a.2.2.take k),r.2.length<=1048576/\ ∀t∈r.2,t.length<=1048576:=λr hr=>by
 obtain⟨c,hc,rfl⟩:=GO.1 hr
 exact KU hD (List.mem_of_mem_take hc)
theorem LC (hD:IF a):JA (DX a.2.2):=⟨by have:=H4 (cs:=a.2.2);have:=hD.2.2.2.2.1;omega,λr hr=>by
 obtain⟨c,hc,rfl⟩:=GO.1 hr
 have:=KU hD hc
 exact⟨this.1,this.2⟩⟩
end
end T
open Go Go.Va
namespace T
section
variable {a:Net} {K:Nat} {c:Con} {i p n:Nat} {st:ASt}
def within (d:Dom) (V:Nat) (t:List Int):Prop:= ∀u,u<V->d2 d u (t.getD u 0).toNat=true
end
end T
set_option linter.unusedVariables false
open Go Go.Va
namespace T
def Dh (code:List Int):Option ((Int×Int×(List ((List Int)×Int×(List (List Int)))))):=
 (EG code).bind λr1=>
 some (r1.1,(r1.2.1,r1.2.2))
def BV:Nat->((Int×Int×(List ((List Int)×Int×(List (List Int)))))×(List (List (Int×Int)))×Bool×(List (List (Int×Int)))×Int×Int)->Option (((Int×Int×(List ((List Int)×Int×(List (List Int)))))×(List (List (Int×Int)))×Bool×(List (List (Int×Int)))×Int)⊕(Bool))
 |0,_=>none
 |n+1,(t3,t4,t5,t6,t8,t9)=>
 if inb t8 t4 then
 if decide (t9<((gd t4 t8 []).length:Int))then
 if inb t8 t4 then
 if inb t9 (gd t4 t8 [])then
 if inb t8 t6 then
 if inb t9 (gd t6 t8 [])then
 if !(((gd (gd t4 t8 []) t9 (0,0)).1)==((gd (gd t6 t8 []) t9 (0,0)).1)&&(((gd (gd t4 t8 []) t9 (0,0)).2)==((gd (gd t6 t8 []) t9 (0,0)).2)&&true))then
 some (.inr false)
 else
 BV n ((t3.1,(t3.2.1,t3.2.2)),t4,t5,t6,t8,w64 (t9+1))
 else none
 else none
 else none
 else none
 else
 some (.inl ((t3.1,(t3.2.1,t3.2.2)),t4,t5,t6,t8))
 else none
def Cg:Nat->((Int×Int×(List ((List Int)×Int×(List (List Int)))))×(List (List (Int×Int)))×Bool×(List (List (Int×Int)))×Int)->Option (((Int×Int×(List ((List Int)×Int×(List (List Int)))))×(List (List (Int×Int)))×Bool)⊕(Bool))
 |0,_=>none
 |n+1,(t3,t4,t5,t6,t8)=>
  if decide (t8<(t4.length:Int))then
   if inb t8 t4 then
    if inb t8 t6 then
     if((gd t4 t8 []).length:Int) !=((gd t6 t8 []).length:Int)then
      some (.inr false)
     else
      (BV Aa ((t3.1,(t3.2.1,t3.2.2)),t4,t5,t6,t8,0)).bind λs5=>
       match s5 with
       | .inl s6=>
        Cg n ((s6.1.1,(s6.1.2.1,s6.1.2.2)),s6.2.1,s6.2.2.1,s6.2.2.2.1,w64 (s6.2.2.2.2+1))
       | .inr s7=>
        some (.inr s7)
    else none
   else none
  else
   some (.inl ((t3.1,(t3.2.1,t3.2.2)),t4,t5))
def BW:Nat->((Int×Int×(List ((List Int)×Int×(List (List Int)))))×(List (List (Int×Int)))×(List Int)×Bool×Bool×Bool×Bool×Int)->Option ((Int×Int×(List ((List Int)×Int×(List (List Int)))))×(List (List (Int×Int)))×(List Int)×Bool×Bool×Bool×Bool)
 |0,_=>none
 |n+1,(t3,t4,t10,t11,t14,t15,t16,t17)=>
 if decide (t17<(t4.length:Int))then
 if t16 then
 BW n ((t3.1,(t3.2.1,t3.2.2)),t4,t10,t11,t14,t15,true,w64 (t17+1))
 else
 if inb t17 t4 then
 BW n ((t3.1,(t3.2.1,t3.2.2)),t4,t10,t11,t14,t15,((gd t4 t17 []).length:Int)==0,w64 (t17+1))
 else none
 else
 some ((t3.1,(t3.2.1,t3.2.2)),t4,t10,t11,t14,t15,t16)
def Cl:Nat->((Int×Int×(List ((List Int)×Int×(List (List Int)))))×(List (List (Int×Int)))×(List Int)×Bool×Bool×(List Int)×Int)->Option ((Int×Int×(List ((List Int)×Int×(List (List Int)))))×(List (List (Int×Int)))×(List Int)×Bool×Bool×(List Int))
 |0,_=>none
 |n+1,(t3,t4,t10,t11,t14,t18,t19)=>
 if decide (t19<t3.1)then
 if t18.length+ [(-1)].length<=lim then
 Cl n ((t3.1,(t3.2.1,t3.2.2)),t4,t10,t11,t14,t18++ [(-1)],w64 (t19+1))
 else none
 else
 some ((t3.1,(t3.2.1,t3.2.2)),t4,t10,t11,t14,t18)
def BY:Nat->((Int×Int×(List ((List Int)×Int×(List (List Int)))))×(List (List (Int×Int)))×(List Int)×Bool×Bool×(List Int)×Int×Int×Int×Bool×Int)->Option ((Int×Int×(List ((List Int)×Int×(List (List Int)))))×(List (List (Int×Int)))×(List Int)×Bool×Bool×(List Int)×Int×Int×Int×Bool)
 |0,_=>none
 |n+1,(t3,t4,t10,t11,t14,t20,t24,t25,t26,t27,t28)=>
 if inb t24 t4 then
 if decide (t28<((gd t4 t24 []).length:Int))then
 if t27 then
 BY n ((t3.1,(t3.2.1,t3.2.2)),t4,t10,t11,t14,t20,t24,t25,t26,true,w64 (t28+1))
 else
 if inb t24 t4 then
 if inb t28 (gd t4 t24 [])then
 if inb t25 t20 then
 if inb t26 t20 then
 BY n ((t3.1,(t3.2.1,t3.2.2)),t4,t10,t11,t14,t20,t24,t25,t26,(((gd (gd t4 t24 []) t28 (0,0)).1)==(gd t20 t25 0)&&(((gd (gd t4 t24 []) t28 (0,0)).2)==(gd t20 t26 0)&&true)),w64 (t28+1))
 else none
 else none
 else none
 else none
 else
 some ((t3.1,(t3.2.1,t3.2.2)),t4,t10,t11,t14,t20,t24,t25,t26,t27)
 else none
def CZ:Nat->((Int×Int×(List ((List Int)×Int×(List (List Int)))))×(List (List (Int×Int)))×(List Int)×Bool×Bool×(List Int)×Int×Int×Int)->Option (((Int×Int×(List ((List Int)×Int×(List (List Int)))))×(List (List (Int×Int)))×(List Int)×Bool×Bool×(List Int)×Int×Int)⊕(Bool))
 |0,_=>none
 |n+1,(t3,t4,t10,t11,t14,t20,t24,t25,t26)=>
 if decide (t26<t3.1)then
 (BY Aa ((t3.1,(t3.2.1,t3.2.2)),t4,t10,t11,t14,t20,t24,t25,t26,false,0)).bind λs20=>
 if !s20.2.2.2.2.2.2.2.2.2 then
 some (.inr false)
 else
 CZ n ((s20.1.1,(s20.1.2.1,s20.1.2.2)),s20.2.1,s20.2.2.1,s20.2.2.2.1,s20.2.2.2.2.1,s20.2.2.2.2.2.1,w64 (s20.2.2.2.2.2.2.1+1),s20.2.2.2.2.2.2.2.1,w64 (s20.2.2.2.2.2.2.2.2.1+1))
 else
 some (.inl ((t3.1,(t3.2.1,t3.2.2)),t4,t10,t11,t14,t20,t24,t25))
def BX:Nat->((Int×Int×(List ((List Int)×Int×(List (List Int)))))×(List (List (Int×Int)))×(List Int)×Bool×Bool×(List Int)×Int×Int)->Option (((Int×Int×(List ((List Int)×Int×(List (List Int)))))×(List Int)×Bool×Bool)⊕(Bool))
 |0,_=>none
 |n+1,(t3,t4,t10,t11,t14,t20,t24,t25)=>
  if decide (t25<t3.1)then
   (CZ Aa ((t3.1,(t3.2.1,t3.2.2)),t4,t10,t11,t14,t20,t24,t25,w64 (t25+1))).bind λs20=>
    match s20 with
    | .inl s21=>
     BX n ((s21.1.1,(s21.1.2.1,s21.1.2.2)),s21.2.1,s21.2.2.1,s21.2.2.2.1,s21.2.2.2.2.1,s21.2.2.2.2.2.1,s21.2.2.2.2.2.2.1,w64 (s21.2.2.2.2.2.2.2+1))
    | .inr s22=>
     some (.inr s22)
  else
   some (.inl ((t3.1,(t3.2.1,t3.2.2)),t10,t11,t14))
def Bh:Nat->((Int×Int×(List ((List Int)×Int×(List (List Int)))))×(List Int)×Bool×Bool×(List (Int×(List (List Int))))×Int×Bool×Int)->Option ((Int×Int×(List ((List Int)×Int×(List (List Int)))))×(List Int)×Bool×Bool×(List (Int×(List (List Int))))×Int×Bool)
 |0,_=>none
 |n+1,(t3,t10,t11,t14,t29,t30,t31,t32)=>
 if decide (t32<(t29.length:Int))then
 if t31 then
 Bh n ((t3.1,(t3.2.1,t3.2.2)),t10,t11,t14,t29,t30,true,w64 (t32+1))
 else
 if inb t32 t29 then
 if inb t30 t3.2.2 then
 if((gd t29 t32 (0,[])).1)==(((gd t3.2.2 t30 ([],(0,[]))).2).1)then
 if inb t32 t29 then
 if inb t30 t3.2.2 then
 (FO ((gd t29 t32 (0,[])).2) (((gd t3.2.2 t30 ([],(0,[]))).2).2)).bind λr26=>
 Bh n ((t3.1,(t3.2.1,t3.2.2)),t10,t11,t14,t29,t30,r26,w64 (t32+1))
 else none
 else none
 else
 Bh n ((t3.1,(t3.2.1,t3.2.2)),t10,t11,t14,t29,t30,false,w64 (t32+1))
 else none
 else none
 else
 some ((t3.1,(t3.2.1,t3.2.2)),t10,t11,t14,t29,t30,t31)
def A7:Nat->((Int×Int×(List ((List Int)×Int×(List (List Int)))))×(List Int)×Bool×Bool×(List (Int×(List (List Int))))×Int)->Option ((Int×Int×(List ((List Int)×Int×(List (List Int)))))×(List Int)×Bool×Bool×(List (Int×(List (List Int)))))
 |0,_=>none
 |n+1,(t3,t10,t11,t14,t29,t30)=>
 if decide (t30<(t3.2.2.length:Int))then
 (Bh Aa ((t3.1,(t3.2.1,t3.2.2)),t10,t11,t14,t29,t30,false,0)).bind λs26=>
 if !s26.2.2.2.2.2.2 then
 if inb s26.2.2.2.2.2.1 s26.1.2.2 then
 if s26.2.2.2.2.1.length+ [(gd s26.1.2.2 s26.2.2.2.2.2.1 ([],(0,[]))).2].length<=lim then
 A7 n ((s26.1.1,(s26.1.2.1,s26.1.2.2)),s26.2.1,s26.2.2.1,s26.2.2.2.1,s26.2.2.2.2.1++ [(gd s26.1.2.2 s26.2.2.2.2.2.1 ([],(0,[]))).2],w64 (s26.2.2.2.2.2.1+1))
 else none
 else none
 else
 A7 n ((s26.1.1,(s26.1.2.1,s26.1.2.2)),s26.2.1,s26.2.2.1,s26.2.2.2.1,s26.2.2.2.2.1,w64 (s26.2.2.2.2.2.1+1))
 else
 some ((t3.1,(t3.2.1,t3.2.2)),t10,t11,t14,t29)
def Gw (t0:List Int):Option (Bool):=
 (HW t0).bind λr1=>
  if r1 then
   some true
  else
   (Dh t0).bind λr2=>
    (Bn (r2.1,(r2.2.1,r2.2.2))).bind λr3=>
     (Dj (r2.1,(r2.2.1,r2.2.2))).bind λr4=>
      if r3.2 !=r4.2 then
       some false
      else
       if(r3.1.length:Int) !=(r4.1.length:Int)then
        some false
       else
        (Cg Aa ((r2.1,(r2.2.1,r2.2.2)),r3.1,r3.2,r4.1,0)).bind λs5=>
         match s5 with
         | .inl s6=>
          (BQ (s6.1.1,(s6.1.2.1,s6.1.2.2))).bind λr8=>
           (C5 (s6.1.1,(s6.1.2.1,s6.1.2.2))).bind λr9=>
            if r8.2 !=r9.2 then
             some false
            else
             (Ef r8.1 r9.1).bind λr10=>
              if !r10 then
               some false
              else
               if !s6.2.2 then
                some true
               else
                (Ee (s6.1.1,(s6.1.2.1,s6.1.2.2))).bind λr11=>
                 (BW Aa ((s6.1.1,(s6.1.2.1,s6.1.2.2)),s6.2.1,r8.1,r8.2,r11.1,r11.2,false,0)).bind λs12=>
                  if !s12.2.2.2.2.2.1 then
                   some false
                  else
                   if s12.2.2.2.2.1 !=s12.2.2.2.2.2.2 then
                    some false
                   else
                    (Cl Aa ((s12.1.1,(s12.1.2.1,s12.1.2.2)),s12.2.1,s12.2.2.1,s12.2.2.2.1,s12.2.2.2.2.1,[],0)).bind λs13=>
                     (DM (s13.1.1,(s13.1.2.1,s13.1.2.2)) s13.2.2.2.2.2).bind λr14=>
                      (DP (s13.1.1,(s13.1.2.1,s13.1.2.2)) s13.2.2.2.2.2).bind λr15=>
                       if r14.2 !=r15.2 then
                        some false
                       else
                        (Ef r14.1 r15.1).bind λr16=>
                         if !r16 then
                          some false
                         else
                          if r14.2 then
                           if s13.2.2.2.2.1 then
                            some false
                           else
                            if r14.2 then
                             (BX Aa ((s13.1.1,(s13.1.2.1,s13.1.2.2)),s13.2.1,s13.2.2.1,s13.2.2.2.1,s13.2.2.2.2.1,r14.1,0,0)).bind λs17=>
                              match s17 with
                              | .inl s18=>
                               (A7 Aa ((s18.1.1,(s18.1.2.1,s18.1.2.2)),s18.2.1,s18.2.2.1,s18.2.2.2,[],0)).bind λs20=>
                                if decide ((s20.2.2.2.2.length:Int)<=4)then
                                 if !s20.2.2.2.1 then
                                  (AC s20.1.2.1 s20.2.2.2.2).bind λr21=>
                                   (AE s20.1.2.1 s20.2.2.2.2).bind λr22=>
                                    if r21.2 !=r22.2 then
                                     some false
                                    else
                                     (Ep (r21.1.1,r21.1.2) (r22.1.1,r22.1.2)).bind λr23=>
                                      if !r23 then
                                       some false
                                      else
                                       if r21.2 then
                                        (Cf (s20.1.1,(s20.1.2.1,s20.1.2.2)) s20.2.1).bind λr24=>
                                         if !s20.2.2.1 then
                                          some false
                                         else
                                          if !r24.2 then
                                           some false
                                          else
                                           if !r24.1 then
                                            some false
                                           else
                                            some true
                                       else
                                        some true
                                 else
                                  some true
                                else
                                 some true
                              | .inr s19=>
                               some s19
                            else
                             (A7 Aa ((s13.1.1,(s13.1.2.1,s13.1.2.2)),s13.2.2.1,s13.2.2.2.1,s13.2.2.2.2.1,[],0)).bind λs25=>
                              if decide ((s25.2.2.2.2.length:Int)<=4)then
                               if !s25.2.2.2.1 then
                                (AC s25.1.2.1 s25.2.2.2.2).bind λr26=>
                                 (AE s25.1.2.1 s25.2.2.2.2).bind λr27=>
                                  if r26.2 !=r27.2 then
                                   some false
                                  else
                                   (Ep (r26.1.1,r26.1.2) (r27.1.1,r27.1.2)).bind λr28=>
                                    if !r28 then
                                     some false
                                    else
                                     if r26.2 then
                                      (Cf (s25.1.1,(s25.1.2.1,s25.1.2.2)) s25.2.1).bind λr29=>
                                       if !s25.2.2.1 then
                                        some false
                                       else
                                        if !r29.2 then
                                         some false
                                        else
                                         if !r29.1 then
                                          some false
                                         else
                                          some true
                                     else
                                      some true
                               else
                                some true
                              else
                               some true
                          else
                           if r14.2 then
                            (BX Aa ((s13.1.1,(s13.1.2.1,s13.1.2.2)),s13.2.1,s13.2.2.1,s13.2.2.2.1,s13.2.2.2.2.1,r14.1,0,0)).bind λs30=>
                             match s30 with
                             | .inl s31=>
                              (A7 Aa ((s31.1.1,(s31.1.2.1,s31.1.2.2)),s31.2.1,s31.2.2.1,s31.2.2.2,[],0)).bind λs33=>
                               if decide ((s33.2.2.2.2.length:Int)<=4)then
                                if !s33.2.2.2.1 then
                                 (AC s33.1.2.1 s33.2.2.2.2).bind λr34=>
                                  (AE s33.1.2.1 s33.2.2.2.2).bind λr35=>
                                   if r34.2 !=r35.2 then
                                    some false
                                   else
                                    (Ep (r34.1.1,r34.1.2) (r35.1.1,r35.1.2)).bind λr36=>
                                     if !r36 then
                                      some false
                                     else
                                      if r34.2 then
                                       (Cf (s33.1.1,(s33.1.2.1,s33.1.2.2)) s33.2.1).bind λr37=>
                                        if !s33.2.2.1 then
                                         some false
                                        else
                                         if !r37.2 then
                                          some false
                                         else
                                          if !r37.1 then
                                           some false
                                          else
                                           some true
                                      else
                                       some true
                                else
                                 some true
                               else
                                some true
                             | .inr s32=>
                              some s32
                           else
                            (A7 Aa ((s13.1.1,(s13.1.2.1,s13.1.2.2)),s13.2.2.1,s13.2.2.2.1,s13.2.2.2.2.1,[],0)).bind λs38=>
                             if decide ((s38.2.2.2.2.length:Int)<=4)then
                              if !s38.2.2.2.1 then
                               (AC s38.1.2.1 s38.2.2.2.2).bind λr39=>
                                (AE s38.1.2.1 s38.2.2.2.2).bind λr40=>
                                 if r39.2 !=r40.2 then
                                  some false
                                 else
                                  (Ep (r39.1.1,r39.1.2) (r40.1.1,r40.1.2)).bind λr41=>
                                   if !r41 then
                                    some false
                                   else
                                    if r39.2 then
                                     (Cf (s38.1.1,(s38.1.2.1,s38.1.2.2)) s38.2.1).bind λr42=>
                                      if !s38.2.2.1 then
                                       some false
                                      else
                                       if !r42.2 then
                                        some false
                                       else
                                        if !r42.1 then
                                         some false
                                        else
                                         some true
                                    else
                                     some true
                              else
                               some true
                             else
                              some true
         | .inr s7=>
          some s7
end T
open Go Go.Va
namespace T
section
variable {a:Net} {n s:Nat} {t:T4} {u:T3}
def TriP (a:Net) (i j k x y z:Nat):Prop:= ∀c∈a.2.2,(∀v∈c.1,v=(i:Int)∨v=(j:Int)∨v=(k:Int))-> ∀vs:List Int,Aq vs (i:Int)=(x:Int)->Aq vs (j:Int)=(y:Int)->Aq vs (k:Int)=(z:Int)->Ck vs c=true
theorem TriP.swap {i j k x y z:Nat} (h:TriP a i j k x y z):TriP a j i k y x z:=λc hc hv vs h1 h2 h3=>h c hc (λv hvc=>by rcases hv v hvc with e|e|e<;>simp[e]) vs h2 h1 h3
theorem Fb {c:Con} {vs ws:List Int} (h: ∀v∈c.1,Aq vs v=Aq ws v):Ck vs c=Ck ws c:=by
 unfold Ck
 rw[List.map_congr_left h]
theorem G3 {i j k x y z:Nat} (hi:i<n) (hj:j<n) (hk:k<n) (hij:i≠j) (hik:i≠k) (hjk:j≠k):
  Aq (V3 n i j k x y z) (i:Int)=(x:Int)/\Aq (V3 n i j k x y z) (j:Int)=(y:Int)/\Aq (V3 n i j k x y z) (k:Int)=(z:Int):=by
 unfold V3
 have l1:((List.replicate n (0:Int)).set i (x:Int)).length=n:=by simp
 have l2:(((List.replicate n (0:Int)).set i (x:Int)).set j (y:Int)).length=n:=by simp
 refine⟨?_,?_,?_⟩
 ·rw[Aw (by rw[l2];exact hk),if_neg (by omega),Aw (by rw[l1];exact hj),if_neg (by omega),Aw (by simpa using hi),if_pos rfl]
 ·rw[Aw (by rw[l2];exact hk),if_neg (by omega),Aw (by rw[l1];exact hj),if_pos rfl]
 ·rw[Aw (by rw[l2];exact hk),if_pos rfl]
theorem G2 {i j x y:Nat} (hi:i<n) (hj:j<n) (hij:i≠j):Aq (V2 n i j x y) (i:Int)=(x:Int)/\Aq (V2 n i j x y) (j:Int)=(y:Int):=by
 unfold V2
 have l1:((List.replicate n (0:Int)).set i (x:Int)).length=n:=by simp
 refine⟨?_,?_⟩
 ·rw[Aw (by rw[l1];exact hj),if_neg (by omega),Aw (by simpa using hi),if_pos rfl]
 ·rw[Aw (by rw[l1];exact hj),if_pos rfl]
theorem K6 {i j k x y z:Nat} (hi:i<n) (hj:j<n) (hk:k<n) (hij:i≠j) (hik:i≠k) (hjk:j≠k):E8 (Cv a [(i:Int),(j:Int),(k:Int)]) (V3 n i j k x y z)=true↔TriP a i j k x y z:=by
 obtain⟨e1,e2,e3⟩:=G3 (x:=x) (y:=y) (z:=z) hi hj hk hij hik hjk
 unfold E8 Cv
 rw[List.all_eq_true]
 constructor
 ·intro h c hc hv vs h1 h2 h3
  rw[←h c (List.mem_filter.2 ⟨hc,by unfold Fy;rw[List.all_eq_true];intro v hvc;simpa using hv v hvc⟩)]
  refine Fb λv hvc=>?_
  rcases hv v hvc with rfl|rfl|rfl
  ·rw[h1,e1]
  ·rw[h2,e2]
  ·rw[h3,e3]
 ·intro h c hc
  obtain⟨hc,hv⟩:=List.mem_filter.1 hc
  unfold Fy at hv
  rw[List.all_eq_true]at hv
  exact h c hc (λv hvc=>by simpa using hv v hvc) _ e1 e2 e3
theorem GD {i j x y:Nat} (hi:i<n) (hj:j<n) (hij:i≠j):fB a n i j x y=true↔ ∀c∈a.2.2,(∀v∈c.1,v=(i:Int)∨v=(j:Int))-> ∀vs:List Int,Aq vs (i:Int)=(x:Int)->Aq vs (j:Int)=(y:Int)->Ck vs c=true:=by
 obtain⟨e1,e2⟩:=G2 (x:=x) (y:=y) hi hj hij
 unfold fB E8 Cv
 rw[List.all_eq_true]
 constructor
 ·intro h c hc hv vs h1 h2
  rw[←h c (List.mem_filter.2 ⟨hc,by unfold Fy;rw[List.all_eq_true];intro v hvc;simpa using hv v hvc⟩)]
  refine Fb λv hvc=>?_
  rcases hv v hvc with rfl|rfl
  ·rw[h1,e1]
  ·rw[h2,e2]
 ·intro h c hc
  obtain⟨hc,hv⟩:=List.mem_filter.1 hc
  unfold Fy at hv
  rw[List.all_eq_true]at hv
  exact h c hc (λv hvc=>by simpa using hv v hvc) _ e1 e2
theorem E3 {α β:Type} {f:α->β->α} {P:α->Prop}: ∀(l:List β) (q:α),(∀q x,x∈l->P q->P (f q x))->P q->P (l.foldl f q)
 | [],_,_,h=>h
 |x::l,q,hf,h=>E3 l (f q x) (λq y hy=>hf q y (List.mem_cons_of_mem _ hy)) (hf q x (List.mem_cons_self ..) h)
theorem II {P:T4->Prop} (h: ∀i j k p,i<j->j<n->k<n->k≠i->k≠j->p<s*s-> ∀q:T4×Bool,P q.1->P (El a n s i j k q p).1) (q:T4×Bool) (hq:P q.1):P (Gb a n s q).1:=by
 unfold Gb
 refine E3 (P:=λq:T4×Bool=>P q.1) _ q (λq i hi hq=>?_) hq
 have hi:=List.mem_range.1 hi
 unfold iS
 refine E3 (P:=λq:T4×Bool=>P q.1) _ q (λq j hj hq=>?_) hq
 rw[List.mem_range'_1]at hj
 unfold jS
 refine E3 (P:=λq:T4×Bool=>P q.1) _ q (λq k hk hq=>?_) hq
 have hk:=List.mem_range.1 hk
 unfold kS
 split
 ·exact hq
 ·rename_i hne
  exact E3 (P:=λq:T4×Bool=>P q.1) _ q (λq p hp hq=>h i j k p (by omega) (by omega) hk (by omega) (by omega) (List.mem_range.1 hp) q hq) hq
structure Fam (a:Net) (n s:Nat) (S:Nat->Nat->Nat->Nat->Prop):Prop where
 sym: ∀i j x y,S i j x y->S j i y x
 first: ∀i j x y,i<j->j<n->x<s->y<s->S i j x y->fB a n i j x y=true
 path: ∀i j k x y,i<n->j<n->k<n->i≠j->k≠i->k≠j->x<s->y<s->S i j x y-> ∃z,z<s/\S i k x z/\S j k y z/\TriP a i j k x y z
def Ji (n s:Nat) (S:Nat->Nat->Nat->Nat->Prop) (q:T4):Prop:=Ok4 n s q/\ ∀i j x y,i<n->j<n->i≠j->x<s->y<s->S i j x y->r4 q i j x y=true
theorem Ic {p:Nat} (hp:p<s*s):p/s<s/\p%s<s:=by
 obtain⟨x,y,rfl,hx,hy⟩:=Ib hp
 obtain⟨e1,e2⟩:=F4 (x:=x) hy
 rw[e1,e2];exact⟨hx,hy⟩
theorem Kr {S:Nat->Nat->Nat->Nat->Prop} (hS:Fam a n s S) (i j k p:Nat) (hij:i<j) (hj:j<n) (hk:k<n) (hki:k≠i) (hkj:k≠j) (hp:p<s*s) (q:T4×Bool) (h:Ji n s S q.1):Ji n s S (El a n s i j k q p).1:=by
 obtain⟨hx,hy⟩:=Ic hp
 unfold El
 split
 rotate_left
 ·exact h
 rename_i hc
 simp only[Bool.and_eq_true,Bool.not_eq_true',List.any_eq_false]at hc
 obtain⟨hc1,hc2⟩:=hc
 have hno: ¬S i j (p/s) (p%s):=λhs=>by
  obtain⟨z,hz,s1,s2,s3⟩:=hS.path i j k _ _ (by omega) hj hk (by omega) hki hkj hx hy hs
  refine hc2 z (by rw[List.mem_range'_1];omega) ?_
  unfold hP
  rw[h.2 i k _ _ (by omega) hk (Ne.symm hki) hx hz s1,h.2 j k _ _ hj hk (Ne.symm hkj) hy hz s2,(K6 (by omega) hj hk (by omega) (by omega) (by omega)).2 s3]
  rfl
 refine⟨E7 (E7 h.1),λi' j' x' y' h1 h2 h3 h4 h5 hs=>?_⟩
 rw[Fq (E7 h.1) hj (by omega) hy hx,Fq h.1 (by omega) hj hx hy]
 by_cases e1:j=i'/\i=j'/\p%s=x'/\p/s=y'
 ·obtain⟨rfl,rfl,rfl,rfl⟩:=e1
  exact absurd (hS.sym _ _ _ _ hs) hno
 ·rw[if_neg e1]
  by_cases e2:i=i'/\j=j'/\p/s=x'/\p%s=y'
  ·obtain⟨rfl,rfl,rfl,rfl⟩:=e2
   exact absurd hs hno
  ·rw[if_neg e2];exact h.2 i' j' x' y' h1 h2 h3 h4 h5 hs
structure MinP (a:Net) (n s:Nat) (t:T4) (u:T3):Prop where
 rel:Rel34 n s t u
 sym: ∀i j x y,i<n->j<n->i≠j->x<s->y<s->r4 t i j x y=r4 t j i y x
 first: ∀i j x y,i<n->j<n->i≠j->x<s->y<s->r4 t i j x y=true->fB a n i j x y=true
 path: ∀i j k x y,i<n->j<n->k<n->i≠j->k≠i->k≠j->x<s->y<s->r4 t i j x y=true-> ∃z,z<s/\r4 t i k x z=true/\r4 t j k y z=true/\TriP a i j k x y z
 all: ∀S,Fam a n s S-> ∀i j x y,i<n->j<n->i≠j->x<s->y<s->S i j x y->r4 t i j x y=true
theorem Lf {i j x y:Nat} (hi:i<n) (hj:j<n) (hij:i≠j) (h:fB a n i j x y=true):fB a n j i y x=true:=by
 rw[GD hj hi (Ne.symm hij)]
 rw[GD hi hj hij]at h
 exact λc hc hv vs h1 h2=>h c hc (λv hvc=>(hv v hvc).symm) vs h2 h1
theorem Lq (hN:NetOk a) (ha:a.1=(n:Int)) (hb:a.2.1=(s:Int)): ∃t u,MinP a n s t u/\BF (a.1,(a.2.1,a.2.2))=some t/\Df (a.1,(a.2.1,a.2.2))=some u:=by
 obtain⟨t,u,⟨hR,hfl,hinv⟩,e1,e2⟩:=HY hN ha hb
 refine⟨t,u,?_,e1,e2⟩
 have hsym: ∀i j x y,i<n->j<n->i≠j->x<s->y<s->r4 t i j x y=r4 t j i y x:=λi j x y hi hj hij hx hy=>by
  rcases Nat.lt_or_ge i j with h|h
  ·obtain⟨q1,q2⟩:=hR.eq i j x y h hj hx hy
   rw[q1,q2]
  ·obtain⟨q1,q2⟩:=hR.eq j i y x (by omega) hi hy hx
   rw[q1,q2]
 have hcell:=(Hs (a:=a) (n:=n) (s:=s) (t,false) hfl).2
 have hpath1: ∀i j k x y,i<j->j<n->k<n->k≠i->k≠j->x<s->y<s->r4 t i j x y=true-> ∃z,z<s/\r4 t i k x z=true/\r4 t j k y z=true/\TriP a i j k x y z:=λi j k x y hij hj hk hki hkj hx hy hr=>by
  have:=hcell i (by omega) j hij hj k hk hki hkj (x*s+y) (Eh hx hy)
  obtain⟨d1,d2⟩:=F4 (x:=x) hy
  unfold El at this
  rw[d1,d2]at this
  split at this
  ·have:=congrArg (·.2) this;cases this
  ·rename_i hc
   rw[hr,Bool.true_and,Bool.not_eq_true',Bool.not_eq_false,List.any_eq_true]at hc
   obtain⟨z,hz,hp⟩:=hc
   rw[List.mem_range'_1]at hz
   unfold hP at hp
   rw[Bool.and_eq_true,Bool.and_eq_true,K6 (by omega) hj hk (by omega) (by omega) (by omega)]at hp
   exact⟨z,by omega,hp.1.1,hp.1.2,hp.2⟩
 have hfirst1: ∀i j x y,i<j->j<n->x<s->y<s->r4 t i j x y=true->fB a n i j x y=true:=by
  have:=hinv (λq=>Ok4 n s q/\ ∀i j x y,i<j->j<n->x<s->y<s->r4 q i j x y=true->fB a n i j x y=true) (λq hq=>II (P:=λq=>Ok4 n s q/\ ∀i j x y,i<j->j<n->x<s->y<s->r4 q i j x y=true->fB a n i j x y=true) (λi j k p hij hj hk _ _ hp q hq=>?_) q hq) (λt1 ht1=>⟨ht1.o4,λi j x y hij hj hx hy hr=>by
   rw[(ht1.eq i j x y hij hj hx hy).1,F5 hij hj hx hy]at hr;exact hr⟩)
  ·exact this.2
  ·obtain⟨hx,hy⟩:=Ic hp
   unfold El
   split
   rotate_left
   ·exact hq
   refine⟨E7 (E7 hq.1),λi' j' x' y' h1 h2 h3 h4 hr=>?_⟩
   rw[Fq (E7 hq.1) hj (by omega) hy hx,Fq hq.1 (by omega) hj hx hy]at hr
   split at hr
   ·cases hr
   ·split at hr
    ·cases hr
    ·exact hq.2 i' j' x' y' h1 h2 h3 h4 hr
 refine⟨hR,hsym,λi j x y hi hj hij hx hy hr=>?_,λi j k x y hi hj hk hij hki hkj hx hy hr=>?_,λS hS=>?_⟩
 ·rcases Nat.lt_or_ge i j with h|h
  ·exact hfirst1 i j x y h hj hx hy hr
  ·exact Lf hj hi (by omega) (hfirst1 j i y x (by omega) hi hy hx (by rw[←hsym i j x y hi hj hij hx hy];exact hr))
 ·rcases Nat.lt_or_ge i j with h|h
  ·exact hpath1 i j k x y h hj hk hki hkj hx hy hr
  ·obtain⟨z,h1,h2,h3,h4⟩:=hpath1 j i k y x (by omega) hi hk hkj hki hy hx (by rw[←hsym i j x y hi hj hij hx hy];exact hr)
   exact⟨z,h1,h3,h2,h4.swap⟩
 ·have:=hinv (Ji n s S) (λq hq=>II (P:=Ji n s S) (λi j k p hij hj hk hki hkj hp q hq=>Kr hS i j k p hij hj hk hki hkj hp q hq) q hq) (λt1 ht1=>⟨ht1.o4,λi j x y hi hj hij hx hy hs=>by
   rcases Nat.lt_or_ge i j with h|h
   ·rw[(ht1.eq i j x y h hj hx hy).1,F5 h hj hx hy]
    exact hS.first i j x y h hj hx hy hs
   ·rw[(ht1.eq j i y x (by omega) hi hy hx).2,F5 (by omega) hi hy hx]
    exact hS.first j i y x (by omega) hi hy hx (hS.sym _ _ _ _ hs)⟩)
  exact this.2
end
end T
open Go Go.Va
namespace T
structure MajO (a:Net) (s:Nat) (F:Nat->Nat->Nat->Nat):Prop where
 lt: ∀x y z,x<s->y<s->z<s->F x y z<s
 m1: ∀x y,x<s->y<s->F x x y=x
 m2: ∀x y,x<s->y<s->F x y x=x
 m3: ∀x y,x<s->y<s->F y x x=x
 con: ∀c∈a.2.2,∀v1 v2 v3 vs:List Int,Ck v1 c=true->Ck v2 c=true->Ck v3 c=true->
  (∀v∈c.1,∃x y z:Nat,x<s/\y<s/\z<s/\Aq v1 v=(x:Int)/\Aq v2 v=(y:Int)/\Aq v3 v=(z:Int)/\Aq vs v=((F x y z:Nat):Int))->Ck vs c=true
section
variable {a:Net} {n s:Nat} {t:T4} {u:T3} {F:Nat->Nat->Nat->Nat}
theorem LP (hF:MajO a s F) {i j k x1 y1 z1 x2 y2 z2 x3 y3 z3:Nat} (hi:i<n) (hj:j<n) (hk:k<n) (hij:i≠j) (hik:i≠k) (hjk:j≠k)
  (hx1:x1<s) (hx2:x2<s) (hx3:x3<s) (hy1:y1<s) (hy2:y2<s) (hy3:y3<s) (hz1:z1<s) (hz2:z2<s) (hz3:z3<s)
  (h1:TriP a i j k x1 y1 z1) (h2:TriP a i j k x2 y2 z2) (h3:TriP a i j k x3 y3 z3):TriP a i j k (F x1 x2 x3) (F y1 y2 y3) (F z1 z2 z3):=by
 intro c hc hv vs e1 e2 e3
 obtain⟨p1,p2,p3⟩:=G3 (x:=x1) (y:=y1) (z:=z1) hi hj hk hij hik hjk
 obtain⟨q1,q2,q3⟩:=G3 (x:=x2) (y:=y2) (z:=z2) hi hj hk hij hik hjk
 obtain⟨r1,r2,r3⟩:=G3 (x:=x3) (y:=y3) (z:=z3) hi hj hk hij hik hjk
 refine hF.con c hc _ _ _ vs (h1 c hc hv _ p1 p2 p3) (h2 c hc hv _ q1 q2 q3) (h3 c hc hv _ r1 r2 r3) λv hvc=>?_
 rcases hv v hvc with rfl|rfl|rfl
 ·exact⟨x1,x2,x3,hx1,hx2,hx3,p1,q1,r1,e1⟩
 ·exact⟨y1,y2,y3,hy1,hy2,hy3,p2,q2,r2,e2⟩
 ·exact⟨z1,z2,z3,hz1,hz2,hz3,p3,q3,r3,e3⟩
theorem MS (hF:MajO a s F) {i j x1 y1 x2 y2 x3 y3:Nat} (hi:i<n) (hj:j<n) (hij:i≠j)
  (hx1:x1<s) (hx2:x2<s) (hx3:x3<s) (hy1:y1<s) (hy2:y2<s) (hy3:y3<s)
  (h1:fB a n i j x1 y1=true) (h2:fB a n i j x2 y2=true) (h3:fB a n i j x3 y3=true):fB a n i j (F x1 x2 x3) (F y1 y2 y3)=true:=by
 rw[GD hi hj hij]at h1 h2 h3⊢
 intro c hc hv vs e1 e2
 obtain⟨p1,p2⟩:=G2 (x:=x1) (y:=y1) hi hj hij
 obtain⟨q1,q2⟩:=G2 (x:=x2) (y:=y2) hi hj hij
 obtain⟨r1,r2⟩:=G2 (x:=x3) (y:=y3) hi hj hij
 refine hF.con c hc _ _ _ vs (h1 c hc hv _ p1 p2) (h2 c hc hv _ q1 q2) (h3 c hc hv _ r1 r2) λv hvc=>?_
 rcases hv v hvc with rfl|rfl
 ·exact⟨x1,x2,x3,hx1,hx2,hx3,p1,q1,r1,e1⟩
 ·exact⟨y1,y2,y3,hy1,hy2,hy3,p2,q2,r2,e2⟩
def clS (n s:Nat) (t:T4) (F:Nat->Nat->Nat->Nat) (i j x y:Nat):Prop:=i<n/\j<n/\i≠j/\ ∃x1 y1 x2 y2 x3 y3,x1<s/\y1<s/\x2<s/\y2<s/\x3<s/\y3<s/\r4 t i j x1 y1=true/\r4 t i j x2 y2=true/\r4 t i j x3 y3=true/\x=F x1 x2 x3/\y=F y1 y2 y3
theorem La (hM:MinP a n s t u) (hF:MajO a s F):Fam a n s (clS n s t F):=by
 refine⟨?_,?_,?_⟩
 ·rintro i j x y ⟨hi,hj,hij,x1,y1,x2,y2,x3,y3,a1,b1,a2,b2,a3,b3,h1,h2,h3,rfl,rfl⟩
  exact⟨hj,hi,Ne.symm hij,y1,x1,y2,x2,y3,x3,b1,a1,b2,a2,b3,a3,by rw[←hM.sym _ _ _ _ hi hj hij a1 b1];exact h1,by rw[←hM.sym _ _ _ _ hi hj hij a2 b2];exact h2,by rw[←hM.sym _ _ _ _ hi hj hij a3 b3];exact h3,rfl,rfl⟩
 ·rintro i j x y _ _ _ _ ⟨hi,hj,hij,x1,y1,x2,y2,x3,y3,a1,b1,a2,b2,a3,b3,h1,h2,h3,rfl,rfl⟩
  exact MS hF hi hj hij a1 a2 a3 b1 b2 b3 (hM.first _ _ _ _ hi hj hij a1 b1 h1) (hM.first _ _ _ _ hi hj hij a2 b2 h2) (hM.first _ _ _ _ hi hj hij a3 b3 h3)
 ·rintro i j k x y _ _ hk _ hki hkj _ _ ⟨hi,hj,hij,x1,y1,x2,y2,x3,y3,a1,b1,a2,b2,a3,b3,h1,h2,h3,rfl,rfl⟩
  obtain⟨z1,c1,p1,q1,r1⟩:=hM.path i j k _ _ hi hj hk hij hki hkj a1 b1 h1
  obtain⟨z2,c2,p2,q2,r2⟩:=hM.path i j k _ _ hi hj hk hij hki hkj a2 b2 h2
  obtain⟨z3,c3,p3,q3,r3⟩:=hM.path i j k _ _ hi hj hk hij hki hkj a3 b3 h3
  exact⟨F z1 z2 z3,hF.lt _ _ _ c1 c2 c3,⟨hi,hk,Ne.symm hki,x1,z1,x2,z2,x3,z3,a1,c1,a2,c2,a3,c3,p1,p2,p3,rfl,rfl⟩,
   ⟨hj,hk,Ne.symm hkj,y1,z1,y2,z2,y3,z3,b1,c1,b2,c2,b3,c3,q1,q2,q3,rfl,rfl⟩,LP hF hi hj hk hij (Ne.symm hki) (Ne.symm hkj) a1 a2 a3 b1 b2 b3 c1 c2 c3 r1 r2 r3⟩
theorem G6 (hM:MinP a n s t u) (hF:MajO a s F) {i j x1 y1 x2 y2 x3 y3:Nat} (hi:i<n) (hj:j<n) (hij:i≠j)
  (hx1:x1<s) (hx2:x2<s) (hx3:x3<s) (hy1:y1<s) (hy2:y2<s) (hy3:y3<s)
  (h1:r4 t i j x1 y1=true) (h2:r4 t i j x2 y2=true) (h3:r4 t i j x3 y3=true):r4 t i j (F x1 x2 x3) (F y1 y2 y3)=true:=
 hM.all _ (La hM hF) i j _ _ hi hj hij (hF.lt _ _ _ hx1 hx2 hx3) (hF.lt _ _ _ hy1 hy2 hy3) ⟨hi,hj,hij,x1,y1,x2,y2,x3,y3,hx1,hy1,hx2,hy2,hx3,hy3,h1,h2,h3,rfl,rfl⟩
theorem IG (hM:MinP a n s t u) {w w' v x y:Nat} (hw:w<n) (hw':w'<n) (hv:v<n) (h1:w≠w') (h2:w≠v) (h3:w'≠v) (hx:x<s) (hy:y<s) (h:r4 t w' v y x=true): ∃z,z<s/\r4 t w v z x=true:=by
 obtain⟨z,hz,_,q,_⟩:=hM.path w' v w y x hw' hv hw h3 h1 h2 hy hx h
 exact⟨z,hz,by rw[hM.sym w v z x hw hv h2 hz hx];exact q⟩
theorem MI (hM:MinP a n s t u) (hF:MajO a s F) {v:Nat} (hv:v<n) {o:Nat->Nat}: ∀(m:Nat) (W:List Nat),W.length=m+2->W.Nodup->(∀w∈W,w<n/\w≠v/\o w<s)->(∀w∈W,∀w'∈W,w≠w'->r4 t w w' (o w) (o w')=true)-> ∃x,x<s/\ ∀w∈W,r4 t w v (o w) x=true:=by
 intro m
 induction m with
 |zero=>
  intro W hl hd hw hp
  match W,hl with
  | [w1,w2],_=>
   simp only[List.nodup_cons,List.mem_singleton,List.mem_cons,forall_eq_or_imp,List.not_mem_nil,not_false_iff]at hd hw
   obtain⟨⟨a1,a2,a3⟩,⟨b1,b2,b3⟩,_⟩:=hw
   have hd1:w1≠w2:=λe=>hd.1 (.inl e)
   obtain⟨z,hz,p,q,_⟩:=hM.path w1 w2 v (o w1) (o w2) a1 b1 hv hd1 (Ne.symm a2) (Ne.symm b2) a3 b3 (hp w1 (by simp) w2 (by simp) hd1)
   exact⟨z,hz,λw hwm=>by
    rcases List.mem_cons.1 hwm with rfl|hwm
    ·exact p
    ·rw[List.mem_singleton.1 hwm];exact q⟩
 |succ m ih=>
  intro W hl hd hw hp
  match W,hl with
  |w1::w2::w3::W,hl=>
   have hl':W.length=m:=by simpa using hl
   have hd0:=hd
   rw[List.nodup_cons,List.nodup_cons,List.nodup_cons]at hd
   obtain⟨d1,d2,d3,d4⟩:=hd
   simp only[List.mem_cons,not_or]at d1 d2
   obtain⟨d12,d13,d1⟩:=d1
   obtain⟨d23,d2⟩:=d2
   obtain⟨x1,g1,k1⟩:=ih (w2::w3::W) (by simp[hl']) (List.nodup_cons.1 hd0).2 (λw h=>hw w (List.mem_cons_of_mem _ h)) (λw h w' h'=>hp w (List.mem_cons_of_mem _ h) w' (List.mem_cons_of_mem _ h'))
   have s2: ∀w,w∈w1::w3::W->w∈w1::w2::w3::W:=λw h=>by
    rcases List.mem_cons.1 h with rfl|h
    ·simp
    ·exact List.mem_cons_of_mem _ (List.mem_cons_of_mem _ h)
   have s3: ∀w,w∈w1::w2::W->w∈w1::w2::w3::W:=λw h=>by
    simp only[List.mem_cons]at h⊢
    rcases h with h|h|h<;>simp[h]
   obtain⟨x2,g2,k2⟩:=ih (w1::w3::W) (by simp[hl']) (by rw[List.nodup_cons,List.nodup_cons];simp only[List.mem_cons,not_or];exact⟨⟨d13,d1⟩,d3,d4⟩) (λw h=>hw w (s2 w h)) (λw h w' h'=>hp w (s2 w h) w' (s2 w' h'))
   obtain⟨x3,g3,k3⟩:=ih (w1::w2::W) (by simp[hl']) (by rw[List.nodup_cons,List.nodup_cons];simp only[List.mem_cons,not_or];exact⟨⟨d12,d1⟩,d2,d4⟩) (λw h=>hw w (s3 w h)) (λw h w' h'=>hp w (s3 w h) w' (s3 w' h'))
   have m1:w1∈w1::w2::w3::W:=by simp
   have m2:w2∈w1::w2::w3::W:=by simp
   have m3:w3∈w1::w2::w3::W:=by simp
   obtain⟨a1,a2,a3⟩:=hw w1 m1
   obtain⟨b1,b2,b3⟩:=hw w2 m2
   obtain⟨c1,c2,c3⟩:=hw w3 m3
   refine⟨F x1 x2 x3,hF.lt _ _ _ g1 g2 g3,λw hwm=>?_⟩
   rcases List.mem_cons.1 hwm with rfl|hwm
   ·obtain⟨z,hz,hzr⟩:=IG hM a1 b1 hv d12 a2 b2 g1 b3 (k1 w2 (by simp))
    have:=G6 hM hF a1 hv a2 hz a3 a3 g1 g2 g3 hzr (k2 w (by simp)) (k3 w (by simp))
    rwa [hF.m3 _ _ a3 hz]at this
   ·rcases List.mem_cons.1 hwm with rfl|hwm
    ·obtain⟨z,hz,hzr⟩:=IG hM b1 a1 hv (Ne.symm d12) b2 a2 g2 a3 (k2 w1 (by simp))
     have:=G6 hM hF b1 hv b2 b3 hz b3 g1 g2 g3 (k1 w (by simp)) hzr (k3 w (by simp))
     rwa [hF.m2 _ _ b3 hz]at this
    ·rcases List.mem_cons.1 hwm with rfl|hwm
     ·obtain⟨z,hz,hzr⟩:=IG hM c1 a1 hv (Ne.symm d13) c2 a2 g3 a3 (k3 w1 (by simp))
      have:=G6 hM hF c1 hv c2 c3 c3 hz g1 g2 g3 (k1 w (by simp)) (k2 w (by simp)) hzr
      rwa [hF.m1 _ _ c3 hz]at this
     ·obtain⟨e1,e2,e3⟩:=hw w (by simp[hwm])
      have:=G6 hM hF e1 hv e2 e3 e3 e3 g1 g2 g3 (k1 w (by simp[hwm])) (k2 w (by simp[hwm])) (k3 w (by simp[hwm]))
      rwa [hF.m1 _ _ e3 e3]at this
theorem JS (hM:MinP a n s t u) (hF:MajO a s F) (hn2:2<=n) (h01: ∃x y,x<s/\y<s/\r4 t 0 1 x y=true): ∀v,v<=n-> ∃o:List Nat,Bv t s v=some o/\o.length=v/\(∀w,w<v->o.getD w 0<s)/\
  (∀w w',w<v->w'<v->w≠w'->r4 t w w' (o.getD w 0) (o.getD w' 0)=true)/\(1<=v-> ∃y,y<s/\r4 t 0 1 (o.getD 0 0) y=true):=by
 intro v
 induction v with
 |zero=>exact λ_=>⟨[],rfl,rfl,by omega,by omega,by omega⟩
 |succ v ih=>
  intro hv
  obtain⟨o,e,hl,ho,hp,h0⟩:=ih (by omega)
  have hex: ∃x,x<s/\goB t s o v x=true:=by
   unfold goB
   by_cases hv0:v=0
   ·obtain⟨x,y,hx,hy,hr⟩:=h01
    refine⟨x,hx,?_⟩
    rw[if_pos hv0,List.any_eq_true]
    exact⟨y,List.mem_range.2 hy,hr⟩
   ·simp only[if_neg hv0,List.all_eq_true,List.mem_range]
    by_cases hv1:v=1
    ·subst hv1
     obtain⟨y,hy,hr⟩:=h0 (by omega)
     refine⟨y,hy,λw hw=>?_⟩
     rw[show w=0 by omega];exact hr
    ·obtain⟨x,hx,hr⟩:=MI hM hF (v:=v) (by omega) (o:=λw=>o.getD w 0) (v-2) (List.range v) (by simp;omega) List.nodup_range (λw hw=>by rw[List.mem_range]at hw;exact⟨by omega,by omega,ho w hw⟩) (λw hw w' hw' hne=>hp w w' (List.mem_range.1 hw) (List.mem_range.1 hw') hne)
     exact⟨x,hx,λw hw=>hr w (List.mem_range.2 hw)⟩
  obtain⟨x0,hx0,hg0⟩:=hex
  have hfind:((List.range s).find? (goB t s o v)).isSome=true:=by
   rw[List.find?_isSome];exact⟨x0,List.mem_range.2 hx0,hg0⟩
  obtain⟨x,hx⟩:=Option.isSome_iff_exists.1 hfind
  have hxs:x<s:=List.mem_range.1 (List.mem_of_find?_eq_some hx)
  have hxg:=List.find?_some hx
  have gl: ∀w,w<v->(o++ [x]).getD w 0=o.getD w 0:=λw hw=>by
   rw[List.getD_eq_getElem?_getD,List.getElem?_append_left (by omega),←List.getD_eq_getElem?_getD]
  have gr:(o++ [x]).getD v 0=x:=by
   rw[List.getD_eq_getElem?_getD,List.getElem?_append_right (by omega),hl];simp
  refine⟨o++ [x],by simp only[Bv,e,hx],by simp[hl],λw hw=>?_,λw w' hw hw' hne=>?_,λ_=>?_⟩
  ·by_cases h:w<v
   ·rw[gl w h];exact ho w h
   ·rw[show w=v by omega,gr];exact hxs
  ·have hlast: ∀w,w<v->r4 t w v (o.getD w 0) x=true:=λw hw=>by
    unfold goB at hxg
    rw[if_neg (by omega),List.all_eq_true]at hxg
    exact hxg w (List.mem_range.2 hw)
   by_cases h:w<v
   ·rw[gl w h]
    by_cases h':w'<v
    ·rw[gl w' h'];exact hp w w' h h' hne
    ·rw[show w'=v by omega,gr];exact hlast w h
   ·have ew:w=v:=by omega
    have h':w'<v:=by omega
    rw[ew,gr,gl w' h',hM.sym v w' _ _ (by omega) (by omega) (by omega) hxs (ho w' h')]
    exact hlast w' h'
  ·by_cases hv0:v=0
   ·subst hv0
    rw[gr]
    unfold goB at hxg
    rw[if_pos rfl,List.any_eq_true]at hxg
    obtain⟨y,hy,hr⟩:=hxg
    exact⟨y,List.mem_range.1 hy,hr⟩
   ·rw[gl 0 (by omega)];exact h0 (by omega)
theorem TriP.rot {i j k x y z:Nat} (h:TriP a i j k x y z):TriP a k i j z x y:=λc hc hv vs h1 h2 h3=>h c hc (λv hvc=>by rcases hv v hvc with e|e|e<;>simp[e]) vs h2 h3 h1
theorem J0 (hM:MinP a n s t u) (hF:MajO a s F) {i j k x y z:Nat} (hi:i<n) (hj:j<n) (hk:k<n) (hij:i≠j) (hik:i≠k) (hjk:j≠k) (hx:x<s) (hy:y<s) (hz:z<s) (h1:r4 t i j x y=true) (h2:r4 t i k x z=true) (h3:r4 t j k y z=true):TriP a i j k x y z:=by
 obtain⟨z',hz',_,_,p1⟩:=hM.path i j k x y hi hj hk hij (Ne.symm hik) (Ne.symm hjk) hx hy h1
 obtain⟨y',hy',_,_,p2⟩:=hM.path i k j x z hi hk hj hik (Ne.symm hij) hjk hx hz h2
 obtain⟨x',hx',_,_,p3⟩:=hM.path j k i y z hj hk hi hjk hij hik hy hz h3
 have:=LP hF hi hj hk hij hik hjk hx hx hx' hy hy' hy hz' hz hz p1 p2.rot.swap p3.rot
 rwa [hF.m1 _ _ hx hx',hF.m2 _ _ hy hy',hF.m3 _ _ hz hz']at this
theorem GX (p q:Nat): ∃w,w<3/\w≠p/\w≠q:=by
 by_cases h0:0≠p/\0≠q
 ·exact⟨0,by omega,h0.1,h0.2⟩
 ·by_cases h1:1≠p/\1≠q
  ·exact⟨1,by omega,h1.1,h1.2⟩
  ·exact⟨2,by omega,by omega,by omega⟩
theorem Mt (hn:3<=n) {l:List Int} (hl:l.length<=3) (hv: ∀v∈l,0<=v/\v<(n:Int)): ∃i j k:Nat,i<n/\j<n/\k<n/\i≠j/\i≠k/\j≠k/\ ∀v∈l,v=(i:Int)∨v=(j:Int)∨v=(k:Int):=by
 have key: ∀p q r:Nat,p<n->q<n->r<n-> ∃i j k:Nat,i<n/\j<n/\k<n/\i≠j/\i≠k/\j≠k/\ ∀v:Nat,v=p∨v=q∨v=r->v=i∨v=j∨v=k:=by
  intro p q r hp hq hr
  by_cases h1:p=q
  ·subst h1
   by_cases h2:p=r
   ·subst h2
    obtain⟨w,w1,w2,_⟩:=GX p p
    obtain⟨w',w1',w2',w3'⟩:=GX p w
    exact⟨p,w,w',hp,by omega,by omega,by omega,by omega,by omega,λv h=>by omega⟩
   ·obtain⟨w,w1,w2,w3⟩:=GX p r
    exact⟨p,r,w,hp,hr,by omega,h2,by omega,by omega,λv h=>by omega⟩
  ·by_cases h2:r=p∨r=q
   ·obtain⟨w,w1,w2,w3⟩:=GX p q
    exact⟨p,q,w,hp,hq,by omega,h1,by omega,by omega,λv h=>by omega⟩
   ·exact⟨p,q,r,hp,hq,hr,h1,by omega,by omega,λv h=>h⟩
 have lift: ∀p q r:Int,(0<=p/\p<n)->(0<=q/\q<n)->(0<=r/\r<n)-> ∃i j k:Nat,i<n/\j<n/\k<n/\i≠j/\i≠k/\j≠k/\ ∀v:Int,v=p∨v=q∨v=r->v=(i:Int)∨v=(j:Int)∨v=(k:Int):=by
  intro p q r hp hq hr
  obtain⟨i,j,k,h1,h2,h3,h4,h5,h6,h7⟩:=key p.toNat q.toNat r.toNat (by omega) (by omega) (by omega)
  refine⟨i,j,k,h1,h2,h3,h4,h5,h6,λv hv=>?_⟩
  have:=h7 v.toNat (by omega)
  omega
 match l,hl with
 | [],_=>exact⟨0,1,2,by omega,by omega,by omega,by omega,by omega,by omega,λv h=>by simp at h⟩
 | [p],_=>
  obtain⟨i,j,k,h1,h2,h3,h4,h5,h6,h7⟩:=lift p p p (hv p (by simp)) (hv p (by simp)) (hv p (by simp))
  exact⟨i,j,k,h1,h2,h3,h4,h5,h6,λv h=>h7 v (by simp at h;simp[h])⟩
 | [p,q],_=>
  obtain⟨i,j,k,h1,h2,h3,h4,h5,h6,h7⟩:=lift p q q (hv p (by simp)) (hv q (by simp)) (hv q (by simp))
  exact⟨i,j,k,h1,h2,h3,h4,h5,h6,λv h=>h7 v (by simp at h;rcases h with h|h<;>simp[h])⟩
 | [p,q,r],_=>
  obtain⟨i,j,k,h1,h2,h3,h4,h5,h6,h7⟩:=lift p q r (hv p (by simp)) (hv q (by simp)) (hv r (by simp))
  exact⟨i,j,k,h1,h2,h3,h4,h5,h6,λv h=>h7 v (by simpa using h)⟩
theorem I2 (hN:NetOk a) (ha:a.1=(n:Int)) (hM:MinP a n s t u) (hF:MajO a s F) (hn2:2<=n) {o:List Nat} (hl:o.length=n) (ho: ∀w,w<n->o.getD w 0<s) (hp: ∀w w',w<n->w'<n->w≠w'->r4 t w w' (o.getD w 0) (o.getD w' 0)=true): ∀c∈a.2.2,Ck (cI o) c=true:=by
 intro c hc
 have hcon:=hN.con c hc
 have hval: ∀w:Nat,w<n->Aq (cI o) (w:Int)=((o.getD w 0:Nat):Int):=λw hw=>by
  unfold Aq;rw[Int.toNat_natCast];exact GG (by omega)
 have hsc: ∀v∈c.1,0<=v/\v<(n:Int):=λv hv=>by
  obtain⟨i,hi,rfl⟩:=List.mem_iff_getElem.1 hv
  rw[←ha];exact hcon.sv i hi
 by_cases h3:3<=n
 ·have hl3:c.1.length<=3:=by have:=hcon.sl;have:=hcon.ar;omega
  obtain⟨i,j,k,h1,h2,h3,h4,h5,h6,h7⟩:=Mt h3 hl3 hsc
  exact J0 hM hF h1 h2 h3 h4 h5 h6 (ho i h1) (ho j h2) (ho k h3) (hp i j h1 h2 h4) (hp i k h1 h3 h5) (hp j k h2 h3 h6) c hc h7 (cI o) (hval i h1) (hval j h2) (hval k h3)
 ·have hf:=hM.first 0 1 _ _ (by omega) (by omega) (by omega) (ho 0 (by omega)) (ho 1 (by omega)) (hp 0 1 (by omega) (by omega) (by omega))
  rw[GD (by omega) (by omega) (by omega)]at hf
  exact hf c hc (λv hv=>by have:=hsc v hv;omega) (cI o) (hval 0 (by omega)) (hval 1 (by omega))
theorem J9 (hM:MinP a n s t u) {x:List Nat} (hx: ∀w,w<n->x.getD w 0<s) (hs: ∀c∈a.2.2,∀vs:List Int,(∀w:Nat,w<n->Aq vs (w:Int)=((x.getD w 0:Nat):Int))->Ck vs c=true) (hsc: ∀c∈a.2.2,∀v∈c.1,0<=v/\v<(n:Int)):
  ∀i j,i<n->j<n->i≠j->r4 t i j (x.getD i 0) (x.getD j 0)=true:=by
 have hcv: ∀c∈a.2.2,∀vs:List Int,(∀v∈c.1,Aq vs v=Aq (cI ((List.range n).map λw=>x.getD w 0)) v)->Ck vs c=true:=λc hc vs h=>by
  rw[Fb h]
  refine hs c hc _ λw hw=>?_
  unfold Aq
  rw[Int.toNat_natCast,GG (by simpa using hw),Ah (by simpa using hw)]
  simp
 have hv0: ∀w:Nat,w<n->Aq (cI ((List.range n).map λw=>x.getD w 0)) (w:Int)=((x.getD w 0:Nat):Int):=λw hw=>by
  unfold Aq
  rw[Int.toNat_natCast,GG (by simpa using hw),Ah (by simpa using hw)]
  simp
 have hS:Fam a n s (λi j p q=>i<n/\j<n/\p=x.getD i 0/\q=x.getD j 0):=by
  refine⟨λi j p q ⟨h1,h2,h3,h4⟩=>⟨h2,h1,h4,h3⟩,?_,?_⟩
  ·rintro i j p q hij _ _ _ ⟨h1,h2,rfl,rfl⟩
   rw[GD h1 h2 (by omega)]
   intro c hc hv vs e1 e2
   refine hcv c hc vs λv hvc=>?_
   rcases hv v hvc with rfl|rfl
   ·rw[e1,hv0 _ h1]
   ·rw[e2,hv0 _ h2]
  ·rintro i j k p q _ _ hk _ _ _ _ _ ⟨h1,h2,rfl,rfl⟩
   refine⟨x.getD k 0,hx k hk,⟨h1,hk,rfl,rfl⟩,⟨h2,hk,rfl,rfl⟩,?_⟩
   intro c hc hv vs e1 e2 e3
   refine hcv c hc vs λv hvc=>?_
   rcases hv v hvc with rfl|rfl|rfl
   ·rw[e1,hv0 _ h1]
   ·rw[e2,hv0 _ h2]
   ·rw[e3,hv0 _ hk]
 exact λi j hi hj hij=>hM.all _ hS i j _ _ hi hj hij (hx i hi) (hx j hj) ⟨hi,hj,rfl,rfl⟩
end
end T
open Go Go.Va
namespace T
section
variable {a:Net} {n s:Nat} {t:T4} {u:T3}
def grR (t:T4) (s n:Nat):List Int×Bool:=match Bv t s n with|none=>([],false)|some o=>(cI o,true)
theorem I5 (h:HF a) (hb:C1 a=true) (h2:2<=a.1): ∃(n s:Nat) (t:T4) (u:T3),a.1=(n:Int)/\a.2.1=(s:Int)/\MinP a n s t u/\
  Bn a=some (Ydm u n s n,true)/\Ee a=some (!DW (Ydm u n s n),true)/\
  BQ a=some (grR t s n):=by
 have hN:=Fh hb
 have h2': ¬a.1<2:=by omega
 obtain⟨n,ha⟩: ∃n:Nat,a.1=(n:Int):=⟨a.1.toNat,by have:=hN.hv;omega⟩
 obtain⟨s,hs⟩: ∃n:Nat,a.2.1=(n:Int):=⟨a.2.1.toNat,by have:=hN.hn;omega⟩
 have hn9:n<=9:=by have:=hN.hv;omega
 have hs4:s<=4:=by have:=hN.hn;omega
 have hn2:2<=n:=by omega
 obtain⟨t,u,hM,e1,e2⟩:=Lq hN ha hs
 have hR:=hM.rel
 have e3:=EN hN ha hs hR e1
 have hlen:=FB (u:=u) (n:=n) (s:=s) (k:=n)
 have hle:n*n<=9*9:=Nat.mul_le_mul hn9 hn9
 refine⟨n,s,t,u,ha,hs,hM,?_,?_,?_⟩
 ·unfold Bn
  rw[Bm (a:=(a.1,(a.2.1,a.2.2))) h,show C1 (a.1,(a.2.1,a.2.2))=C1 a from rfl,hb]
  simp only[e3,Option.bind_some,decide_eq_false h2',Bool.not_true,Bool.false_eq_true,if_false]
 ·unfold Ee
  rw[Bm (a:=(a.1,(a.2.1,a.2.2))) h,show C1 (a.1,(a.2.1,a.2.2))=C1 a from rfl,hb]
  have e5:=Fa (Ydm u n s n) (λm i=>Ch m (Ydm u n s n,((Ydm u n s n).length:Int),i)) (λr=>r.length !=0) (.inr (true,true)) (.inl ()) (λm k hk=>by
    simp only[Ch,Ac,Ai hk,Ab (show k<4611686018427387904 by omega)]
    by_cases e:((Ydm u n s n)[k]).length=0
    ·simp[hk,e]
    ·have e': ¬((((Ydm u n s n)[k]).length:Int)==0)=true:=by simpa using e
     rw[if_pos (by simp;omega),if_pos hk,if_neg e',if_pos (by simpa using e)]) (λm=>by simp[Ch]) (n:=Aa) (by unfold Aa;omega)
  simp only[e3,e5,Option.bind_some,decide_eq_false h2',Bool.not_true,Bool.false_eq_true,if_false]
  have e6:DW (Ydm u n s n)=(Ydm u n s n).all λr=>r.length !=0:=rfl
  rw[e6]
  cases (Ydm u n s n).all λr=>r.length !=0 with
  |true=>rfl
  |false=>rfl
 ·unfold BQ grR
  rw[Bm (a:=(a.1,(a.2.1,a.2.2))) h,show C1 (a.1,(a.2.1,a.2.2))=C1 a from rfl,hb]
  have e4:=LK (a:=a) hs4 hs hn2 hR s 0 Aa (by omega) (by unfold Aa;omega)
  have e4:AA Aa ((a.1,(a.2.1,a.2.2)),t,[],0)=_:=e4
  rw[←List.range_eq_range']at e4
  simp only[e1,e4,Option.bind_some,decide_eq_false h2',Bool.not_true,Bool.false_eq_true,if_false]
  have hg1:Bv t s 1=match (List.range s).find? (goB t s [] 0)with|some x=>some [x]|none=>none:=by simp only[Bv];rfl
  cases hf:(List.range s).find? (goB t s [] 0)with
  |none=>
   rw[hf]at hg1
   have hnone: ∀k,1<=k->Bv t s k=none:=by
    intro k hk
    induction k with
    |zero=>omega
    |succ k ihk=>
     rcases Nat.lt_or_ge k 1 with h|h
     ·have:k=0:=by omega
      subst this;exact hg1
     ·simp only[Bv,ihk h]
   rw[hnone n (by omega)]
   obtain⟨f,hff⟩: ∃f,Aa=f+1:=⟨Aa-1,rfl⟩
   have e5:An Aa ((a.1,(a.2.1,a.2.2)),t,[],1)=some ((a.1,(a.2.1,a.2.2)),[]):=by
    rw[hff];simp only[An]
    cases decide ((1:Int)<((a.1,(a.2.1,a.2.2)):Net).1)<;>simp
   dsimp only
   rw[e5]
   simp only[Option.bind_some]
   rw[if_pos (by simp;omega)]
  |some x=>
   rw[hf]at hg1
   obtain⟨r,h1,h3⟩:=KF (a:=a) hs4 ha hs hn9 hR (n-1) 1 [x] Aa (by omega) (by omega) (by unfold Aa;omega) hg1
   have h1:An Aa ((a.1,(a.2.1,a.2.2)),t,[(x:Int)],1)=_:=h1
   dsimp only
   rw[h1]
   simp only[Option.bind_some]
   cases hg:Bv t s n with
   |none=>
    rw[hg]at h3
    dsimp only at h3⊢
    rw[if_pos (by simp;omega)]
   |some o=>
    rw[hg]at h3
    dsimp only at h3⊢
    subst h3
    obtain⟨ho,_⟩:=E4 hg
    have hl:(cI o).length=n:=by unfold cI;simpa using ho
    rw[if_neg (by simp;omega)]
theorem I6 (h:HF a) (hb: ¬(C1 a=true/\2<=a.1)):Bn a=some ([],false):=by
 unfold Bn
 rw[Bm (a:=(a.1,(a.2.1,a.2.2))) h,show C1 (a.1,(a.2.1,a.2.2))=C1 a from rfl]
 cases hc:C1 a with
 |false=>simp
 |true=>
  have:a.1<2:=by
   rw[hc]at hb;simp at hb;omega
  simp[this]
end
section
variable {a:Net}
theorem Mg {b:Bool} {R:List (List Pr)} {i:Nat} (hi:i<R.length) (hl:R[i].length<=1000):BV Aa (a,R,b,R,(i:Int),0)=some (.inl (a,R,b,R,(i:Int))):=by
 have:=CO R[i].length (λf (_:Unit) k=>BV f (a,R,b,R,(i:Int),k)) (λ_=>()) (r:=some (.inl (a,R,b,R,(i:Int)))) (λf k hk=>?_) (λf=>?_) (n:=Aa) (by unfold Aa;omega)
 ·exact this
 ·simp only[BV,Ac,hi,Ai hi,hk,Ai hk,if_true,Ab (show k<4611686018427387904 by omega)]
  rw[if_pos (by rw[decide_eq_true_eq];omega)]
  simp
 ·simp only[BV,Ac,hi,Ai hi,if_true]
  rw[if_neg (by simp)]
theorem MM {b:Bool} {R:List (List Pr)} (hR:R.length<=1000) (hl: ∀r∈R,r.length<=1000):Cg Aa (a,R,b,R,0)=some (.inl (a,R,b)):=by
 have:=CO R.length (λf (_:Unit) k=>Cg f (a,R,b,R,k)) (λ_=>()) (r:=some (.inl (a,R,b))) (λf k hk=>?_) (λf=>?_) (n:=Aa) (by unfold Aa;omega)
 ·exact this
 ·have e:=Mg (a:=a) (b:=b) hk (hl _ (List.getElem_mem hk))
  have e:BV Aa ((a.1,(a.2.1,a.2.2)),R,b,R,(k:Int),0)=_:=e
  simp only[Cg,Ac,hk,Ai hk,if_true,e,Option.bind_some,Ab (show k<4611686018427387904 by omega)]
  rw[if_pos (by rw[decide_eq_true_eq];omega)]
  simp
 ·simp only[Cg]
  rw[if_neg (by simp)]
theorem Mh {R:List (List Pr)} {g:List Int} {b1 b2 b3:Bool} (hR:R.length<=1000):BW Aa (a,R,g,b1,b2,b3,false,0)=some (a,R,g,b1,b2,b3,!DW R):=by
 have:=CO R.length (λf (o:Bool) k=>BW f (a,R,g,b1,b2,b3,o,k)) (λk=>!DW (R.take k)) (r:=some (a,R,g,b1,b2,b3,!DW R)) (λf k hk=>?_) (λf=>?_) (n:=Aa) (by unfold Aa;omega)
 ·have e0:(!DW (R.take 0))=false:=by simp[DW]
  rw[e0]at this
  exact this
 ·have hs:(!DW (R.take (k+1)))=(!DW (R.take k)||(R[k].length==0)):=by
   unfold DW
   rw[List.take_succ_eq_append_getElem hk,List.all_append]
   simp only[List.all_cons,List.all_nil,Bool.and_true,Bool.not_and]
   congr 1
   cases h:R[k].length==0<;>simp_all
  simp only[BW,Ac,hk,Ai hk,if_true,Ab (show k<4611686018427387904 by omega),hs]
  rw[if_pos (by rw[decide_eq_true_eq];omega)]
  cases DW (R.take k)with
  |true=>
   simp only[Bool.not_true,Bool.false_eq_true,if_false,Bool.false_or]
   have:(((R[k].length:Nat):Int)==0)=(R[k].length==0):=by
    rw[Bool.eq_iff_iff,beq_iff_eq,beq_iff_eq];omega
   rw[this]
  |false=>simp
 ·simp only[BW,List.take_length]
  rw[if_neg (by simp)]
theorem Mi {V:Nat} {n:Int} {cs:List Con} (hV:V<=1000) {R:List (List Pr)} {g:List Int} {b1 b2:Bool}:Cl Aa (((V:Int),(n,cs)),R,g,b1,b2,[],0)=some (((V:Int),(n,cs)),R,g,b1,b2,List.replicate V (-1)):=by
 have:=CO V (λm (o:List Int) k=>Cl m (((V:Int),(n,cs)),R,g,b1,b2,o,k)) (λk=>List.replicate k (-1)) (r:=some (((V:Int),(n,cs)),R,g,b1,b2,List.replicate V (-1))) (λm k hk=>?_) (λm=>?_) (n:=Aa) (by unfold Aa;omega)
 ·exact this
 ·simp only[Cl,Ab (show k<4611686018427387904 by omega),List.replicate_succ']
  rw[if_pos (by rw[decide_eq_true_eq];omega),if_pos (by simp;unfold lim;omega)]
 ·simp only[Cl]
  rw[if_neg (by simp)]
theorem Mm (hD:IF a) {g:List Int} {b1 b2:Bool} {rels:List Bb} (hr: ∀r∈rels,r.2.length<=1048576/\ ∀t∈r.2,t.length<=1048576) (hl:rels.length<=1000) {i:Nat} (hi:i<a.2.2.length):
  Bh Aa (a,g,b1,b2,rels,(i:Int),false,0)=some (a,g,b1,b2,rels,(i:Int),decide (a.2.2[i].2∈rels)):=by
 have:=CO rels.length (λf (o:Bool) k=>Bh f (a,g,b1,b2,rels,(i:Int),o,k)) (λk=>decide (a.2.2[i].2∈rels.take k)) (r:=some (a,g,b1,b2,rels,(i:Int),decide (a.2.2[i].2∈rels))) (λf k hk=>?_) (λf=>?_) (n:=Aa) (by unfold Aa;omega)
 ·have e0:decide (a.2.2[i].2∈rels.take 0)=false:=by simp
  rw[e0]at this
  exact this
 ·have hm:=hr _ (List.getElem_mem hk)
  have e:=J4 (a:=rels[k].2) (b:=a.2.2[i].2.2) hm.1 hm.2
  have hs:decide (a.2.2[i].2∈rels.take (k+1))=(decide (a.2.2[i].2∈rels.take k)||decide (a.2.2[i].2=rels[k])):=by
   rw[Bool.eq_iff_iff];simp only[List.take_succ_eq_append_getElem hk,List.mem_append,List.mem_singleton,Bool.or_eq_true,decide_eq_true_eq]
  simp only[Bh,Ac,hk,hi,Ai hk,Ai hi,if_true,e,Option.bind_some,Ab (show k<4611686018427387904 by omega),hs]
  rw[if_pos (by rw[decide_eq_true_eq];omega)]
  cases decide (a.2.2[i].2∈rels.take k)with
  |true=>simp
  |false=>
   simp only[Bool.false_eq_true,if_false,Bool.false_or]
   by_cases h1:rels[k].1=a.2.2[i].2.1
   ·rw[if_pos (by simpa using h1)]
    by_cases h2:rels[k].2=a.2.2[i].2.2
    ·rw[decide_eq_true h2,decide_eq_true (show a.2.2[i].2=rels[k] from(Prod.ext h1 h2).symm)]
    ·rw[decide_eq_false h2,decide_eq_false (show¬a.2.2[i].2=rels[k] from λe=>h2 (by rw[e]))]
   ·rw[if_neg (by simpa using h1),decide_eq_false (show¬a.2.2[i].2=rels[k] from λe=>h1 (by rw[e]))]
 ·simp only[Bh,List.take_length]
  rw[if_neg (by simp)]
theorem Ml (hD:IF a) {g:List Int} {b1 b2:Bool}:A7 Aa (a,g,b1,b2,[],0)=some (a,g,b1,b2,DX a.2.2):=by
 have hl:=hD.2.2.2.2.1
 have:=CO a.2.2.length (λf (o:List Bb) k=>A7 f (a,g,b1,b2,o,k)) (λk=>DX (a.2.2.take k)) (r:=some (a,g,b1,b2,DX a.2.2)) (λf k hk=>?_) (λf=>?_) (n:=Aa) (by unfold Aa;omega)
 ·exact this
 ·have hlen:=H4 (cs:=a.2.2.take k)
  rw[List.length_take]at hlen
  have e:=Mm (g:=g) (b1:=b1) (b2:=b2) hD (LB hD (k:=k)) (by omega) hk
  have e:Bh Aa ((a.1,(a.2.1,a.2.2)),g,b1,b2,DX (a.2.2.take k),(k:Int),false,0)=_:=e
  simp only[A7,e,Option.bind_some,Ac,hk,Ai hk,if_true,Ab (show k<4611686018427387904 by omega),Jb hk]
  rw[if_pos (by rw[decide_eq_true_eq];omega)]
  unfold Ga
  by_cases h:a.2.2[k].2∈DX (a.2.2.take k)
  ·rw[decide_eq_true h,if_pos h];simp
  ·rw[decide_eq_false h,if_neg h]
   simp only[Bool.not_false,if_true]
   rw[if_pos (by rw[List.length_singleton];unfold lim;omega)]
 ·simp only[A7,List.take_length]
  rw[if_neg (by simp)]
end
end T
open Go Go.Va
namespace T
section
variable {n s:Nat} {t:T4} {u:T3}
theorem GT {k:Nat} (hk:k<=n): ∃r,Ydm u n s n=Ydm u n s k++r:=by
 obtain⟨d,rfl⟩: ∃d,n=k+d:=⟨n-k,by omega⟩
 unfold Ydm
 rw[List.range_add,List.flatMap_append]
 exact⟨_,rfl⟩
theorem HK {i:Nat} (hi:i<n):(Ydm u n s (i+1)).length=(Ydm u n s i).length+(n-(i+1)):=by
 rw[E0,List.length_append]
 unfold EK
 simp
theorem Jj {i j:Nat} (hij:i<j) (hj:j<n): ∃h:(Ydm u n s i).length+(j-(i+1))<(Ydm u n s n).length,(Ydm u n s n)[(Ydm u n s i).length+(j-(i+1))]=fL u s i j (s*s):=by
 obtain⟨r,e⟩:=GT (u:=u) (s:=s) (show i+1<=n by omega)
 have hl:=HK (u:=u) (s:=s) (show i<n by omega)
 have h1:(Ydm u n s i).length+(j-(i+1))<(Ydm u n s (i+1)).length:=by omega
 have h2:(Ydm u n s i).length+(j-(i+1))<(Ydm u n s n).length:=by rw[e,List.length_append];omega
 refine⟨h2,?_⟩
 have:(Ydm u n s n)[(Ydm u n s i).length+(j-(i+1))]? =some (fL u s i j (s*s)):=by
  rw[e,List.getElem?_append_left h1,E0,List.getElem?_append_right (by omega),Nat.add_sub_cancel_left]
  unfold EK
  rw[List.getElem?_map,List.getElem?_range' (by omega)]
  simp only[Option.map_some,Nat.one_mul]
  rw[show i+1+(j-(i+1))=j by omega]
 rw[List.getElem?_eq_getElem h2]at this
 exact Option.some.inj this
theorem Kq (hR:Rel34 n s t u) {i j x y:Nat} (hij:i<j) (hj:j<n) (hx:x<s) (hy:y<s) (h:r4 t i j x y=true):((x:Int),(y:Int))∈fL u s i j (s*s):=by
 unfold fL
 refine List.mem_map.2 ⟨x*s+y,List.mem_filter.2 ⟨List.mem_range.2 (Eh hx hy),?_⟩,?_⟩
 ·rw[←(hR.eq i j x y hij hj hx hy).1];exact h
 ·obtain⟨d1,d2⟩:=F4 (x:=x) hy
  unfold prP
  rw[d1,d2]
theorem MB (hR:Rel34 n s t u) {i j:Nat} (hij:i<j) (hj:j<n) (h:fL u s i j (s*s)≠ []): ∃x y,x<s/\y<s/\r4 t i j x y=true:=by
 obtain⟨p,hp⟩:=List.exists_mem_of_ne_nil _ h
 unfold fL at hp
 obtain⟨q,hq,_⟩:=List.mem_map.1 hp
 obtain⟨h1,h2⟩:=List.mem_filter.1 hq
 obtain⟨hx,hy⟩:=Ic (List.mem_range.1 h1)
 refine⟨q/s,q%s,hx,hy,?_⟩
 rw[(hR.eq i j _ _ hij hj hx hy).1,Nat.mul_comm,Nat.div_add_mod]
 exact h2
end
section
variable {n:Int} {V:Nat} {cs:List Con} {R:List (List Pr)} {g x:List Int} {b1 b2:Bool}
theorem Mk {w:Net} {at' i j:Nat} (ha:at'<R.length) (hl:R[at'].length<=1000) (hi:i<x.length) (hj:j<x.length):
  BY Aa (w,R,g,b1,b2,x,(at':Int),(i:Int),(j:Int),false,0)=some (w,R,g,b1,b2,x,(at':Int),(i:Int),(j:Int),decide ((x[i],x[j])∈R[at'])):=by
 have:=CO R[at'].length (λf (o:Bool) k=>BY f (w,R,g,b1,b2,x,(at':Int),(i:Int),(j:Int),o,k)) (λk=>decide ((x[i],x[j])∈R[at'].take k)) (r:=some (w,R,g,b1,b2,x,(at':Int),(i:Int),(j:Int),decide ((x[i],x[j])∈R[at']))) (λf k hk=>?_) (λf=>?_) (n:=Aa) (by unfold Aa;omega)
 ·have e0:decide ((x[i],x[j])∈R[at'].take 0)=false:=by simp
  rw[e0]at this
  exact this
 ·have hs:decide ((x[i],x[j])∈R[at'].take (k+1))=(decide ((x[i],x[j])∈R[at'].take k)||(R[at'][k].1==x[i]&&(R[at'][k].2==x[j]&&true))):=by
   rw[Bool.eq_iff_iff];simp only[List.take_succ_eq_append_getElem hk,List.mem_append,List.mem_singleton,Bool.or_eq_true,decide_eq_true_eq,Bool.and_eq_true,beq_iff_eq,and_true]
   constructor
   ·rintro (h|h)
    ·exact .inl h
    ·exact .inr ⟨by rw[←h],by rw[←h]⟩
   ·rintro (h|⟨h1,h2⟩)
    ·exact .inl h
    ·exact .inr (Prod.ext h1.symm h2.symm)
  simp only[BY,Ac,ha,Ai ha,hk,Ai hk,hi,Ai hi,hj,Ai hj,if_true,Ab (show k<4611686018427387904 by omega),hs]
  rw[if_pos (by rw[decide_eq_true_eq];omega)]
  cases decide ((x[i],x[j])∈R[at'].take k)with
  |true=>simp
  |false=>simp only[Bool.false_eq_true,if_false,Bool.false_or]
 ·simp only[BY,Ac,ha,Ai ha,if_true,List.take_length]
  rw[if_neg (by simp)]
theorem KW {i:Nat} (hV:V<=1000) (hx:x.length=V) (hR: ∀r∈R,r.length<=1000) (hRl:R.length<=1000) (hi:i<V) {a0:Nat}
  (hm: ∀j (hij:i<j) (hj:j<V),∃h:a0+(j-(i+1))<R.length,(x[i]'(by omega),x[j]'(by omega))∈R[a0+(j-(i+1))]): ∀(d j f:Nat),j+d=V->i<j->d<f->
  CZ f (((V:Int),(n,cs)),R,g,b1,b2,x,((a0+(j-(i+1)):Nat):Int),(i:Int),(j:Int))=some (.inl (((V:Int),(n,cs)),R,g,b1,b2,x,((a0+(V-(i+1)):Nat):Int),(i:Int)))
 |0,j,f+1,h,hij,_=>by
  have:j=V:=by omega
  subst this
  simp only[CZ]
  rw[if_neg (by simp)]
 |d+1,j,f+1,h,hij,hf=>by
  have hj:j<V:=by omega
  obtain⟨ha,hmem⟩:=hm j hij hj
  have e:=Mk (w:=((V:Int),(n,cs))) (g:=g) (b1:=b1) (b2:=b2) (x:=x) (i:=i) (j:=j) ha (hR _ (List.getElem_mem ha)) (by omega) (by omega)
  rw[decide_eq_true hmem]at e
  simp only[CZ,e,Option.bind_some,Bool.not_true,Bool.false_eq_true,if_false,Ab (show j<4611686018427387904 by omega),Ab (show a0+(j-(i+1))<4611686018427387904 by omega)]
  rw[if_pos (by rw[decide_eq_true_eq];omega)]
  have ih:=KW hV hx hR hRl hi hm d (j+1) f (by omega) (by omega) (by omega)
  rw[show a0+(j+1-(i+1))=a0+(j-(i+1))+1 by omega]at ih
  exact ih
 |0,_,0,_,_,h=>by omega
 |d+1,_,0,_,_,h=>by omega
theorem Mj (hV:V<=1000) (hx:x.length=V) (hR: ∀r∈R,r.length<=1000) (hRl:R.length<=1000) {A:Nat->Nat} (h0:A 0=0) (hA: ∀i,i<V->A (i+1)=A i+(V-(i+1))) (hA9: ∀i,i<=V->A i<=1000000)
  (hm: ∀i j (hij:i<j) (hj:j<V),∃h:A i+(j-(i+1))<R.length,(x[i]'(by omega),x[j]'(by omega))∈R[A i+(j-(i+1))]):
  BX Aa (((V:Int),(n,cs)),R,g,b1,b2,x,0,0)=some (.inl (((V:Int),(n,cs)),g,b1,b2)):=by
 have:=CO V (λf (o:Nat) k=>BX f (((V:Int),(n,cs)),R,g,b1,b2,x,(o:Int),k)) A (r:=some (.inl (((V:Int),(n,cs)),g,b1,b2))) (λf k hk=>?_) (λf=>?_) (n:=Aa) (by unfold Aa;omega)
 ·rw[h0]at this
  exact this
 ·have e:=KW (n:=n) (cs:=cs) (g:=g) (b1:=b1) (b2:=b2) hV hx hR hRl hk (a0:=A k) (λj hij hj=>hm k j hij hj) (V-(k+1)) (k+1) Aa (by omega) (by omega) (by unfold Aa;omega)
  rw[Nat.sub_self,Nat.add_zero,←hA k hk]at e
  simp only[BX,e,Option.bind_some,Ab (show k<4611686018427387904 by omega)]
  rw[if_pos (by rw[decide_eq_true_eq];omega)]
 ·simp only[BX]
  rw[if_neg (by simp)]
end
section
variable {n:Int} {rels:List Bb}
def LL (n:Int) (rels:List Bb) (f:Opn):Prop:= ∃m:Nat,n=(m:Int)/\m<=3/\RelsOk m 3 rels/\ ∃t,f=(3,t)/\t∈Yhi m 3 rels (EL (FP m) (m*m*m) (m*m*m))
theorem HC (h:JA rels): ∃R:Opn×Bool,AC n rels=some R/\AE n rels=some R/\R.1.2.length<=1000/\(R.2=true->LL n rels R.1):=by
 unfold AC AE
 rw[Hi h,GQ h]
 rw[show(Ge n rels&&decide (1<=(3:Int)/\(3:Int)<=3)&&IZ 3 rels)=(Ge n rels&&IZ 3 rels) by simp]
 cases hc:Ge n rels&&IZ 3 rels with
 |false=>exact⟨((0,[]),false),by simp,by simp,by simp,by simp⟩
 |true=>
  rw[Bool.and_eq_true]at hc
  obtain⟨hn,_⟩:=JD hc.1
  have hR:=LD (k:=3) hc.1 (by omega)
  simp only[Option.bind_some,Bool.not_true,Bool.false_eq_true,if_false]
  by_cases h3:n>3
  ·rw[if_pos (by simpa using h3),if_pos (by simpa using h3)];exact⟨((0,[]),false),rfl,rfl,by simp,by simp⟩
  ·rw[if_neg (by simpa using h3),if_neg (by simpa using h3)]
   obtain⟨m,rfl⟩: ∃m:Nat,n=m:=⟨n.toNat,by omega⟩
   rw[Int.toNat_natCast]at hR
   have h27:=(KE (n:=m) (by omega) (show 0<m by omega) (show 0<m by omega) (show 0<m by omega)).2.2
   obtain⟨q1,q2,q3⟩:=KV hR (given:=EL (FP m) (m*m*m) (m*m*m)) (by simp[EL,Hd]) (LG (by omega) (by omega))
   refine⟨_,?_,?_,q3,λhR2=>⟨m,rfl,by omega,hR,?_⟩⟩
   ·simp only[Kl (show m<=3 by omega),Kz (show m*m*m<=1000 by omega),Option.bind_some,L4 (rels:=rels) (show 1<=m by omega) (show m<=3 by omega)]
    rw[show(3:Int)=((3:Nat):Int) from rfl,q1];rfl
   ·simp only[Kl (show m<=3 by omega),KA (show m*m*m<=1000 by omega),Option.bind_some,MK (rels:=rels) (show 1<=m by omega) (show m<=3 by omega)]
    unfold Gc
    rw[show(3:Int)=((3:Nat):Int) from rfl,q2];rfl
   ·cases hl:Yhi m 3 rels (EL (FP m) (m*m*m) (m*m*m))with
    |nil=>rw[hl]at hR2;cases hR2
    |cons t l=>exact⟨t,by simp[Fd],List.mem_cons_self ..⟩
def F3 (m:Nat) (t:List Int) (x y z:Nat):Nat:=(t.getD ((x*m+y)*m+z) 0).toNat
theorem KI {m x y z:Nat} (hx:x<m) (hy:y<m) (hz:z<m):(x*m+y)*m+z<m^3:=by
 have h1:x*m+y<m*m:=Eh hx hy
 have h2:(x*m+y)*m+z<m*m*m:=by
  have:=Nat.mul_le_mul_right m (show x*m+y+1<=m*m from h1)
  rw[Nat.add_mul]at this
  omega
 rw[Hd];exact h2
theorem I3 {m x y z:Nat} (hx:x<m) (hy:y<m) (hz:z<m):((x*m+y)*m+z)/m/m%m=x/\((x*m+y)*m+z)/m%m=y/\((x*m+y)*m+z)%m=z:=by
 obtain⟨e1,e2⟩:=F4 (x:=x*m+y) hz
 obtain⟨e3,e4⟩:=F4 (x:=x) hy
 rw[e1,e2,e3,e4]
 exact⟨Nat.mod_eq_of_lt hx,rfl,rfl⟩
theorem LF {v:Nat->Int} {N j:Nat} (h:j<N):(EL v N N).getD j 0=v j:=by
 unfold EL
 rw[Ah (by simpa using h)]
 simp[h]
theorem KX {m M:Nat} {t:List Int} {r:Bb} (hok:ROk m M r) (hk:I8 m 3 [r] t=true) {s u w:List Int} (hs:s∈r.2) (hu:u∈r.2) (hw:w∈r.2): ∃z∈r.2,∀j,j<M->z.getD j 0=t.getD (((s.getD j 0).toNat*m+(u.getD j 0).toNat)*m+(w.getD j 0).toNat) 0:=by
 obtain⟨i,hi,rfl⟩:=List.mem_iff_getElem.1 hs
 obtain⟨k,hk',rfl⟩:=List.mem_iff_getElem.1 hu
 obtain⟨l,hl',rfl⟩:=List.mem_iff_getElem.1 hw
 obtain⟨z,hz,hzz⟩:=Ly hok hk (ys:= [i,k,l]) rfl (λy hy=>by
  simp at hy
  rcases hy with rfl|rfl|rfl
  ·exact hi
  ·exact hk'
  ·exact hl')
 refine⟨r.2[z],List.getElem_mem hz,λj hj=>?_⟩
 have:=hzz j hj
 rw[Ah hz]at this
 rw[←this]
 obtain⟨a1,a2,a3⟩:=hok.vt_lt hi hj
 obtain⟨b1,b2,b3⟩:=hok.vt_lt hk' hj
 obtain⟨c1,c2,c3⟩:=hok.vt_lt hl' hj
 rw[Ah hi]at a2 a3
 rw[Ah hk']at b2 b3
 rw[Ah hl']at c2 c3
 unfold atF
 simp only[List.foldl_cons,List.foldl_nil,Nat.zero_mul,Nat.zero_add]
 rw[a2,b2,c2]
 simp only[Int.toNat_natCast]
theorem L5 {a:Net} {s:Nat} (hN:NetOk a) (hs:a.2.1=(s:Int)) {f:Opn} (hf:LL a.2.1 (DX a.2.2) f): ∃F,MajO a s F:=by
 obtain⟨m,hm,h3,hR,t,rfl,ht⟩:=hf
 have:m=s:=by omega
 subst this
 obtain⟨h1,h2,h4,h5⟩:=(Kg hR).1 ht
 have hval: ∀x y z,x<m->y<m->z<m->0<=t.getD ((x*m+y)*m+z) 0/\t.getD ((x*m+y)*m+z) 0<(m:Int):=λx y z hx hy hz=>by
  have:=KI hx hy hz
  rw[Ah (by omega)]
  exact h2 _ (List.getElem_mem _)
 have hF: ∀x y z,x<m->y<m->z<m->((F3 m t x y z:Nat):Int)=t.getD ((x*m+y)*m+z) 0:=λx y z hx hy hz=>by
  have:=hval x y z hx hy hz
  unfold F3;omega
 have hmaj: ∀x y z v,x<m->y<m->z<m->FP m ((x*m+y)*m+z)=((v:Nat):Int)->F3 m t x y z=v:=λx y z v hx hy hz hv=>by
  have hq:=KI hx hy hz
  have:=h4 _ hq
  unfold Ds at this
  rw[LF (by rw[←Hd];exact hq),hv]at this
  simp only[Bool.not_eq_true',Bool.and_eq_false_iff,decide_eq_false_iff_not,bne_eq_false_iff_eq]at this
  have h0:=hval x y z hx hy hz
  unfold F3
  rcases this with h|h
  ·omega
  ·omega
 refine⟨F3 m t,λx y z hx hy hz=>?_,λx y hx hy=>?_,λx y hx hy=>?_,λx y hx hy=>?_,λc hc v1 v2 v3 vs g1 g2 g3 hv=>?_⟩
 ·have:=hval x y z hx hy hz
  unfold F3;omega
 ·refine hmaj x x y x hx hx hy ?_
  obtain⟨e1,e2,e3⟩:=I3 hx hx hy
  unfold FP
  rw[e1,e2,e3,if_pos rfl]
 ·refine hmaj x y x x hx hy hx ?_
  obtain⟨e1,e2,e3⟩:=I3 hx hy hx
  unfold FP
  rw[e1,e2,e3]
  split
  ·rfl
  ·rw[if_pos rfl]
 ·refine hmaj y x x x hy hx hx ?_
  obtain⟨e1,e2,e3⟩:=I3 hy hx hx
  unfold FP
  rw[e1,e2,e3]
  by_cases h:y=x
  ·rw[if_pos h,h]
  ·rw[if_neg h,if_neg h,if_pos rfl]
 ·have hcon:=hN.con c hc
  have hmem:c.2∈DX a.2.2:=GO.2 ⟨c,hc,rfl⟩
  have hok:=hR.ok _ hmem
  have hk:I8 m 3 [c.2] t=true:=by
   unfold I8 at h5⊢
   rw[List.all_eq_true]at h5
   simp only[List.all_cons,List.all_nil,Bool.and_true]
   exact h5 _ hmem
  have hM:c.1.length=c.2.1.toNat:=by have:=hcon.sl;omega
  obtain⟨z,hz,hzz⟩:=KX hok hk (of_decide_eq_true g1) (of_decide_eq_true g2) (of_decide_eq_true g3)
  refine decide_eq_true ?_
  have:c.1.map (Aq vs)=z:=by
   have hzl:=hok.tl z hz
   refine List.ext_getElem (by rw[List.length_map];omega) λj h1' h2'=>?_
   rw[List.length_map]at h1'
   have hzj:=hzz j (by omega)
   obtain⟨x,y,w,hx,hy,hw,e1,e2,e3,e4⟩:=hv c.1[j] (List.getElem_mem h1')
   rw[Ah h2']at hzj
   have gm: ∀v:List Int,(c.1.map (Aq v)).getD j 0=Aq v c.1[j]:=λv=>by rw[Ah (by simpa using h1')];simp
   rw[gm v1,gm v2,gm v3,e1,e2,e3]at hzj
   simp only[Int.toNat_natCast]at hzj
   rw[List.getElem_map,e4,hF x y w hx hy hw,hzj]
  rw[this];exact hz
end
end T
open Go Go.Va
namespace T
noncomputable def I7 (a:Net) (g:List Int) (b1 b2:Bool):Option Bool:=
 if decide (((DX a.2.2).length:Int)<=4)then
  if !b2 then
   (AC a.2.1 (DX a.2.2)).bind λr21=>
    (AE a.2.1 (DX a.2.2)).bind λr22=>
     if r21.2 !=r22.2 then
      some false
     else
      (Ep (r21.1.1,r21.1.2) (r22.1.1,r22.1.2)).bind λr23=>
       if !r23 then
        some false
       else
        if r21.2 then
         (Cf (a.1,(a.2.1,a.2.2)) g).bind λr24=>
          if !b1 then
           some false
          else
           if !r24.2 then
            some false
           else
            if !r24.1 then
             some false
            else
             some true
        else
         some true
  else
   some true
 else
  some true
section
variable {V n:Nat} {cs:List Con} {t:T4} {u:T3}
theorem J2 (hD:IF ((V:Int),((n:Int),cs))) (hO:SrchOk V n cs) (hV2:2<=V) (hM:MinP ((V:Int),((n:Int),cs)) V n t u):
  I7 ((V:Int),((n:Int),cs)) (grR t n V).1 (grR t n V).2 (!DW (Ydm u V n V))=some true:=by
 have hS:=KT hD
 have hV:=hO.hv
 unfold I7
 by_cases h4:((DX cs).length:Int)<=4
 rotate_left
 ·rw[if_neg (by simpa using h4)]
 rw[if_pos (decide_eq_true h4)]
 cases hne:DW (Ydm u V n V)with
 |false=>simp
 |true=>
  obtain⟨R,p1,p2,p3,p4⟩:=HC (n:=(n:Int)) (LC hD)
  have p5:Ep (R.1.1,R.1.2) (R.1.1,R.1.2)=_:=Mn (a:=R.1) (b:=R.1) (by omega)
  simp only[p1,p2,p5,Bool.not_true,Bool.not_false,if_true,Option.bind_some,bne_self_eq_false,decide_true,Bool.false_eq_true,if_false]
  cases hR:R.2 with
  |false=>simp
  |true=>
   have hb:=JX hO
   have hN:=Fh hb
   obtain⟨F,hF⟩:=L5 hN rfl (p4 hR)
   obtain⟨hlt,hat⟩:=Jj (u:=u) (n:=V) (s:=n) (i:=0) (j:=1) (by omega) (by omega)
   have h01: ∃x y,x<n/\y<n/\r4 t 0 1 x y=true:=by
    refine MB hM.rel (by omega) (by omega) λhe=>?_
    unfold DW at hne
    rw[List.all_eq_true]at hne
    have:=hne _ (List.getElem_mem hlt)
    rw[hat,he]at this
    simp at this
   obtain⟨o,g1,g2,g3,g4,_⟩:=JS hM hF hV2 (by obtain⟨x,y,h⟩:=h01;exact⟨x,y,h⟩) V (Nat.le_refl _)
   unfold grR
   rw[g1]
   have hsol:=I2 hN rfl hM hF hV2 g2 g3 g4
   have hl:(cI o).length=V:=by unfold cI;simpa using g2
   have s2:=(Ms hS (v:=cI o) (by omega)).2.2.1
   rw[KH hb (LU hl λw hw=>by
    rw[GG (by omega)]
    have:=g3 w hw
    omega) hsol]at s2
   simp only[s2,if_true,Option.bind_some,Bool.not_true,Bool.false_eq_true,if_false]
theorem FnPairs_law {code:List Int} (h:wfT (.slice (.num .u8)) code):Gw code=some true:=by
 unfold Gw HW
 simp only[Option.bind_some]
 by_cases hb:(code.length:Int)>65536
 ·rw[if_pos (decide_eq_true hb)]
 ·rw[if_neg (by simpa using hb)]
  have h1:code.length<=65536:=by omega
  have h2: ∀x∈code,0<=x/\x<256:=λx hx=>by
   have:IntKind.u8.min<=x/\x<=IntKind.u8.max:=h.2 x hx
   have e1:IntKind.u8.min=0:=by decide
   have e2:IntKind.u8.max=255:=by decide
   omega
  obtain⟨c1,a,e1,_,hD⟩:=I4 (k:=0) (c:=(code,(0,0))) ⟨h1,h2,by simp,by simp⟩ (by omega)
  have ed:Dh code=some a:=by
   unfold Dh EG
   rw[e1];rfl
  have hS:=KT hD
  obtain⟨M,m1,m2,m3,m4⟩:=GY hS
  obtain⟨G,g1,g2,g3⟩:=GE hS
  have m1':Bn (a.1,(a.2.1,a.2.2))=_:=m1
  have m2':Dj (a.1,(a.2.1,a.2.2))=_:=m2
  have g1':BQ (a.1,(a.2.1,a.2.2))=_:=g1
  have g2':C5 (a.1,(a.2.1,a.2.2))=_:=g2
  have l9:=MM (a:=a) (b:=M.2) (R:=M.1) (by omega) (λr hr=>by have:=m4 r hr;omega)
  have l9:Cg Aa ((a.1,(a.2.1,a.2.2)),M.1,M.2,M.1,0)=_:=l9
  have r1:=FQ (a:=G.1) (b:=G.1) (by omega)
  simp only[ed,m1',m2',g1',g2',l9,r1,Option.bind_some,bne_self_eq_false,decide_true,Bool.not_true,Bool.false_eq_true,if_false]
  by_cases hbb:C1 a=true/\2<=a.1
  rotate_left
  ·rw[I6 hS hbb]at m1
   have:=Option.some.inj m1
   rw[←this]
   simp
  obtain⟨hnb,h2V⟩:=hbb
  obtain⟨V',n',t,u,ha,hs,hM,f1,f2,f3⟩:=I5 hS hnb h2V
  obtain⟨V,n,cs,rfl,hO⟩:=In hnb
  have hVV:V=V':=by dsimp only at ha;omega
  have hnn:n=n':=by dsimp only at hs;omega
  subst hVV
  subst hnn
  have hV:=hO.hv
  rw[f1]at m1
  have hMM:=Option.some.inj m1
  rw[f3]at g1
  have hGG:=Option.some.inj g1
  subst hMM
  have hTail:=J2 hD hO (by dsimp only at h2V;omega) hM
  rw[hGG]at hTail
  unfold I7 at hTail
  dsimp only at m3 m4
  have l27:=Mh (a:=((V:Int),((n:Int),cs))) (R:=Ydm u V n V) (g:=G.1) (b1:=G.2) (b2:=!DW (Ydm u V n V)) (b3:=true) (by omega)
  have l34:=Mi (V:=V) (n:=(n:Int)) (cs:=cs) (by omega) (R:=Ydm u V n V) (g:=G.1) (b1:=G.2) (b2:=!DW (Ydm u V n V))
  have e4:=Fv hS (p:=List.replicate V (-1)) (by simp;omega)
  have e5:=FA hS (p:=List.replicate V (-1)) (by simp;omega)
  have hpf:=J1 hnb
  unfold fsV at e4 e5
  simp only[Int.toNat_natCast]at hpf e4 e5
  rw[hnb,hpf]at e4 e5
  simp only[Bool.and_self,if_true]at e4 e5
  have l59:=Ml (g:=G.1) (b1:=G.2) (b2:=!DW (Ydm u V n V)) hD
  dsimp only at l27 l34 l59 hTail⊢
  simp only[f2,l27,l34,e4,e5,Option.bind_some,bne_self_eq_false,Bool.not_true,Bool.false_eq_true,if_false]
  cases hsl:DY V n cs (List.replicate V (-1))with
  |nil=>
   have r2:=FQ (a:= []) (b:= []) (by simp)
   simp only[r2,l59,Option.bind_some,decide_true,Bool.not_true,Bool.false_eq_true,if_false]
   exact hTail
  |cons x l=>
   have hx:x∈DY V n cs (List.replicate V (-1)):=by rw[hsl];exact List.mem_cons_self ..
   obtain⟨x1,x2,x3⟩:=(K5 hO).1 hx
   have hN:=Fh hnb
   have hsc: ∀c∈cs,∀v∈c.1,0<=v/\v<(V:Int):=λc hc v hv=>by
    obtain⟨i,hi,rfl⟩:=List.mem_iff_getElem.1 hv
    exact(hO.con c hc).sv i hi
   have hgd: ∀w,w<V->(x.map Int.toNat).getD w 0<n/\(((x.map Int.toNat).getD w 0:Nat):Int)=x.getD w 0:=λw hw=>by
    have:=x2 w hw
    rw[Ah (by simp;omega),List.getElem_map,←Ah (d:=0) (by omega)]
    omega
   have hpr:=J9 hM (x:=x.map Int.toNat) (λw hw=>(hgd w hw).1) (λc hc vs hvs=>by
    rw[Fb (ws:=x) λv hv=>?_]
    ·exact x3 c hc
    ·have:=hsc c hc v hv
     obtain⟨w,rfl⟩: ∃w:Nat,v=(w:Int):=⟨v.toNat,by omega⟩
     rw[hvs w (by omega),(hgd w (by omega)).2]
     unfold Aq
     rw[Int.toNat_natCast]) hsc
   have hin: ∀i j (hij:i<j) (hj:j<V),∃h:(Ydm u V n i).length+(j-(i+1))<(Ydm u V n V).length,(x[i]'(by omega),x[j]'(by omega))∈(Ydm u V n V)[(Ydm u V n i).length+(j-(i+1))]:=λi j hij hj=>by
    obtain⟨k1,k2⟩:=Jj (u:=u) (n:=V) (s:=n) hij hj
    refine⟨k1,?_⟩
    rw[k2]
    have a1:=hgd i (by omega)
    have a2:=hgd j hj
    have:=Kq hM.rel hij hj a1.1 a2.1 (hpr i j (by omega) hj (by omega))
    rw[a1.2,a2.2,Ah (by omega),Ah (by omega)]at this
    exact this
   have hne:DW (Ydm u V n V)=true:=by
    unfold DW
    rw[List.all_eq_true]
    intro r hr
    unfold Ydm EK at hr
    obtain⟨i,hi,hr⟩:=List.mem_flatMap.1 hr
    obtain⟨j,hj,rfl⟩:=List.mem_map.1 hr
    have hi:=List.mem_range.1 hi
    rw[List.mem_range'_1]at hj
    have a1:=hgd i hi
    have a2:=hgd j (by omega)
    have:=List.length_pos_of_mem (Kq hM.rel (i:=i) (j:=j) (by omega) (by omega) a1.1 a2.1 (hpr i j hi (by omega) (by omega)))
    exact bne_iff_ne.2 (by omega)
   have l44:=Mj (n:=(n:Int)) (V:=V) (cs:=cs) (g:=G.1) (b1:=G.2) (b2:=!DW (Ydm u V n V)) (x:=x) (R:=Ydm u V n V) (by omega) x1 (λr hr=>by have:=m4 r hr;omega) (by omega) (A:=λi=>(Ydm u V n i).length) (by simp[Ydm]) (λi hi=>HK hi) (λi hi=>by
    obtain⟨r,e⟩:=GT (u:=u) (s:=n) hi
    rw[e,List.length_append]at m3
    omega) hin
   have r2:=FQ (a:=x) (b:=x) (by omega)
   rw[hne,Bool.not_true]at l44 l59 hTail⊢
   simp only[r2,l44,l59,Option.bind_some,decide_true,Bool.not_true,Bool.not_false,Bool.false_eq_true,if_false,if_true]at hTail⊢
   exact hTail
end
end T
