/- Plain lemmas on the typed functions of the program, and the plain law of FnArcConsistency; no conditions. -/
import Derived.Test.YtgeboeaoblppcacV1
import Derived.Test.YtgeboeaoblppcacV5
import Derived.KernelRfl
import Derived.Test.YtgeboeaoblppcacOFnArcConsistency
set_option linter.all false
open Go Go.Va
namespace T
section
variable {V n:Nat} {cs:List Con} {given:List Int}
abbrev F9 (V n:Nat) (cs:List Con):NS:=(true,((n:Int),(AN cs V,Cy cs V)))
theorem JZ (h:SrchOk V n cs) (hg:given.length=V) {σ:Type} (cb:List Int->σ->Option (σ×Bool)): ∀(m d at':Nat) (tab:List Int) (s:σ),at'+m=V->m<d->tab.length=V->(∀x∈tab,0<=x/\x<256)->
    ∀s' b,Cc cb (Dw n given (okN cs) m (tab.take at')) s=some (s',b)->
    ∃tab':List Int,tab'.length=V/\(∀x∈tab',0<=x/\x<256)/\tab'.take at'=tab.take at'/\hF cb d ((at':Int),tab,s,F9 V n cs,given,())=some (tab',s',F9 V n cs,given,b):=by
  have hn:=h.hn
  have hV:=h.hv
  intro m
  induction m with
  |zero=>
    intro d a tab s ha hd ht hv s' b hf
    obtain⟨d,rfl⟩: ∃z,d=z+1:=⟨d-1,by omega⟩
    have e:tab.take a=tab:=List.take_of_length_le (by omega)
    rw[e]at hf
    simp only[Dw,Cc]at hf
    refine⟨tab,ht,hv,rfl,?_⟩
    simp only[hF,Hq]
    rw[if_pos (by simp;omega)]
    cases hc:cb tab s with
    |none=>rw[hc]at hf;exact absurd hf (by simp)
    |some q=>
      obtain⟨s1,b1⟩:=q
      rw[hc]at hf
      have:s1=s'/\b1=b:=by cases b1<;>simpa using hf
      obtain⟨rfl,rfl⟩:=this
      rfl
  |succ m ih=>
    intro d a tab s ha hd ht hv s' b hf
    obtain⟨d,rfl⟩: ∃z,d=z+1:=⟨d-1,by omega⟩
    have hat:a<V:=by omega
    have key: ∀(c x f:Nat) (tab1:List Int) (s1:σ),x+c=n->c<f->tab1.length=V->(∀x∈tab1,0<=x/\x<256)->tab1.take a=tab.take a-> ∀s' b,
        Cc cb ((List.range' x c).flatMap λx=>if D9 given (tab.take a).length x&&okN cs (tab.take a++ [(x:Int)])then Dw n given (okN cs) m (tab.take a++ [(x:Int)])else []) s1=some (s',b)->
        ∃tab':List Int,tab'.length=V/\(∀x∈tab',0<=x/\x<256)/\tab'.take a=tab.take a/\hL (hF cb d) f ((a:Int),tab1,s1,F9 V n cs,given,(),(x:Int))=some (if b then .inl (tab',s',F9 V n cs,given,())else .inr (tab',s',F9 V n cs,given,(),false)):=by
      intro c
      induction c with
      |zero=>
        intro x f tab1 s1 hx hf1 ht1 hv1 htk s' b hf2
        obtain⟨f,rfl⟩: ∃z,f=z+1:=⟨f-1,by omega⟩
        have:s1=s'/\true=b:=by simpa[Cc]using hf2
        obtain⟨rfl,rfl⟩:=this
        refine⟨tab1,ht1,hv1,htk,?_⟩
        simp only[hL]
        rw[if_pos trivial,if_neg (by simp;omega)];rfl
      |succ c ihc=>
        intro x f tab1 s1 hx hf1 ht1 hv1 htk s' b hf2
        obtain⟨f,rfl⟩: ∃z,f=z+1:=⟨f-1,by omega⟩
        have hlen:(tab.take a).length=a:=by rw[List.length_take];omega
        have hag:a<given.length:=by omega
        have hat1:a<tab1.length:=by omega
        have hsc:a<(AN cs V).length:=by rw[(EZ (cs:=cs) hat).1];exact hat
        rw[List.range'_succ,List.flatMap_cons,Es,hlen]at hf2
        rw[hlen]at ihc
        have hset:(tab1.set a (x:Int)).take (a+1)=tab.take a++ [(x:Int)]:=by
          rw[List.take_succ_eq_append_getElem (by simp;omega),List.take_set_of_le (Nat.le_refl _),List.getElem_set_self,htk]
        have hsl:(tab1.set a (x:Int)).length=V:=by simp[ht1]
        have hsv: ∀y∈tab1.set a (x:Int),0<=y/\y<256:=λy hy=>by
          rcases List.mem_or_eq_of_mem_set hy with h1|h1
          · exact hv1 y h1
          · subst h1;omega
        have hst:(tab1.set a (x:Int)).take a=tab.take a:=by rw[List.take_set_of_le (Nat.le_refl _),htk]
        have hfit:=KA (given:=given) h hat hsl hsv s1 (x:Int)
        rw[hset]at hfit
        have hw:w64 ((x:Int)+1)=((x+1:Nat):Int):=Ad (by omega)
        have hwa:w64 ((a:Int)+1)=((a+1:Nat):Int):=Ad (by omega)
        have step : D9 given a x = true → ∀ R, R = (hM Aa ((a : Int), tab1.set a (x : Int), s1, F9 V n cs, given, (), (x : Int), true, gd (AN cs V) (a : Int) [], ((gd (AN cs V) (a : Int) []).length : Int), 0)).bind (fun s4 =>
                if s4.2.2.2.2.2.2.2 then
                  (hF cb d (w64 (s4.1+1),s4.2.1,s4.2.2.1,s4.2.2.2.1,s4.2.2.2.2.1,())).bind λr5=>
                    if !r5.2.2.2.2 then
                      some (.inr (r5.1,r5.2.1,r5.2.2.1,r5.2.2.2.1,(),false))
                    else
                      hL (hF cb d) f (s4.1,r5.1,r5.2.1,r5.2.2.1,r5.2.2.2.1,(),w64 (s4.2.2.2.2.2.2.1+1))
                else
                  hL (hF cb d) f (s4.1,s4.2.1,s4.2.2.1,s4.2.2.2.1,s4.2.2.2.2.1,(),w64 (s4.2.2.2.2.2.2.1+1)))->
            ∃tab':List Int,tab'.length=V/\(∀x∈tab',0<=x/\x<256)/\tab'.take a=tab.take a/\R=some (if b then .inl (tab',s',F9 V n cs,given,())else .inr (tab',s',F9 V n cs,given,(),false)):=by
          intro hm R hR
          rw[hfit]at hR
          simp only[Option.bind_some]at hR
          rw[hm]at hf2
          cases hfi:okN cs (tab.take a++ [(x:Int)])with
          |false=>
            rw[hfi]at hf2 hR
            simp only[Bool.and_false,Bool.false_eq_true,if_false,Cc]at hf2 hR
            rw[hw]at hR
            rw[hR]
            exact ihc (x+1) f _ s1 (by omega) (by omega) hsl hsv hst s' b hf2
          |true=>
            rw[hfi]at hf2 hR
            simp only[Bool.and_true,if_true]at hf2 hR
            rw[hwa]at hR
            cases hq:Cc cb (Dw n given (okN cs) m (tab.take a++ [(x:Int)])) s1 with
            |none=>rw[hq]at hf2;exact absurd hf2 (by simp)
            |some q=>
              obtain⟨s2,b2⟩:=q
              rw[hq]at hf2
              rw[←hset]at hq
              obtain⟨tab2,h1,h2,h3,h4⟩:=ih d (a+1) _ s1 (by omega) (by omega) hsl hsv s2 b2 hq
              have h3':tab2.take a=tab.take a:=by
                have:=congrArg (List.take a) h3
                rw[List.take_take,List.take_take,Nat.min_eq_left (by omega)]at this
                rw[this,hst]
              rw[h4]at hR
              simp only[Option.bind_some]at hR
              cases b2 with
              |false=>
                have:s2=s'/\false=b:=by simpa using hf2
                obtain⟨rfl,rfl⟩:=this
                refine⟨tab2,h1,h2,h3',?_⟩
                rw[hR];rfl
              |true=>
                simp only[Bool.not_true,Bool.false_eq_true,if_false,hw]at hR
                rw[hR]
                exact ihc (x+1) f tab2 s2 (by omega) (by omega) h1 h2 h3' s' b hf2
        simp only[hL,BS,Af,hag,hat1,hsc,if_true]
        rw[if_pos (by simp;omega)]
        by_cases hc1:gd given (a:Int) 0≥0
        · rw[if_pos (decide_eq_true hc1)]
          by_cases hc2:gd given (a:Int) 0=(x:Int)
          · rw[if_neg (by simpa using hc2)]
            exact step (by unfold D9;rw[show given.getD a 0=(x:Int) from hc2];simp) _ rfl
          · rw[if_pos (by simpa using hc2),hw]
            have hm:D9 given a x=false:=by
              unfold D9
              rw[decide_eq_true (show given.getD a 0≥0 from hc1)]
              simp only[Bool.true_and,Bool.not_eq_false',bne_iff_ne];exact hc2
            rw[hm]at hf2
            simp only[Bool.false_and,Bool.false_eq_true,if_false,Cc]at hf2
            exact ihc (x+1) f tab1 s1 (by omega) (by omega) ht1 hv1 htk s' b hf2
        · rw[if_neg (by simpa using hc1)]
          exact step (by unfold D9;rw[decide_eq_false (show¬given.getD a 0≥0 from hc1)];rfl) _ rfl
    simp only[Dw]at hf
    rw[List.range_eq_range']at hf
    obtain⟨tab',h1,h2,h3,h4⟩:=key n 0 Aa tab s (by omega) (by unfold Aa;omega) ht hv rfl s' b hf
    refine⟨tab',h1,h2,h3,?_⟩
    simp only[hF,Hq]
    rw[if_neg (by simp;omega)]
    have h4:hL (hF cb d) Aa ((a:Int),tab,s,F9 V n cs,given,(),0)=_:=h4
    rw[h4]
    cases b<;>rfl
def Bu (V n:Nat) (cs:List Con) (given:List Int):List (List Int):=Dw n given (okN cs) V []
theorem JG {a b:Nat} {x:Int} (hx:x=(b:Int)):Yiv (a:Int) x=((max a b:Nat):Int):=by
 subst hx;unfold Yiv;split<;>omega
theorem GV (h:SrchOk V n cs):CG ((V:Int),((n:Int),cs))=some (F9 V n cs):=by
 have hV:=h.hv
 have hc:=h.hc
 unfold CG
 have h3:=Co cs.length (λf (o:Int×(List (List (List Int))×List (List (List ByteArray)))) i=>Bg f (o,cs,(cs.length:Int),i)) (λk=>((n:Int),(AN (cs.take k) V,Cy (cs.take k) V))) (r:=some ((n:Int),(AN cs V,Cy cs V))) (λf k hk=>?_) (λf=>?_) (n:=Aa) (by unfold Aa;omega)
 ·have e1:AN (cs.take 0) V=List.replicate V []:=by
   unfold AN Ar;simp[List.map_const']
  have e2:Cy (cs.take 0) V=List.replicate V []:=by
   unfold Cy Ar;simp[List.map_const']
  rw[e1,e2]at h3
  have h3:Bg Aa (((n:Int),(List.replicate (Int.toNat (V:Int)) ([]:List (List Int)),List.replicate (Int.toNat (V:Int)) ([]:List (List ByteArray)))),cs,(cs.length:Int),0)=_:=h3
  rw[if_pos (by unfold lim;omega),if_pos (by unfold lim;omega),h3];rfl
 ·have hcon:=h.con _ (List.getElem_mem hk)
  have hsl:=hcon.sl
  have har:=hcon.ar
  have hmany:=hcon.many
  have h7:=Co cs[k].1.length (λf (o:Int) i=>Bh f (((n:Int),(AN (cs.take k) V,Cy (cs.take k) V)),cs[k],o,cs,(cs.length:Int),(k:Int),cs[k].1,(cs[k].1.length:Int),i)) (λj=>(((cs[k].1.take j).foldl (λm v=>max m v.toNat) 0:Nat):Int)) (r:=some (((n:Int),(AN (cs.take k) V,Cy (cs.take k) V)),cs[k],(BJ cs[k]:Int),cs,(cs.length:Int),(k:Int))) (λf j hj=>?_) (λf=>?_) (n:=Aa) (by unfold Aa;omega)
  ·have hm:BJ cs[k]<V:=(Eh h (En.2 ⟨List.getElem_mem hk,rfl⟩)).2
   have h7:Bh Aa (((n:Int),(AN (cs.take k) V,Cy (cs.take k) V)),(cs[k].1,(cs[k].2.1,cs[k].2.2)),0,cs,(cs.length:Int),(k:Int),cs[k].1,(cs[k].1.length:Int),0)=_:=h7
   obtain⟨l1,e1⟩:=EZ (cs:=cs.take k) hm
   obtain⟨l2,e2⟩:=GZ (cs:=cs.take k) hm
   have hi1:inb (BJ cs[k]:Int) (AN (cs.take k) V):=by unfold inb;omega
   have hi2:inb (BJ cs[k]:Int) (Cy (cs.take k) V):=by unfold inb;omega
   have g1:gd (AN (cs.take k) V) (BJ cs[k]:Int) []=(Ar (cs.take k) (BJ cs[k])).map (·.1):=e1
   have g2:gd (Cy (cs.take k) V) (BJ cs[k]:Int) []=(Ar (cs.take k) (BJ cs[k])).map λc=>Ef c.2.2:=e2
   have hts:=FV (r:=(cs[k].2.1,cs[k].2.2)) (show cs[k].2.2.length<=1048576 by omega) (λt ht=>⟨by have:=hcon.tl t ht;omega,λy hy=>by
    obtain⟨i,hi,rfl⟩:=List.mem_iff_getElem.1 hy
    have:=hcon.tv t ht i hi
    have:=h.hn
    omega⟩)
   have hcl:(Ar (cs.take k) (BJ cs[k])).length<=40:=Nat.le_trans (List.length_filter_le _ _) (by rw[List.length_take];omega)
   have hca: ∀v,Ar (cs.take (k+1)) v=Ar (cs.take k) v++(if BJ cs[k]=v then [cs[k]]else []):=λv=>by
    unfold Ar
    rw[List.take_succ_eq_append_getElem hk,List.filter_append]
    congr 1
    by_cases e:BJ cs[k]=v<;>simp[e]
   have s1:(AN (cs.take k) V).set (BJ cs[k]) ((Ar (cs.take k) (BJ cs[k])).map (·.1)++ [cs[k].1])=AN (cs.take (k+1)) V:=by
    apply List.ext_getElem
    ·simp[AN]
    ·intro v h1 h2
     rw[List.getElem_set]
     simp only[AN,List.getElem_map,List.getElem_range,hca,List.map_append]
     by_cases e:BJ cs[k]=v
     ·rw[if_pos e,if_pos e,←e];rfl
     ·rw[if_neg e,if_neg e];simp
   have s2:(Cy (cs.take k) V).set (BJ cs[k]) ((Ar (cs.take k) (BJ cs[k])).map (λc=>Ef c.2.2)++ [Ef cs[k].2.2])=Cy (cs.take (k+1)) V:=by
    apply List.ext_getElem
    ·simp[Cy]
    ·intro v h1 h2
     rw[List.getElem_set]
     simp only[Cy,List.getElem_map,List.getElem_range,hca,List.map_append]
     by_cases e:BJ cs[k]=v
     ·rw[if_pos e,if_pos e,←e];rfl
     ·rw[if_neg e,if_neg e];simp
   simp only[Bg,Af,hk,Ae hk,h7,Option.bind_some,if_true,Af.1 hi1,Af.1 hi2,g1,g2,hts,BS,s1,s2,Ad (show k<4611686018427387904 by omega)]
   rw[if_pos (by simp;omega),if_pos (by simp;unfold lim;omega),if_pos (by simp;unfold lim;omega)]
  ·have hj':=hcon.sv j hj
   have e:=JG (a:=(cs[k].1.take j).foldl (λm v=>max m v.toNat) 0) (b:=(cs[k].1[j]).toNat) (x:=cs[k].1[j]) (by omega)
   have e2:(cs[k].1.take (j+1)).foldl (λm v=>max m v.toNat) 0=max ((cs[k].1.take j).foldl (λm v=>max m v.toNat) 0) (cs[k].1[j]).toNat:=by
    rw[List.take_succ_eq_append_getElem hj,List.foldl_append];rfl
   simp only[Bh,Af,hj,Ae hj,e,e2,if_true,Ad (show j<4611686018427387904 by omega)]
   rw[if_pos (by simp;omega)]
  ·simp only[Bh,List.take_length]
   rw[if_neg (by simp)];rfl
 ·simp only[Bg,List.take_length]
  rw[if_neg (by simp)]
def HO (t:List Int) (s:Bool×List Int):Option ((Bool×List Int)×Bool):=(BZ t (s.1,s.2)).bind λr=>some ((r.1.1,r.1.2),r.2)
theorem Hk (rec): ∀f x,Ak rec f x=hM f x
 |0,_=>rfl
 |f+1,(a,b,c,d,e,g,x,y,z,u,v)=>by simp only[Ak,hM,Hk rec f]
theorem Hj (rec): ∀f x,Ai rec f x=hL rec f x
 |0,_=>rfl
 |f+1,(a,b,c,d,e,g,x)=>by simp only[Ai,hL,Hj rec f,Hk]
theorem IU: ∀d x,Am d x=hF HO d x
 |0,_=>rfl
 |d+1,(a,t,(s1,s2),ps,g,u)=>by
  have e:Am d=hF HO d:=funext λx=>IU d x
  simp only[Am,hF,Hq,AT,Hj,e]
  split
  ·unfold HO;cases BZ t (s1,s2)<;>rfl
  ·congr 1;funext z;cases z<;>rfl
def G7 (l:List (List Int)):Bool×List Int:=match l with| []=>(false,[])|t::_=>(true,t)
theorem Hn (h:SrchOk V n cs) (hg:given.length=V):Dd ((V:Int),((n:Int),cs)) given=some (G7 (Bu V n cs given)):=by
 have hV:=h.hv
 unfold Dd
 have e1:=GV h
 have hcb: ∀t s,t.length<=1048576->HO t s=some ((true,t),false):=λt s ht=>by
  unfold HO BZ FI
  rw[if_pos (by simp;unfold lim;omega)];rfl
 have hfold:Cc HO (Bu V n cs given) (false,[])=some (G7 (Bu V n cs given),match Bu V n cs given with| []=>true|_=>false):=by
  cases hs:Bu V n cs given with
  |nil=>rfl
  |cons t l=>
   have ht:=(H7 (n:=n) (given:=given) (ok:=okN cs) V [] t (by unfold Bu at hs;rw[hs];exact List.mem_cons_self ..)).1
   simp only[Cc]
   rw[hcb t _ (by simp at ht;omega)];rfl
 obtain⟨tab',_,_,_,h4⟩:=JZ h hg HO V Aa 0 (List.replicate V 0) (false,[]) (by omega) (by unfold Aa;omega) (by simp) (λx hx=>by rw[List.eq_of_mem_replicate hx];omega) _ _ (by simpa[Bu]using hfold)
 have h4:Am Aa (0,List.replicate V 0,(false,[]),F9 V n cs,given,())=_:=(IU Aa _).trans h4
 simp only[e1,Option.bind_some]
 unfold Bt
 rw[if_pos (by unfold lim;omega)]
 have hr:List.replicate (Int.toNat (given.length:Int)) (0:Int)=List.replicate V 0:=by rw[hg];rfl
 rw[hr,h4];rfl
end
end T
open Go Go.Va
namespace T
abbrev S19:=List (List Int)×Int×Int×Bool
def Er (s:S19):Bool:=s.2.2.2&&decide (s.2.1>0)
def HA (t:List Int) (s:S19):Option (S19×Bool):=
 let s':S19:=(if decide ((s.1.length:Int)<s.2.2.1)then s.1++ [t]else s.1,s.2.1+1,s.2.2.1,s.2.2.2)
 some (s',!Er s')
theorem GQ: ∀(l:List (List Int)) (s s':S19) (b:Bool),Cc HA l s=some (s',b)->s.2.1<=s'.2.1/\s'.2.1<=s.2.1+l.length/\s'.1.length<=s.1.length+l.length/\s'.2.2=s.2.2/\(Er s=false->b=!Er s')
 | [],s,s',b,h=>by
  have:s=s'/\true=b:=by simpa[Cc]using h
  obtain⟨rfl,rfl⟩:=this
  exact⟨by omega,by simp,by simp,rfl,λh=>by simp[h]⟩
 |t::l,s,s',b,h=>by
  simp only[Cc,HA]at h
  generalize hs1:((if decide ((s.1.length:Int)<s.2.2.1)then s.1++ [t]else s.1,s.2.1+1,s.2.2.1,s.2.2.2):S19)=s1 at h
  have h1:s1.2.1=s.2.1+1:=by rw[←hs1]
  have h2:s1.1.length<=s.1.length+1:=by
   rw[←hs1]
   show(if decide ((s.1.length:Int)<s.2.2.1)then s.1++ [t]else s.1).length<=_
   split<;>simp
  have h3:s1.2.2=s.2.2:=by rw[←hs1]
  cases hb:Er s1 with
  |true=>
   rw[hb]at h
   have:s1=s'/\false=b:=by simpa using h
   obtain⟨rfl,rfl⟩:=this
   rw[List.length_cons]
   exact⟨by omega,by omega,by omega,h3,λ_=>by rw[hb];rfl⟩
  |false=>
   rw[hb]at h
   obtain⟨g1,g2,g3,g4,g5⟩:=GQ l s1 s' b h
   rw[List.length_cons]
   exact⟨by omega,by push_cast;omega,by omega,g4.trans h3,λ_=>g5 hb⟩
theorem GR: ∀(l:List (List Int)) (s:S19),∃q,Cc HA l s=some q
 | [],s=>⟨_,rfl⟩
 |t::l,s=>by
  simp only[Cc,HA]
  generalize ((if decide ((s.1.length:Int)<s.2.2.1)then s.1++ [t]else s.1,s.2.1+1,s.2.2.1,s.2.2.2):S19)=s1
  cases hb:Er s1 with
  |true=>exact⟨_,rfl⟩
  |false=>exact GR l s1
section
variable {V n:Nat} {cs:List Con} {given:List Int}
def atN (cs:List Con) (V:Nat):List (List Con):=(List.range V).map (Ar cs)
theorem HY {v:Nat} (hv:v<V):(atN cs V).length=V/\(atN cs V).getD v []=Ar cs v:=by
 refine⟨by simp[atN],?_⟩
 rw[Ab (by simp[atN];exact hv)];simp[atN]
theorem JJ (h:SrchOk V n cs):Ez (V:Int) cs=some (atN cs V):=by
 have hV:=h.hv
 have hc:=h.hc
 unfold Ez
 rw[if_pos (by unfold lim;omega)]
 have h3:=Co cs.length (λf (o:List (List Con)) i=>B7 f (cs,o,i)) (λk=>atN (cs.take k) V) (r:=some (atN cs V)) (λf k hk=>?_) (λf=>?_) (n:=Aa) (by unfold Aa;omega)
 ·have e1:atN (cs.take 0) V=List.replicate V []:=by
   unfold atN
   have:Ar (cs.take 0)=λ_=> []:=by funext v;simp[Ar]
   rw[this];simp[List.map_const']
  rw[e1]at h3
  have h3:B7 Aa (cs,List.replicate (Int.toNat (V:Int)) ([]:List Con),0)=_:=h3
  rw[h3];rfl
 ·have hcon:=h.con _ (List.getElem_mem hk)
  have hsl:=hcon.sl
  have har:=hcon.ar
  have h7:=Co cs[k].1.length (λf (o:Int) i=>B8 f (cs,atN (cs.take k) V,(k:Int),o,i)) (λj=>(((cs[k].1.take j).foldl (λm v=>max m v.toNat) 0:Nat):Int)) (r:=some (cs,atN (cs.take k) V,(k:Int),(BJ cs[k]:Int))) (λf j hj=>?_) (λf=>?_) (n:=Aa) (by unfold Aa;omega)
  ·have hm:BJ cs[k]<V:=(Eh h (En.2 ⟨List.getElem_mem hk,rfl⟩)).2
   have h7:B8 Aa (cs,atN (cs.take k) V,(k:Int),0,0)=_:=h7
   obtain⟨l1,e1⟩:=HY (cs:=cs.take k) hm
   have hi1:inb (BJ cs[k]:Int) (atN (cs.take k) V):=by unfold inb;omega
   have g1:gd (atN (cs.take k) V) (BJ cs[k]:Int) []=Ar (cs.take k) (BJ cs[k]):=e1
   have hcl:(Ar (cs.take k) (BJ cs[k])).length<=40:=Nat.le_trans (List.length_filter_le _ _) (by rw[List.length_take];omega)
   have hca: ∀v,Ar (cs.take (k+1)) v=Ar (cs.take k) v++(if BJ cs[k]=v then [cs[k]]else []):=λv=>by
    unfold Ar
    rw[List.take_succ_eq_append_getElem hk,List.filter_append]
    congr 1
    by_cases e:BJ cs[k]=v<;>simp[e]
   have s1:(atN (cs.take k) V).set (BJ cs[k]) (Ar (cs.take k) (BJ cs[k])++ [cs[k]])=atN (cs.take (k+1)) V:=by
    apply List.ext_getElem
    ·simp[atN]
    ·intro v h1 h2
     rw[List.getElem_set]
     simp only[atN,List.getElem_map,List.getElem_range,hca]
     by_cases e:BJ cs[k]=v
     ·rw[if_pos e,if_pos e,←e]
     ·rw[if_neg e,if_neg e];simp
   simp only[B7,Af,hk,Ae hk,h7,Option.bind_some,if_true,Af.1 hi1,g1,BS,s1,Ad (show k<4611686018427387904 by omega)]
   rw[if_pos (by simp;omega),if_pos (by simp;unfold lim;omega)]
  ·have hj':=hcon.sv j hj
   have hjx:cs[k].1[j]=(((cs[k].1[j]).toNat:Nat):Int):=by omega
   have e2:(cs[k].1.take (j+1)).foldl (λm v=>max m v.toNat) 0=max ((cs[k].1.take j).foldl (λm v=>max m v.toNat) 0) (cs[k].1[j]).toNat:=by
    rw[List.take_succ_eq_append_getElem hj,List.foldl_append];rfl
   have e:Cp (((cs[k].1.take j).foldl (λm v=>max m v.toNat) 0:Nat):Int) cs[k].1[j]=some ((max ((cs[k].1.take j).foldl (λm v=>max m v.toNat) 0) (cs[k].1[j]).toNat:Nat):Int):=by
    rw[hjx];exact Gc _ _
   simp only[B8,Af,hk,Ae hk,hj,Ae hj,e,e2,if_true,Option.bind_some,Ad (show j<4611686018427387904 by omega)]
   rw[if_pos (by simp;omega)]
  ·simp only[B8,Af,hk,Ae hk,List.take_length,if_true]
   rw[if_neg (by simp)];rfl
 ·simp only[B7,List.take_length]
  rw[if_neg (by simp)]
theorem JD (h:SrchOk V n cs) (rec:Int×List (List Con)×List Int×List Int×S19->Option S19) {v:Nat} (hv:v<V) {next:List Int} (hl:next.length=v+1) {pre:List Int} {s s0:S19} {x:Int}:
  AA rec Aa ((n:Int),atN cs V,given,pre,s,s0,(v:Int),x,next,true,0)=some ((n:Int),atN cs V,given,pre,s,s0,(v:Int),x,next,okN cs next):=by
 obtain⟨l1,e1⟩:=HY (cs:=cs) hv
 have hiv:inb (v:Int) (atN cs V):=by unfold inb;omega
 have hg:gd (atN cs V) (v:Int) []=Ar cs v:=e1
 have hcl:(Ar cs v).length<=40:=Nat.le_trans (List.length_filter_le _ _) h.hc
 have key: ∀(d k f:Nat) (g:Bool),k+d=(Ar cs v).length->d<f->AA rec f ((n:Int),atN cs V,given,pre,s,s0,(v:Int),x,next,g,(k:Int))=some ((n:Int),atN cs V,given,pre,s,s0,(v:Int),x,next,g&&((Ar cs v).drop k).all (Ei next)):=by
  intro d
  induction d with
  |zero=>
   intro k f g hk hf
   obtain⟨f,rfl⟩: ∃z,f=z+1:=⟨f-1,by omega⟩
   have:k=(Ar cs v).length:=by omega
   subst this
   simp only[AA,hiv,hg,if_true,List.drop_length]
   rw[if_neg (by simp)];simp
  |succ d ih=>
   intro k f g hk hf
   obtain⟨f,rfl⟩: ∃z,f=z+1:=⟨f-1,by omega⟩
   have hkl:k<(Ar cs v).length:=by omega
   simp only[AA,hiv,hg,if_true]
   rw[if_pos (by simp;omega)]
   cases g with
   |false=>simp
   |true=>
    have hcon:=(Eh h (List.getElem_mem hkl)).1
    have hs:=E2 hcon (vs:=next) (by omega)
    rw[List.drop_eq_getElem_cons hkl,List.all_cons]
    simp only[if_true,Af,hkl,Ae hkl,hs,Option.bind_some,Ad (show k<4611686018427387904 by omega)]
    rw[ih (k+1) f _ (by omega) (by omega),Bool.true_and]
 have:=key (Ar cs v).length 0 Aa true (by omega) (by unfold Aa;omega)
 have e2:okN cs next=(Ar cs v).all (Ei next):=by unfold okN;rw[hl];rfl
 rw[e2]
 simpa using this
theorem JC (h:SrchOk V n cs) (hg:given.length=V): ∀(m d:Nat) (pre:List Int) (s:S19),pre.length+m=V->m<d->Er s=false->0<=s.2.1->s.2.2.1<=1000000->s.2.1+(Dw n given (okN cs) m pre).length<=4611686018427387904->
    ∀s' b,Cc HA (Dw n given (okN cs) m pre) s=some (s',b)->Ap d ((n:Int),atN cs V,given,pre,s)=some s':=by
  have hn:=h.hn
  have hV:=h.hv
  intro m
  induction m with
  |zero=>
    intro d pre s hpre hd hst h0 hr1 hr2 s' b hf
    obtain⟨d,rfl⟩: ∃z,d=z+1:=⟨d-1,by omega⟩
    have hlN:(atN cs V).length=V:=by simp[atN]
    simp only[Dw,Cc,HA]at hf
    simp only[Ap,DS]
    simp only[Dw,List.length_singleton]at hr2
    have hs':s'=(if decide ((s.1.length:Int)<s.2.2.1)then s.1++ [pre]else s.1,s.2.1+1,s.2.2.1,s.2.2.2):=by
      cases hb:Er ((if decide ((s.1.length:Int)<s.2.2.1)then s.1++ [pre]else s.1,s.2.1+1,s.2.2.1,s.2.2.2):S19)<;>rw[hb]at hf<;>simp at hf<;>rw[←hf.1]<;>simp
    have hw:w64 (s.2.1+1)=s.2.1+1:=AP (by omega) (by omega)
    rw[if_pos (by simp;omega),hs',hw,DI (by omega)]
    by_cases hc:(s.1.length:Int)<s.2.2.1
    · rw[if_pos (decide_eq_true hc),if_pos (decide_eq_true hc)]
      simp only[Option.bind_some]
      rw[if_pos (by rw[List.length_singleton];unfold lim;omega)]
    · rw[if_neg (by simpa using hc),if_neg (by simpa using hc)]
  |succ m ih=>
    intro d pre s hpre hd hst h0 hr1 hr2 s' b hf
    obtain⟨d,rfl⟩: ∃z,d=z+1:=⟨d-1,by omega⟩
    have hat:pre.length<V:=by omega
    have key: ∀(c x f:Nat) (s1:S19),x+c=n->c<f->Er s1=false->0<=s1.2.1->
        s1.2.2.1<=1000000->
        s1.2.1+((List.range' x c).flatMap λx=>if D9 given pre.length x&&okN cs (pre++ [(x:Int)])then Dw n given (okN cs) m (pre++ [(x:Int)])else []).length<=4611686018427387904-> ∀s' b,
        Cc HA ((List.range' x c).flatMap λx=>if D9 given pre.length x&&okN cs (pre++ [(x:Int)])then Dw n given (okN cs) m (pre++ [(x:Int)])else []) s1=some (s',b)->
        An (Ap d) f ((n:Int),atN cs V,given,pre,s1,([],(0,(0,false))),(pre.length:Int),(x:Int))=some (s',([],(0,(0,false)))):=by
      intro c
      induction c with
      |zero=>
        intro x f s1 hx hf1 hst1 h01 hr1 hr2 s' b hf2
        obtain⟨f,rfl⟩: ∃z,f=z+1:=⟨f-1,by omega⟩
        have:s1=s'/\true=b:=by simpa[Cc]using hf2
        obtain⟨rfl,rfl⟩:=this
        simp only[An]
        rw[if_neg (by simp;omega)]
      |succ c ihc=>
        intro x f s1 hx hf1 hst1 h01 hr1 hr2 s' b hf2
        obtain⟨f,rfl⟩: ∃z,f=z+1:=⟨f-1,by omega⟩
        have hag:pre.length<given.length:=by omega
        rw[List.range'_succ,List.flatMap_cons,Es]at hf2
        rw[List.range'_succ,List.flatMap_cons,List.length_append]at hr2
        have hol:=JD (given:=given) (pre:=pre) (s:=s1) (s0:=([],(0,(0,false)))) (x:=(x:Int)) h (Ap d) hat (next:=pre++ [(x:Int)]) (by simp)
        have hw:w64 ((x:Int)+1)=((x+1:Nat):Int):=Ad (by omega)
        have hover: ∀(z:S19) (f' y:Nat),0<f'->Er z=true->An (Ap d) f' ((n:Int),atN cs V,given,pre,z,([],(0,(0,false))),(pre.length:Int),(y:Int))=some (z,([],(0,(0,false)))):=λz f' y hf' hz=>by
          obtain⟨f',rfl⟩: ∃q,f'=q+1:=⟨f'-1,by omega⟩
          unfold Er at hz
          rw[Bool.and_eq_true]at hz
          simp only[An,hz.1,hz.2,if_true,Bool.not_true,Bool.false_eq_true,if_false]
          split<;>(obtain⟨z1,z2,z3,z4⟩:=z;dsimp only at hz⊢;rw[hz.1])
        have step : D9 given pre.length x = true → ∀ R, R = (AA (Ap d) Aa ((n : Int), atN cs V, given, pre, (s1.1, (s1.2.1, (s1.2.2.1, s1.2.2.2))), ([], (0, (0, false))), (pre.length : Int), (x : Int), pre ++ [(x : Int)], true, 0)).bind (fun s6 =>
                  if s6.2.2.2.2.2.2.2.2.2 then
                    (Ap d (s6.1,s6.2.1,s6.2.2.1,s6.2.2.2.2.2.2.2.2.1,(s6.2.2.2.2.1.1,(s6.2.2.2.2.1.2.1,(s6.2.2.2.2.1.2.2.1,s6.2.2.2.2.1.2.2.2))))).bind λr7=>
                      An (Ap d) f (s6.1,s6.2.1,s6.2.2.1,s6.2.2.2.1,(r7.1,(r7.2.1,(r7.2.2.1,r7.2.2.2))),(s6.2.2.2.2.2.1.1,(s6.2.2.2.2.2.1.2.1,(s6.2.2.2.2.2.1.2.2.1,s6.2.2.2.2.2.1.2.2.2))),s6.2.2.2.2.2.2.1,w64 (s6.2.2.2.2.2.2.2.1+1))
                  else
                    An (Ap d) f (s6.1,s6.2.1,s6.2.2.1,s6.2.2.2.1,(s6.2.2.2.2.1.1,(s6.2.2.2.2.1.2.1,(s6.2.2.2.2.1.2.2.1,s6.2.2.2.2.1.2.2.2))),(s6.2.2.2.2.2.1.1,(s6.2.2.2.2.2.1.2.1,(s6.2.2.2.2.2.1.2.2.1,s6.2.2.2.2.2.1.2.2.2))),s6.2.2.2.2.2.2.1,w64 (s6.2.2.2.2.2.2.2.1+1)))->
            R=some (s',([],(0,(0,false)))):=by
          intro hm R hR
          have hol:AA (Ap d) Aa ((n:Int),atN cs V,given,pre,(s1.1,(s1.2.1,(s1.2.2.1,s1.2.2.2))),([],(0,(0,false))),(pre.length:Int),(x:Int),pre++ [(x:Int)],true,0)=_:=hol
          rw[hol]at hR
          simp only[Option.bind_some,hw]at hR
          rw[hm]at hf2 hr2
          cases hfi:okN cs (pre++ [(x:Int)])with
          |false=>
            rw[hfi]at hf2 hr2 hR
            simp only[Bool.and_false,Bool.false_eq_true,if_false,Cc,List.length_nil,Nat.zero_add]at hf2 hr2 hR
            rw[hR]
            exact ihc (x+1) f s1 (by omega) (by omega) hst1 h01 hr1 hr2 s' b hf2
          |true=>
            rw[hfi]at hf2 hr2 hR
            simp only[Bool.and_true,if_true]at hf2 hr2 hR
            obtain⟨⟨s2,b2⟩,hq⟩:=GR (Dw n given (okN cs) m (pre++ [(x:Int)])) s1
            obtain⟨g1,g2,g3,g4,g5⟩:=GQ _ _ _ _ hq
            have g5:=g5 hst1
            rw[hq]at hf2
            have hrec:=ih d (pre++ [(x:Int)]) s1 (by simp;omega) (by omega) hst1 h01 (by omega) (by push_cast at hr2;omega) s2 b2 hq
            have hrec:Ap d ((n:Int),atN cs V,given,pre++ [(x:Int)],(s1.1,(s1.2.1,(s1.2.2.1,s1.2.2.2))))=some s2:=hrec
            rw[hrec]at hR
            simp only[Option.bind_some]at hR
            cases hb2:Er s2 with
            |true=>
              rw[hb2]at g5
              subst g5
              have:s2=s'/\false=b:=by simpa using hf2
              obtain⟨rfl,rfl⟩:=this
              rw[hR]
              exact hover s2 f (x+1) (by omega) hb2
            |false=>
              rw[hb2]at g5
              subst g5
              rw[hR]
              exact ihc (x+1) f s2 (by omega) (by omega) hb2 (by omega) (by rw[g4];exact hr1) (by push_cast at hr2;omega) s' b hf2
        have hlim:pre.length+ [(x:Int)].length<=lim:=by rw[List.length_singleton];unfold lim;omega
        have body: ∀R,R=(if inb (pre.length:Int) given then
            if decide ((gd given (pre.length:Int) 0)≥0)then
              if inb (pre.length:Int) given then
                if(gd given (pre.length:Int) 0) !=(x:Int)then
                  An (Ap d) f ((n:Int),atN cs V,given,pre,(s1.1,(s1.2.1,(s1.2.2.1,s1.2.2.2))),([],(0,(0,false))),(pre.length:Int),w64 ((x:Int)+1))
                else
                  (BT pre).bind λr2=>
                    if r2.length+ [(x:Int)].length<=lim then
                      (AA (Ap d) Aa ((n:Int),atN cs V,given,pre,(s1.1,(s1.2.1,(s1.2.2.1,s1.2.2.2))),([],(0,(0,false))),(pre.length:Int),(x:Int),r2++ [(x:Int)],true,0)).bind (λs6=>
                        if s6.2.2.2.2.2.2.2.2.2 then
                          (Ap d (s6.1,s6.2.1,s6.2.2.1,s6.2.2.2.2.2.2.2.2.1,(s6.2.2.2.2.1.1,(s6.2.2.2.2.1.2.1,(s6.2.2.2.2.1.2.2.1,s6.2.2.2.2.1.2.2.2))))).bind λr7=>
                            An (Ap d) f (s6.1,s6.2.1,s6.2.2.1,s6.2.2.2.1,(r7.1,(r7.2.1,(r7.2.2.1,r7.2.2.2))),(s6.2.2.2.2.2.1.1,(s6.2.2.2.2.2.1.2.1,(s6.2.2.2.2.2.1.2.2.1,s6.2.2.2.2.2.1.2.2.2))),s6.2.2.2.2.2.2.1,w64 (s6.2.2.2.2.2.2.2.1+1))
                        else
                          An (Ap d) f (s6.1,s6.2.1,s6.2.2.1,s6.2.2.2.1,(s6.2.2.2.2.1.1,(s6.2.2.2.2.1.2.1,(s6.2.2.2.2.1.2.2.1,s6.2.2.2.2.1.2.2.2))),(s6.2.2.2.2.2.1.1,(s6.2.2.2.2.2.1.2.1,(s6.2.2.2.2.2.1.2.2.1,s6.2.2.2.2.2.1.2.2.2))),s6.2.2.2.2.2.2.1,w64 (s6.2.2.2.2.2.2.2.1+1)))
                    else none
              else none
            else
              (BT pre).bind λr2=>
                if r2.length+ [(x:Int)].length<=lim then
                  (AA (Ap d) Aa ((n:Int),atN cs V,given,pre,(s1.1,(s1.2.1,(s1.2.2.1,s1.2.2.2))),([],(0,(0,false))),(pre.length:Int),(x:Int),r2++ [(x:Int)],true,0)).bind (λs6=>
                    if s6.2.2.2.2.2.2.2.2.2 then
                      (Ap d (s6.1,s6.2.1,s6.2.2.1,s6.2.2.2.2.2.2.2.2.1,(s6.2.2.2.2.1.1,(s6.2.2.2.2.1.2.1,(s6.2.2.2.2.1.2.2.1,s6.2.2.2.2.1.2.2.2))))).bind λr7=>
                        An (Ap d) f (s6.1,s6.2.1,s6.2.2.1,s6.2.2.2.1,(r7.1,(r7.2.1,(r7.2.2.1,r7.2.2.2))),(s6.2.2.2.2.2.1.1,(s6.2.2.2.2.2.1.2.1,(s6.2.2.2.2.2.1.2.2.1,s6.2.2.2.2.2.1.2.2.2))),s6.2.2.2.2.2.2.1,w64 (s6.2.2.2.2.2.2.2.1+1))
                    else
                      An (Ap d) f (s6.1,s6.2.1,s6.2.2.1,s6.2.2.2.1,(s6.2.2.2.2.1.1,(s6.2.2.2.2.1.2.1,(s6.2.2.2.2.1.2.2.1,s6.2.2.2.2.1.2.2.2))),(s6.2.2.2.2.2.1.1,(s6.2.2.2.2.2.1.2.1,(s6.2.2.2.2.2.1.2.2.1,s6.2.2.2.2.2.1.2.2.2))),s6.2.2.2.2.2.2.1,w64 (s6.2.2.2.2.2.2.2.1+1)))
                else none
          else none)->R=some (s',([],(0,(0,false)))):=by
          intro R hR
          rw[DI (show pre.length<=1099511627775 by omega)]at hR
          simp only[Af,hag,if_true,Option.bind_some]at hR
          rw[if_pos hlim]at hR
          by_cases hc1:gd given (pre.length:Int) 0≥0
          · rw[if_pos (decide_eq_true hc1)]at hR
            by_cases hc2:gd given (pre.length:Int) 0=(x:Int)
            · rw[if_neg (by simpa using hc2)]at hR
              exact step (by unfold D9;rw[show given.getD pre.length 0=(x:Int) from hc2];simp) R hR
            · rw[if_pos (by simpa using hc2),hw]at hR
              have hm:D9 given pre.length x=false:=by
                unfold D9
                rw[decide_eq_true (show given.getD pre.length 0≥0 from hc1)]
                simp only[Bool.true_and,Bool.not_eq_false',bne_iff_ne];exact hc2
              rw[hm]at hf2 hr2
              simp only[Bool.false_and,Bool.false_eq_true,if_false,Cc,List.length_nil,Nat.zero_add]at hf2 hr2
              rw[hR]
              exact ihc (x+1) f s1 (by omega) (by omega) hst1 h01 hr1 hr2 s' b hf2
          · rw[if_neg (by simpa using hc1)]at hR
            exact step (by unfold D9;rw[decide_eq_false (show¬given.getD pre.length 0≥0 from hc1)];rfl) R hR
        simp only[An]
        rw[if_pos (by simp;omega)]
        cases hone:s1.2.2.2 with
        |true=>
          have hcnt:decide (s1.2.1>0)=false:=by unfold Er at hst1;rw[hone]at hst1;simpa using hst1
          rw[hcnt]
          simp only[if_true,Bool.not_false]
          refine body _ ?_
          rw[hone]
        |false=>
          simp only[Bool.false_eq_true,if_false,Bool.not_false,if_true]
          refine body _ ?_
          rw[hone]
    simp only[Dw]at hf hr2
    rw[List.range_eq_range']at hf hr2
    have h4:=key n 0 Aa s (by omega) (by unfold Aa;omega) hst h0 hr1 hr2 s' b hf
    have hlN:(atN cs V).length=V:=by simp[atN]
    simp only[Ap,DS]
    rw[if_neg (by simp;omega)]
    have h4:An (Ap d) Aa ((n:Int),atN cs V,given,pre,(s.1,(s.2.1,(s.2.2.1,s.2.2.2))),([],(0,(0,false))),(pre.length:Int),0)=_:=h4
    rw[h4];rfl
theorem Ff (h:SrchOk V n cs) (hg:given.length=V) {cs0:List Con} {most:Int} {one:Bool} (hm:most<=1000000) {s':S19} {b:Bool} (hf:Cc HA (Bu V n cs given) ([],0,most,one)=some (s',b)):
  CT ((V:Int),((n:Int),cs0)) cs given most one=some s':=by
 have hV:=h.hv
 have hn:=h.hn
 unfold CT
 have hl:(Bu V n cs given).length<=4^9:=by
  refine Nat.le_trans (H6 (n:=n) (given:=given) V []) ?_
  exact Nat.le_trans (Nat.pow_le_pow_left hn.2 V) (Nat.pow_le_pow_right (by omega) hV)
 have:=JC h hg V Aa [] ([],0,most,one) (by simp) (by unfold Aa;omega) (by simp[Er]) (by simp) hm (by
  have:(4:Nat)^9=262144:=by decide
  rw[this]at hl
  have:(Dw n given (okN cs) V []).length=(Bu V n cs given).length:=rfl
  dsimp only;omega) s' b hf
 simp only[JJ h,Option.bind_some,this]
end
end T
set_option linter.unusedVariables false
open Go Go.Va
namespace T
def B9 (c:(List Int)×Int×Int):Option (((List Int)×Int×Int)×Int):=
 if decide (c.2.1<(c.1.length:Int))then
 if inb c.2.1 c.1 then
 if decide ((w64 (c.2.1+1))<=(c.1.length:Int))then
 some ((c.1,(w64 (c.2.1+1),IntKind.wrap .u64 ((IntKind.wrap .u64 ((IntKind.wrap .u64 (c.2.2*6364136223846793005))+(IntKind.wrap .u64 (w64 (gd c.1 c.2.1 0)))))+550289))),w64 (gd c.1 c.2.1 0))
 else
 if(0:Int)<=40 then
 some ((c.1,(w64 (c.2.1+1),IntKind.wrap .u64 ((IntKind.wrap .u64 ((IntKind.wrap .u64 (c.2.2*6364136223846793005))+(IntKind.wrap .u64 (w64 (gd c.1 c.2.1 0)))))+550289))),w64 (Yil .u64 (YiD .u64 (IntKind.wrap .u64 ((IntKind.wrap .u64 ((IntKind.wrap .u64 (c.2.2*6364136223846793005))+(IntKind.wrap .u64 (w64 (gd c.1 c.2.1 0)))))+550289)) 40) 255))
 else none
 else none
 else
 if decide ((w64 (c.2.1+1))<=(c.1.length:Int))then
 some ((c.1,(w64 (c.2.1+1),IntKind.wrap .u64 ((IntKind.wrap .u64 ((IntKind.wrap .u64 (c.2.2*6364136223846793005))+(IntKind.wrap .u64 (0))))+550289))),0)
 else
 if(0:Int)<=40 then
 some ((c.1,(w64 (c.2.1+1),IntKind.wrap .u64 ((IntKind.wrap .u64 ((IntKind.wrap .u64 (c.2.2*6364136223846793005))+(IntKind.wrap .u64 (0))))+550289))),w64 (Yil .u64 (YiD .u64 (IntKind.wrap .u64 ((IntKind.wrap .u64 ((IntKind.wrap .u64 (c.2.2*6364136223846793005))+(IntKind.wrap .u64 (0))))+550289)) 40) 255))
 else none
def Ag (c:(List Int)×Int×Int) (n_:Int):Option (((List Int)×Int×Int)×Int):=
 if decide (n_<=1)then
 some ((c.1,(c.2.1,c.2.2)),0)
 else
 (B9 (c.1,(c.2.1,c.2.2))).bind λr1=>
 if decide (n_>200)then
 (B9 (r1.1.1,(r1.1.2.1,r1.1.2.2))).bind λr2=>
 if n_≠0 then
 some ((r2.1.1,(r2.1.2.1,r2.1.2.2)),Int.tmod (w64 ((w64 (r1.2*256))+r2.2)) n_)
 else none
 else
 if n_≠0 then
 some ((r1.1.1,(r1.1.2.1,r1.1.2.2)),Int.tmod r1.2 n_)
 else none
def Ac (c:(List Int)×Int×Int) (list:List Int):Option (((List Int)×Int×Int)×Int):=
 (Ag (c.1,(c.2.1,c.2.2)) (list.length:Int)).bind λr1=>
 if inb r1.2 list then
 some ((r1.1.1,(r1.1.2.1,r1.1.2.2)),gd list r1.2 0)
 else none
def AB (c:(List Int)×Int×Int) (n_:Int):Option (((List Int)×Int×Int)×Bool):=
 (Ag (c.1,(c.2.1,c.2.2)) n_).bind λr1=>
 some ((r1.1.1,(r1.1.2.1,r1.1.2.2)),r1.2==0)
end T
open Go Go.Va
namespace T
abbrev Dy:=List Int×Int×Int
def Cur (k:Nat) (c:Dy):Prop:=c.1.length<=65536/\(∀x∈c.1,0<=x/\x<256)/\0<=c.2.1/\c.2.1<=(k:Int)
theorem J7 (x:Int):0<=w64 (Yil .u64 x 255)/\w64 (Yil .u64 x 255)<256:=by
 have h1:(BitVec.ofInt 64 x&&&BitVec.ofInt 64 255).toNat<=255:=by
  rw[BitVec.toNat_and]
  have:(BitVec.ofInt 64 255).toNat=255:=by decide
  rw[this]
  exact Nat.and_le_right
 have h2:Yil .u64 x 255=((BitVec.ofInt 64 x&&&BitVec.ofInt 64 255).toNat:Int):=by
  unfold Yil
  have e: ∀n:Nat,n<=255->IntKind.wrap .u64 (n:Int)=(n:Int):=λn hn=>by
   simp[IntKind.wrap,IntKind.bits,IntKind.signed]
   omega
  exact e _ h1
 rw[h2,AP (by omega) (by omega)]
 omega
theorem Ic {k:Nat} {c:Dy} (h:Cur k c) (hk:k<=1000000000): ∃c' x,B9 c=some (c',x)/\Cur (k+1) c'/\0<=x/\x<256:=by
 obtain⟨code,at',seed⟩:=c
 obtain⟨h1,h2,h3,h4⟩:=h
 dsimp only at h1 h2 h3 h4
 have hw:w64 (at'+1)=at'+1:=AP (by omega) (by omega)
 have hC: ∀s,Cur (k+1) (code,(at'+1,s)):=λs=>⟨h1,h2,by dsimp only;omega,by dsimp only;omega⟩
 unfold B9
 simp only[hw]
 by_cases hc:at'<(code.length:Int)
 ·have hin:inb at' code:=⟨h3,hc⟩
  have hle:at'+1<=(code.length:Int):=by omega
  have hb:0<=gd code at' 0/\gd code at' 0<256:=by
   have:gd code at' 0=code.getD at'.toNat 0:=rfl
   rw[this,Ab (by omega)]
   exact h2 _ (List.getElem_mem _)
  rw[if_pos (decide_eq_true hc),if_pos hin,if_pos (decide_eq_true hle)]
  exact⟨_,_,rfl,hC _,by rw[AP (by omega) (by omega)];exact hb⟩
 ·have hle: ¬at'+1<=(code.length:Int):=by omega
  rw[if_neg (by simpa using hc),if_neg (by simpa using hle),if_pos (by decide)]
  exact⟨_,_,rfl,hC _,J7 _⟩
theorem Dr {k:Nat} {c:Dy} (h:Cur k c) (hk:k<=100000000) (n:Int) (hn:n<=1000000): ∃c' x,Ag c n=some (c',x)/\Cur (k+2) c'/\0<=x/\(1<=n->x<n)/\(n<=1->x=0):=by
 have mono: ∀ {c:Dy} {i j:Nat},i<=j->Cur i c->Cur j c:=λhij ⟨a,b,d,e⟩=>⟨a,b,d,by omega⟩
 unfold Ag
 by_cases h1:n<=1
 ·rw[if_pos (decide_eq_true h1)]
  exact⟨_,_,rfl,mono (by omega) h,by omega,λ_=>by omega,λ_=>rfl⟩
 ·rw[if_neg (by simpa using h1)]
  obtain⟨c1,x1,e1,g1,a1,b1⟩:=Ic h (by omega)
  have e1:B9 (c.1,(c.2.1,c.2.2))=_:=e1
  simp only[e1,Option.bind_some]
  by_cases h2:n>200
  ·obtain⟨c2,x2,e2,g2,a2,b2⟩:=Ic g1 (by omega)
   have e2:B9 (c1.1,(c1.2.1,c1.2.2))=_:=e2
   rw[if_pos (decide_eq_true h2)]
   simp only[e2,Option.bind_some]
   rw[if_pos (by omega)]
   have w1:w64 (x1*256)=x1*256:=AP (by omega) (by omega)
   have w2:w64 (x1*256+x2)=x1*256+x2:=AP (by omega) (by omega)
   refine⟨_,_,rfl,g2,?_,λ_=>?_,λh=>absurd h h1⟩
   ·rw[w1,w2,Int.tmod_eq_emod_of_nonneg (by omega)];exact Int.emod_nonneg _ (by omega)
   ·rw[w1,w2,Int.tmod_eq_emod_of_nonneg (by omega)];exact Int.emod_lt_of_pos _ (by omega)
  ·rw[if_neg (by simpa using h2),if_pos (by omega)]
   refine⟨_,_,rfl,mono (by omega) g1,?_,λ_=>?_,λh=>absurd h h1⟩
   ·rw[Int.tmod_eq_emod_of_nonneg a1];exact Int.emod_nonneg _ (by omega)
   ·rw[Int.tmod_eq_emod_of_nonneg a1];exact Int.emod_lt_of_pos _ (by omega)
theorem Dn {k:Nat} {c:Dy} (h:Cur k c) (hk:k<=100000000) {l:List Int} (h0:0<l.length) (hl:l.length<=1000): ∃c' x,Ac c l=some (c',x)/\Cur (k+2) c'/\x∈l:=by
 obtain⟨c1,x1,e1,g1,a1,b1,_⟩:=Dr h hk (l.length:Int) (by omega)
 have b1:=b1 (by omega)
 unfold Ac
 have e1:Ag (c.1,(c.2.1,c.2.2)) (l.length:Int)=_:=e1
 simp only[e1,Option.bind_some]
 have hin:inb x1 l:=⟨a1,b1⟩
 rw[if_pos hin]
 refine⟨_,_,rfl,g1,?_⟩
 have:gd l x1 0=l.getD x1.toNat 0:=rfl
 rw[this]
 exact FH (by omega)
theorem Ha {k:Nat} {c:Dy} (h:Cur k c) (hk:k<=100000000) (n:Int) (hn:n<=1000000): ∃c' x,AB c n=some (c',x)/\Cur (k+2) c':=by
 obtain⟨c1,x1,e1,g1,_⟩:=Dr h hk n hn
 unfold AB
 have e1:Ag (c.1,(c.2.1,c.2.2)) n=_:=e1
 simp only[e1,Option.bind_some]
 exact⟨_,_,rfl,g1⟩
theorem Cur.mono {c:Dy} {i j:Nat} (hij:i<=j):Cur i c->Cur j c:=λ⟨a,b,d,e⟩=>⟨a,b,d,by omega⟩
end T
set_option linter.unusedVariables false
open Go Go.Va
namespace T
def FD (list:List (List Int)) (t:List Int):Option ((List (List Int))):=
 (DN list t).bind λr1=>
 if r1.2 then
 some list
 else
 if(0:Int)<=0/\0<=r1.1/\r1.1<=(list.length:Int)then
 if([]:List (List Int)).length+((list.take (Int.toNat r1.1)).drop (Int.toNat 0)).length<=lim then
 if([]++((list.take (Int.toNat r1.1)).drop (Int.toNat 0))).length+ [t].length<=lim then
 if(0:Int)<=r1.1/\r1.1<=(list.length:Int)/\(list.length:Int)<=(list.length:Int)then
 if(([]++((list.take (Int.toNat r1.1)).drop (Int.toNat 0)))++ [t]).length+((list.take (Int.toNat (list.length:Int))).drop (Int.toNat r1.1)).length<=lim then
 some ((([]++((list.take (Int.toNat r1.1)).drop (Int.toNat 0)))++ [t])++((list.take (Int.toNat (list.length:Int))).drop (Int.toNat r1.1)))
 else none
 else none
 else none
 else none
 else none
end T
open Go Go.Va
namespace T
def Zn (cmp:List Int->List Int->Int) (rows:List (List Int)):List (List Int):=rows.mergeSort (λx y=>!decide (cmp y x<0))
end T
open Go Go.Va
namespace T
theorem Fh {l:List (List Int)}:De l=true↔l.Pairwise (λa b=>cmpL a b<0):=by
 constructor
 ·intro h
  rw[List.pairwise_iff_getElem]
  exact λi j hi hj hij=>Et h i j hij hj
 ·intro h
  rw[Hs]
  rw[List.pairwise_iff_getElem]at h
  exact λi hi=>h i (i+1) (by omega) hi (by omega)
theorem GM {list:List (List Int)} {t:List Int} {k:Nat} (hl:list.length<=1000000) (hk:k<=1000000) (hv: ∀u∈list,u.length=k) (ht:t.length=k) (hi:De list=true):
  ∃out,FD list t=some out/\De out=true/\(∀u,u∈out↔u=t∨u∈list)/\(t∉list->out.Perm (t::list)):=by
 obtain⟨c,e,k1,k2,k3⟩:=E9 (by omega) (by omega) hv ht hi
 unfold FD
 rw[e]
 simp only[Option.bind_some]
 by_cases hm:t∈list
 ·rw[decide_eq_true hm,if_pos rfl]
  exact⟨list,rfl,hi,λu=>⟨Or.inr,λh=>h.elim (λh=>h▸hm) id⟩,λh=>absurd hm h⟩
 ·rw[decide_eq_false hm,if_neg (by simp)]
  have e1:(list.take (Int.toNat (c:Int))).drop (Int.toNat 0)=list.take c:=by simp
  have e2:(list.take (Int.toNat (list.length:Int))).drop (Int.toNat (c:Int))=list.drop c:=by simp
  have hlim:lim=1099511627776:=rfl
  have t1:(list.take c).length=c:=by rw[List.length_take];omega
  rw[e1,e2,if_pos (by omega),if_pos (by simp;omega),if_pos (by simp;omega),if_pos (by omega),if_pos (by simp;omega)]
  refine⟨_,rfl,?_,λu=>?_,λ_=>?_⟩
  ·rw[Fh]at hi⊢
   simp only[List.nil_append]
   have hsp:list=list.take c++list.drop c:=(List.take_append_drop c list).symm
   rw[hsp,List.pairwise_append]at hi
   have h4: ∀u∈list.take c,cmpL u t<0:=λu hu=>by
    obtain⟨i,hi',rfl⟩:=List.mem_iff_getElem.1 hu
    rw[List.getElem_take]
    exact k2 i _ (by omega)
   have h5: ∀u∈list.drop c,cmpL t u<0:=λu hu=>by
    obtain⟨i,hi',rfl⟩:=List.mem_iff_getElem.1 hu
    rw[List.length_drop]at hi'
    rw[List.getElem_drop]
    have h6:=k3 (c+i) (by omega) (by omega)
    have h7:=cmpL_symm (list[c+i]'(by omega)) t
    have h8:cmpL (list[c+i]'(by omega)) t≠0:=λh=>hm (by rw[←cmpL_eq.1 h];exact List.getElem_mem _)
    omega
   rw[List.pairwise_append,List.pairwise_append]
   refine⟨⟨hi.1,List.pairwise_singleton _ _,λa ha b hb=>by rw[List.mem_singleton.1 hb];exact h4 a ha⟩,hi.2.1,λa ha b hb=>?_⟩
   rcases List.mem_append.1 ha with ha|ha
   ·exact hi.2.2 a ha b hb
   ·rw[List.mem_singleton.1 ha];exact h5 b hb
  ·have hsp:u∈list↔u∈list.take c∨u∈list.drop c:=by rw[←List.mem_append,List.take_append_drop]
   simp only[List.nil_append,List.mem_append,List.mem_singleton,hsp]
   constructor
   ·rintro ((h|h)|h)
    ·exact Or.inr (Or.inl h)
    ·exact Or.inl h
    ·exact Or.inr (Or.inr h)
   ·rintro (h|h|h)
    ·exact Or.inl (Or.inr h)
    ·exact Or.inl (Or.inl h)
    ·exact Or.inr h
  ·simp only[List.nil_append]
   refine(List.Perm.append_right _ (List.perm_append_comm)).trans ?_
   rw[List.append_assoc,List.take_append_drop]
   exact List.Perm.refl _
theorem Im {x y:List Int} (h1: ¬cmpL y x<0) (h2: ¬cmpL x y<0):x=y:=by
 have:=cmpL_symm x y
 exact cmpL_eq.1 (by omega)
theorem E1 {out l:List (List Int)} (hi:De out=true) (hp:out.Perm l):Zn cmpL l=out:=by
 have hs:(Zn cmpL l).Pairwise λx y=>(!decide (cmpL y x<0))=true:=by
  unfold Zn
  refine List.pairwise_mergeSort (λa b c h1 h2=>?_) (λa b=>?_) l
  ·simp only[Bool.not_eq_true',decide_eq_false_iff_not]at*
   intro h3
   have q1:=cmpL_symm a b
   have q2:=cmpL_symm b c
   by_cases e:cmpL a b=0
   ·rw[cmpL_eq.1 e]at h3;exact h2 h3
   ·exact h2 (cmpL_trans h3 (by omega))
  ·simp only[Bool.or_eq_true,Bool.not_eq_true',decide_eq_false_iff_not]
   have q1:=cmpL_symm a b
   omega
 have ho:out.Pairwise λx y=>(!decide (cmpL y x<0))=true:=by
  refine(Fh.1 hi).imp ?_
  intro a b h
  simp only[Bool.not_eq_true',decide_eq_false_iff_not]
  have q1:=cmpL_symm a b
  omega
 have hpp:(Zn cmpL l).Perm out:=(List.mergeSort_perm l _).trans hp.symm
 refine List.Perm.eq_of_pairwise (λa b _ _ h1 h2=>?_) hs ho hpp
 simp only[Bool.not_eq_true',decide_eq_false_iff_not]at h1 h2
 exact Im h1 h2
end T
open Go Go.Va
namespace T
section
variable {p:Int} {W N V:Nat}
def coG (p:Int) (s:ES) (u:Nat) (f:Int):Int:=if Ga s.2.1 u<0 then(if f=(u:Int)then 1 else 0)else p-(s.1.getD (Ga s.2.1 u).toNat []).getD f.toNat 0
def Kr (p:Int) (V:Nat) (s:ES) (F x:List Int) (u:Nat):Nat->Int
 |0=>Jl V s u
 |k+1=>Kr p V s F x u k+coG p s u (F.getD k 0)*x.getD k 0
def KN (p:Int) (V:Nat) (s:ES) (F x:List Int) (k:Nat):List Int:=(List.range V).map λu=>Kr p V s F x u k%p
structure GenOk (p:Int) (W N V:Nat) (s:ES) (F x:List Int):Prop where
 hp:pr4 p
 hs:ESok p W N V s
 hV:V<W
 hW:W<=1000
 hN:N<=100000
 hF:F=Kz V s.2.1
 hx:x.length=F.length
 xb: ∀v∈x,0<=v/\v<p
variable {s:ES} {F x:List Int}
theorem GenOk.pb (g:GenOk p W N V s F x):2<=p/\p<=7:=by have:=g.hp;unfold pr4 at this;omega
theorem GenOk.row (g:GenOk p W N V s F x) {u:Nat} (hu: ¬Ga s.2.1 u<0):(Ga s.2.1 u).toNat<s.1.length/\Ie p W (s.1.getD (Ga s.2.1 u).toNat []):=by
 have hm:(u:Int)∈s.2.1:=by
  rcases Decidable.em ((u:Int)∈s.2.1)with h|h
  ·exact h
  ·exact absurd (Jg.2 h) hu
 obtain⟨i,hi,g1,_⟩:=If hm
 rw[g1,Int.toNat_natCast]
 have:=g.hs.bl
 exact⟨by omega,by rw[Ab (by omega)];exact g.hs.t _ (List.getElem_mem _)⟩
theorem GenOk.base (g:GenOk p W N V s F x) (u:Nat):0<=Jl V s u/\Jl V s u<p:=by
 have:=g.pb
 unfold Jl
 split
 ·omega
 ·rename_i h
  exact Km (g.row h).2 g.hV
end
end T
open Go Go.Va
namespace T
section
variable {p:Int} {W N V:Nat} {s:ES} {F x:List Int}
theorem GenOk.zero (g:GenOk p W N V s F x):KN p V s F x 0=KI V s:=by
 unfold KN KI
 refine List.map_congr_left λu _=>?_
 have:=g.base u
 simp only[Kr]
 exact Int.emod_eq_of_lt this.1 this.2
end
end T
open Go Go.Va
namespace T
theorem I2: ∀ {a b:List (List Int)},De a=true->De b=true->(∀u,u∈a↔u∈b)->a=b:=by
 intro a b ha hb h
 have pa:=Fh.1 ha
 have pb:=Fh.1 hb
 have na:a.Nodup:=pa.imp fun {x y} h e=>by rw[e,cmpL_refl]at h;omega
 have nb:b.Nodup:=pb.imp fun {x y} h e=>by rw[e,cmpL_refl]at h;omega
 have hp:a.Perm b:=(List.perm_ext_iff_of_nodup na nb).2 h
 rw[←E1 ha (List.Perm.refl _),←E1 hb (List.Perm.refl _)]
 have h1:=E1 ha hp
 have h2:=E1 hb (List.Perm.refl b)
 have h3:=E1 ha (List.Perm.refl a)
 rw[h2,h3,←h1,h2]
end T
open Go Go.Va
namespace T
structure TupS (n:Int) (k:Nat) (ts:List (List Int)):Prop where
 hn:1<=n/\n<=8
 hk:1<=k/\k<=4
 len: ∀t∈ts,t.length=k
 el: ∀t∈ts,BC n t=true
 inc:De ts=true
theorem TupS.count {n:Int} {k:Nat} {ts:List (List Int)} (h:TupS n k ts):ts.length<=4096:=by
 rcases Fi (n:=n) (k:=k) h.inc λt ht=>⟨h.len t ht,h.el t ht⟩with h'|h'
 ·have hp:=h.hn
  have e:n^k<=8^4:=by
   have:(n.toNat^k:Nat)<=8^4:=Nat.le_trans (Nat.pow_le_pow_left (show n.toNat<=8 by omega) k) (Nat.pow_le_pow_right (by omega) h.hk.2)
   have e2:((n.toNat^k:Nat):Int)=n^k:=by
    rw[Int.natCast_pow];congr 1;omega
   rw[←e2];exact_mod_cast this
  have:(8:Int)^4=4096:=by decide
  omega
 ·rw[h'];simp
section
variable {n:Int} {k:Nat} {ts:List (List Int)}
def JP (ts:List (List Int)) (i j:Nat):List Int:=(ts.getD j []).take i
def JW (ts:List (List Int)) (i j:Nat):Int:=(ts.getD j []).getD i 0
end
end T
open Go Go.Va
namespace T
section
variable {n:Int} {k:Nat} {ts:List (List Int)}
def JY (ts:List (List Int)) (i:Nat) (x y:Int) (a b:Nat):Bool:=JW ts i a==x&&(JW ts i b==y&&decide (JP ts i a=JP ts i b))
def bO (ts:List (List Int)) (i:Nat) (x y:Int) (a:Nat):Option Nat:=(List.range ts.length).find? (JY ts i x y a)
def Jf (ts:List (List Int)) (i:Nat) (x y:Int):Option (Nat×Nat):=(List.range ts.length).findSome? λa=>(bO ts i x y a).map λb=>(a,b)
theorem HQ {i:Nat} {x y:Int} {a b:Nat} (h:Jf ts i x y=some (a,b)):a<ts.length/\b<ts.length/\JW ts i a=x/\JW ts i b=y/\JP ts i a=JP ts i b:=by
 unfold Jf at h
 obtain⟨a',ha,h⟩:=List.exists_of_findSome?_eq_some h
 obtain⟨b',hb,h⟩:=Option.map_eq_some_iff.1 h
 obtain⟨rfl,rfl⟩:=Prod.mk.inj h
 have h1:=List.find?_some hb
 have h2:=List.mem_of_find?_eq_some hb
 unfold JY at h1
 simp only[Bool.and_eq_true,beq_iff_eq,decide_eq_true_eq]at h1
 exact⟨List.mem_range.1 ha,List.mem_range.1 h2,h1.1,h1.2.1,h1.2.2⟩
theorem JQ {out list:List (List Int)} {t:List Int} (h1:De out=true) (h0:De list=true) (h2: ∀u,u∈out↔u=t∨u∈list) (h3:t∉list->out.Perm (t::list)):out.length<=list.length+1:=by
 by_cases hm:t∈list
 ·have:out=list:=I2 h1 h0 λu=>(h2 u).trans ⟨λh=>h.elim (λh=>h▸hm) id,Or.inr⟩
  rw[this];omega
 ·rw[(h3 hm).length_eq];simp
end
end T
set_option linter.unusedVariables false
open Go Go.Va
namespace T
def GT (code:List Int):Option (Bool):=
 some (decide ((code.length:Int)>65536))
def DH (t0:Int):Option (Int×(List (Int×(List (List Int))))):=
 if t0==0 then
 some (2,[(2,[[0,0],[0,1],[1,1]])])
 else
 if t0==1 then
 some (2,[(2,[[0,1],[1,0],[1,1]]),(2,[[0,0],[0,1],[1,0]])])
 else
 if t0==2 then
 some (2,[(3,[[0,0,0],[0,1,1],[1,0,1],[1,1,0]])])
 else
 if t0==3 then
 some (2,[(3,[[0,0,1],[0,1,0],[1,0,0]])])
 else
 if t0==4 then
 some (2,[(3,[[0,0,0],[0,0,1],[0,1,0],[0,1,1],[1,0,0],[1,0,1],[1,1,1]]),(1,[[1]])])
 else
 if t0==5 then
 some (3,[(2,[[0,1],[0,2],[1,0],[1,2],[2,0],[2,1]])])
 else
 if t0==6 then
 some (3,[(2,[[0,0],[0,1],[0,2],[1,1],[1,2],[2,2]])])
 else
 if t0==7 then
 some (3,[(2,[[0,1],[1,2],[2,0]])])
 else
 if t0==8 then
 some (2,[(2,[[0,1],[1,0]])])
 else
 if t0==9 then
 some (4,[(2,[[0,1],[1,0],[1,2],[2,1],[2,3],[3,2]])])
 else
 some (2,[])
def Aw:Nat->(((List Int)×Int×Int)×Int×(List Int)×Int)->Option (((List Int)×Int×Int)×(List Int))
 |0,_=>none
 |n+1,(c,n_,out,x)=>
 if decide (x<n_)then
 (Ag (c.1,(c.2.1,c.2.2)) (w64 (x+1))).bind λr1=>
 if decide (r1.2<x)then
 if inb r1.2 out then
 if out.length+ [gd out r1.2 0].length<=lim then
 Aw n ((r1.1.1,(r1.1.2.1,r1.1.2.2)),n_,out++ [gd out r1.2 0],w64 (x+1))
 else none
 else none
 else
 if out.length+ [r1.2].length<=lim then
 Aw n ((r1.1.1,(r1.1.2.1,r1.1.2.2)),n_,out++ [r1.2],w64 (x+1))
 else none
 else
 some ((c.1,(c.2.1,c.2.2)),out)
def BR (c:(List Int)×Int×Int) (n_:Int):Option (((List Int)×Int×Int)×(List Int)):=
 (Aw Aa ((c.1,(c.2.1,c.2.2)),n_,[],0)).bind λs1=>
 some ((s1.1.1,(s1.1.2.1,s1.1.2.2)),s1.2)
def AI:Nat->((List Int)×(Int×(List (List Int)))×(Int×(List (List Int)))×Int×Int)->Option ((List Int)×(Int×(List (List Int)))×(Int×(List (List Int)))×Int)
 |0,_=>none
 |n+1,(p,t2,out,x,y)=>
 if decide (y<(p.length:Int))then
 if inb x p then
 if inb y p then
 if(gd p x 0)==(gd p y 0)then
 if out.2.length+ [[x,y]].length<=lim then
 AI n (p,(t2.1,t2.2),(out.1,out.2++ [[x,y]]),x,w64 (y+1))
 else none
 else
 AI n (p,(t2.1,t2.2),(out.1,out.2),x,w64 (y+1))
 else none
 else none
 else
 some (p,(t2.1,t2.2),(out.1,out.2),x)
def AX:Nat->((List Int)×(Int×(List (List Int)))×(Int×(List (List Int)))×Int)->Option ((Int×(List (List Int)))×(Int×(List (List Int))))
 |0,_=>none
 |n+1,(p,t2,out,x)=>
 if decide (x<(p.length:Int))then
 (AI Aa (p,(t2.1,t2.2),(out.1,out.2),x,0)).bind λs1=>
 AX n (s1.1,(s1.2.1.1,s1.2.1.2),(s1.2.2.1.1,s1.2.2.1.2),w64 (s1.2.2.2+1))
 else
 some ((t2.1,t2.2),(out.1,out.2))
def CZ (p:List Int):Option ((Int×(List (List Int)))):=
 (AX Aa (p,(0,[]),(2,[]),0)).bind λs1=>
 some (s1.2.1,s1.2.2)
def B4:Nat->(Int×Int×(Int×(List (List Int)))×(Int×(List (List Int)))×Int)->Option ((Int×(List (List Int)))×(Int×(List (List Int))))
 |0,_=>none
 |n+1,(n_,arity,t4,out,at_)=>
 (EC n_ arity).bind λr1=>
 if decide (at_<r1)then
 (E5 n_ arity at_).bind λr2=>
 if out.2.length+ [r2].length<=lim then
 B4 n (n_,arity,(t4.1,t4.2),(out.1,out.2++ [r2]),w64 (at_+1))
 else none
 else
 some ((t4.1,t4.2),(out.1,out.2))
def CS (n_:Int) (arity:Int):Option ((Int×(List (List Int)))):=
 (B4 Aa (n_,arity,(0,[]),(arity,[]),0)).bind λs1=>
 some (s1.2.1,s1.2.2)
def FQ (list:List (List Int)) (t:List Int):Option ((List (List Int))):=
 (DN list t).bind λr1=>
 if r1.2 then
 some list
 else
 if(0:Int)<=0/\0<=r1.1/\r1.1<=(list.length:Int)then
 if([]:List (List Int)).length+((list.take (Int.toNat r1.1)).drop (Int.toNat 0)).length<=lim then
 if([]++((list.take (Int.toNat r1.1)).drop (Int.toNat 0))).length+ [t].length<=lim then
 if(0:Int)<=r1.1/\r1.1<=(list.length:Int)/\(list.length:Int)<=(list.length:Int)then
 if(([]++((list.take (Int.toNat r1.1)).drop (Int.toNat 0)))++ [t]).length+((list.take (Int.toNat (list.length:Int))).drop (Int.toNat r1.1)).length<=lim then
 some ((([]++((list.take (Int.toNat r1.1)).drop (Int.toNat 0)))++ [t])++((list.take (Int.toNat (list.length:Int))).drop (Int.toNat r1.1)))
 else none
 else none
 else none
 else none
 else none
def A7:Nat->(((List Int)×Int×Int)×Int×Int×(Int×(List (List Int)))×(Int×(List (List Int)))×Int×(List Int)×Int)->Option (((List Int)×Int×Int)×Int×Int×(Int×(List (List Int)))×(Int×(List (List Int)))×Int×(List Int))
 |0,_=>none
 |n+1,(t0,t1,t2,t6,t7,t8,t9,t10)=>
 if decide (t10<t2)then
 (Ag (t0.1,(t0.2.1,t0.2.2)) t1).bind λr4=>
 if t9.length+ [r4.2].length<=lim then
 A7 n ((r4.1.1,(r4.1.2.1,r4.1.2.2)),t1,t2,(t6.1,t6.2),(t7.1,t7.2),t8,t9++ [r4.2],w64 (t10+1))
 else none
 else
 some ((t0.1,(t0.2.1,t0.2.2)),t1,t2,(t6.1,t6.2),(t7.1,t7.2),t8,t9)
def AZ:Nat->(((List Int)×Int×Int)×Int×Int×(Int×(List (List Int)))×(Int×(List (List Int)))×Int)->Option (((List Int)×Int×Int)×Int×Int×(Int×(List (List Int)))×(Int×(List (List Int))))
 |0,_=>none
 |n+1,(t0,t1,t2,t6,t7,t8)=>
 if decide (t8>0)then
 (A7 Aa ((t0.1,(t0.2.1,t0.2.2)),t1,t2,(t6.1,t6.2),(t7.1,t7.2),t8,[],0)).bind λs4=>
 (FQ s4.2.2.2.2.1.2 s4.2.2.2.2.2.2).bind λr5=>
 AZ n ((s4.1.1,(s4.1.2.1,s4.1.2.2)),s4.2.1,s4.2.2.1,(s4.2.2.2.1.1,s4.2.2.2.1.2),(s4.2.2.2.2.1.1,r5),w64 (s4.2.2.2.2.2.1-1))
 else
 some ((t0.1,(t0.2.1,t0.2.2)),t1,t2,(t6.1,t6.2),(t7.1,t7.2))
def Bq (t0:(List Int)×Int×Int) (t1:Int) (t2:Int):Option (((List Int)×Int×Int)×(Int×(List (List Int)))):=
 (E8 t1).bind λr1=>
 if !r1 then
 some ((t0.1,(t0.2.1,t0.2.2)),(t2,[]))
 else
 (CU t2 1 3).bind λr2=>
 if !r2 then
 some ((t0.1,(t0.2.1,t0.2.2)),(t2,[]))
 else
 (Ac (t0.1,(t0.2.1,t0.2.2)) [0,1,2,3,4,6,9]).bind λr3=>
 (AZ Aa ((r3.1.1,(r3.1.2.1,r3.1.2.2)),t1,t2,(0,[]),(t2,[]),r3.2)).bind λs4=>
 if s4.2.2.1==2 then
 (AB (s4.1.1,(s4.1.2.1,s4.1.2.2)) 3).bind λr5=>
 if r5.2 then
 (BR (r5.1.1,(r5.1.2.1,r5.1.2.2)) s4.2.1).bind λr6=>
 (CZ r6.2).bind λr7=>
 (AB (r6.1.1,(r6.1.2.1,r6.1.2.2)) 12).bind λr8=>
 if r8.2 then
 (CS s4.2.1 s4.2.2.1).bind λr9=>
 (Ag (r8.1.1,(r8.1.2.1,r8.1.2.2)) 40).bind λr10=>
 if r10.2==0 then
 (Ac (r10.1.1,(r10.1.2.1,r10.1.2.2)) [0,4,(-1)]).bind λr11=>
 some ((r11.1.1,(r11.1.2.1,r11.1.2.2)),(r11.2,r9.2))
 else
 if r10.2==1 then
 if 0<=s4.2.2.1/\s4.2.2.1<=s4.2.2.1/\s4.2.2.1<=lim then
 if r9.2.length+ [List.replicate (Int.toNat s4.2.2.1) (0:Int)].length<=lim then
 some ((r10.1.1,(r10.1.2.1,r10.1.2.2)),(r9.1,r9.2++ [List.replicate (Int.toNat s4.2.2.1) (0:Int)]))
 else none
 else none
 else
 if r10.2==2 then
 if decide ((r9.2.length:Int)>0)then
 (Ac (r10.1.1,(r10.1.2.1,r10.1.2.2)) [(-1),s4.2.1,0]).bind λr12=>
 if inb 0 r9.2 then
 some ((r12.1.1,(r12.1.2.1,r12.1.2.2)),(r9.1,stt r9.2 0 [r12.2]))
 else none
 else
 some ((r10.1.1,(r10.1.2.1,r10.1.2.2)),(r9.1,r9.2))
 else
 some ((r10.1.1,(r10.1.2.1,r10.1.2.2)),(r9.1,r9.2))
 else
 (Ag (r8.1.1,(r8.1.2.1,r8.1.2.2)) 40).bind λr13=>
 if r13.2==0 then
 (Ac (r13.1.1,(r13.1.2.1,r13.1.2.2)) [0,4,(-1)]).bind λr14=>
 some ((r14.1.1,(r14.1.2.1,r14.1.2.2)),(r14.2,r7.2))
 else
 if r13.2==1 then
 if 0<=s4.2.2.1/\s4.2.2.1<=s4.2.2.1/\s4.2.2.1<=lim then
 if r7.2.length+ [List.replicate (Int.toNat s4.2.2.1) (0:Int)].length<=lim then
 some ((r13.1.1,(r13.1.2.1,r13.1.2.2)),(r7.1,r7.2++ [List.replicate (Int.toNat s4.2.2.1) (0:Int)]))
 else none
 else none
 else
 if r13.2==2 then
 if decide ((r7.2.length:Int)>0)then
 (Ac (r13.1.1,(r13.1.2.1,r13.1.2.2)) [(-1),s4.2.1,0]).bind λr15=>
 if inb 0 r7.2 then
 some ((r15.1.1,(r15.1.2.1,r15.1.2.2)),(r7.1,stt r7.2 0 [r15.2]))
 else none
 else
 some ((r13.1.1,(r13.1.2.1,r13.1.2.2)),(r7.1,r7.2))
 else
 some ((r13.1.1,(r13.1.2.1,r13.1.2.2)),(r7.1,r7.2))
 else
 (AB (r5.1.1,(r5.1.2.1,r5.1.2.2)) 12).bind λr16=>
 if r16.2 then
 (CS s4.2.1 s4.2.2.1).bind λr17=>
 (Ag (r16.1.1,(r16.1.2.1,r16.1.2.2)) 40).bind λr18=>
 if r18.2==0 then
 (Ac (r18.1.1,(r18.1.2.1,r18.1.2.2)) [0,4,(-1)]).bind λr19=>
 some ((r19.1.1,(r19.1.2.1,r19.1.2.2)),(r19.2,r17.2))
 else
 if r18.2==1 then
 if 0<=s4.2.2.1/\s4.2.2.1<=s4.2.2.1/\s4.2.2.1<=lim then
 if r17.2.length+ [List.replicate (Int.toNat s4.2.2.1) (0:Int)].length<=lim then
 some ((r18.1.1,(r18.1.2.1,r18.1.2.2)),(r17.1,r17.2++ [List.replicate (Int.toNat s4.2.2.1) (0:Int)]))
 else none
 else none
 else
 if r18.2==2 then
 if decide ((r17.2.length:Int)>0)then
 (Ac (r18.1.1,(r18.1.2.1,r18.1.2.2)) [(-1),s4.2.1,0]).bind λr20=>
 if inb 0 r17.2 then
 some ((r20.1.1,(r20.1.2.1,r20.1.2.2)),(r17.1,stt r17.2 0 [r20.2]))
 else none
 else
 some ((r18.1.1,(r18.1.2.1,r18.1.2.2)),(r17.1,r17.2))
 else
 some ((r18.1.1,(r18.1.2.1,r18.1.2.2)),(r17.1,r17.2))
 else
 (Ag (r16.1.1,(r16.1.2.1,r16.1.2.2)) 40).bind λr21=>
 if r21.2==0 then
 (Ac (r21.1.1,(r21.1.2.1,r21.1.2.2)) [0,4,(-1)]).bind λr22=>
 some ((r22.1.1,(r22.1.2.1,r22.1.2.2)),(r22.2,s4.2.2.2.2.2))
 else
 if r21.2==1 then
 if 0<=s4.2.2.1/\s4.2.2.1<=s4.2.2.1/\s4.2.2.1<=lim then
 if s4.2.2.2.2.2.length+ [List.replicate (Int.toNat s4.2.2.1) (0:Int)].length<=lim then
 some ((r21.1.1,(r21.1.2.1,r21.1.2.2)),(s4.2.2.2.2.1,s4.2.2.2.2.2++ [List.replicate (Int.toNat s4.2.2.1) (0:Int)]))
 else none
 else none
 else
 if r21.2==2 then
 if decide ((s4.2.2.2.2.2.length:Int)>0)then
 (Ac (r21.1.1,(r21.1.2.1,r21.1.2.2)) [(-1),s4.2.1,0]).bind λr23=>
 if inb 0 s4.2.2.2.2.2 then
 some ((r23.1.1,(r23.1.2.1,r23.1.2.2)),(s4.2.2.2.2.1,stt s4.2.2.2.2.2 0 [r23.2]))
 else none
 else
 some ((r21.1.1,(r21.1.2.1,r21.1.2.2)),(s4.2.2.2.2.1,s4.2.2.2.2.2))
 else
 some ((r21.1.1,(r21.1.2.1,r21.1.2.2)),(s4.2.2.2.2.1,s4.2.2.2.2.2))
 else
 (AB (s4.1.1,(s4.1.2.1,s4.1.2.2)) 12).bind λr24=>
 if r24.2 then
 (CS s4.2.1 s4.2.2.1).bind λr25=>
 (Ag (r24.1.1,(r24.1.2.1,r24.1.2.2)) 40).bind λr26=>
 if r26.2==0 then
 (Ac (r26.1.1,(r26.1.2.1,r26.1.2.2)) [0,4,(-1)]).bind λr27=>
 some ((r27.1.1,(r27.1.2.1,r27.1.2.2)),(r27.2,r25.2))
 else
 if r26.2==1 then
 if 0<=s4.2.2.1/\s4.2.2.1<=s4.2.2.1/\s4.2.2.1<=lim then
 if r25.2.length+ [List.replicate (Int.toNat s4.2.2.1) (0:Int)].length<=lim then
 some ((r26.1.1,(r26.1.2.1,r26.1.2.2)),(r25.1,r25.2++ [List.replicate (Int.toNat s4.2.2.1) (0:Int)]))
 else none
 else none
 else
 if r26.2==2 then
 if decide ((r25.2.length:Int)>0)then
 (Ac (r26.1.1,(r26.1.2.1,r26.1.2.2)) [(-1),s4.2.1,0]).bind λr28=>
 if inb 0 r25.2 then
 some ((r28.1.1,(r28.1.2.1,r28.1.2.2)),(r25.1,stt r25.2 0 [r28.2]))
 else none
 else
 some ((r26.1.1,(r26.1.2.1,r26.1.2.2)),(r25.1,r25.2))
 else
 some ((r26.1.1,(r26.1.2.1,r26.1.2.2)),(r25.1,r25.2))
 else
 (Ag (r24.1.1,(r24.1.2.1,r24.1.2.2)) 40).bind λr29=>
 if r29.2==0 then
 (Ac (r29.1.1,(r29.1.2.1,r29.1.2.2)) [0,4,(-1)]).bind λr30=>
 some ((r30.1.1,(r30.1.2.1,r30.1.2.2)),(r30.2,s4.2.2.2.2.2))
 else
 if r29.2==1 then
 if 0<=s4.2.2.1/\s4.2.2.1<=s4.2.2.1/\s4.2.2.1<=lim then
 if s4.2.2.2.2.2.length+ [List.replicate (Int.toNat s4.2.2.1) (0:Int)].length<=lim then
 some ((r29.1.1,(r29.1.2.1,r29.1.2.2)),(s4.2.2.2.2.1,s4.2.2.2.2.2++ [List.replicate (Int.toNat s4.2.2.1) (0:Int)]))
 else none
 else none
 else
 if r29.2==2 then
 if decide ((s4.2.2.2.2.2.length:Int)>0)then
 (Ac (r29.1.1,(r29.1.2.1,r29.1.2.2)) [(-1),s4.2.1,0]).bind λr31=>
 if inb 0 s4.2.2.2.2.2 then
 some ((r31.1.1,(r31.1.2.1,r31.1.2.2)),(s4.2.2.2.2.1,stt s4.2.2.2.2.2 0 [r31.2]))
 else none
 else
 some ((r29.1.1,(r29.1.2.1,r29.1.2.2)),(s4.2.2.2.2.1,s4.2.2.2.2.2))
 else
 some ((r29.1.1,(r29.1.2.1,r29.1.2.2)),(s4.2.2.2.2.1,s4.2.2.2.2.2))
def AK:Nat->(((List Int)×Int×Int)×Int×(List (Int×(List (List Int))))×(List (Int×(List (List Int))))×Int×(Int×(List (List Int)))×Int)->Option (((List Int)×Int×Int)×Int×(List (Int×(List (List Int))))×(List (Int×(List (List Int))))×Int×(Int×(List (List Int))))
 |0,_=>none
 |n+1,(t0,t4,t5,t6,t7,t8,t9)=>
 if inb t7 t5 then
 if decide (t9<(((gd t5 t7 (0,[])).2).length:Int))then
 if inb t7 t5 then
 if inb t9 ((gd t5 t7 (0,[])).2)then
 (BT (gd ((gd t5 t7 (0,[])).2) t9 [])).bind λr4=>
 if t8.2.length+ [r4].length<=lim then
 AK n ((t0.1,(t0.2.1,t0.2.2)),t4,t5,t6,t7,(t8.1,t8.2++ [r4]),w64 (t9+1))
 else none
 else none
 else none
 else
 some ((t0.1,(t0.2.1,t0.2.2)),t4,t5,t6,t7,(t8.1,t8.2))
 else none
def AJ:Nat->(((List Int)×Int×Int)×Int×(List (Int×(List (List Int))))×(List (Int×(List (List Int))))×Int)->Option (((List Int)×Int×Int)×Int×(List (Int×(List (List Int)))))
 |0,_=>none
 |n+1,(t0,t4,t5,t6,t7)=>
 if decide (t7<(t5.length:Int))then
 if inb t7 t5 then
 (AK Aa ((t0.1,(t0.2.1,t0.2.2)),t4,t5,t6,t7,((gd t5 t7 (0,[])).1,[]),0)).bind λs4=>
 if s4.2.2.2.1.length+ [(s4.2.2.2.2.2.1,s4.2.2.2.2.2.2)].length<=lim then
 AJ n ((s4.1.1,(s4.1.2.1,s4.1.2.2)),s4.2.1,s4.2.2.1,s4.2.2.2.1++ [(s4.2.2.2.2.2.1,s4.2.2.2.2.2.2)],w64 (s4.2.2.2.2.1+1))
 else none
 else none
 else
 some ((t0.1,(t0.2.1,t0.2.2)),t4,t6)
def AR:Nat->(((List Int)×Int×Int)×Int×(List (Int×(List (List Int))))×Int)->Option (((List Int)×Int×Int)×Int×(List (Int×(List (List Int)))))
 |0,_=>none
 |n+1,(t0,t10,t11,t12)=>
 if decide (t12>0)then
 (Ac (t0.1,(t0.2.1,t0.2.2)) [1,2,2,3]).bind λr10=>
 (Bq (r10.1.1,(r10.1.2.1,r10.1.2.2)) t10 r10.2).bind λr11=>
 if t11.length+ [r11.2].length<=lim then
 AR n ((r11.1.1,(r11.1.2.1,r11.1.2.2)),t10,t11++ [r11.2],w64 (t12-1))
 else none
 else
 some ((t0.1,(t0.2.1,t0.2.2)),t10,t11)
def Cg (t0:(List Int)×Int×Int):Option (((List Int)×Int×Int)×Int×(List (Int×(List (List Int))))):=
 (AB (t0.1,(t0.2.1,t0.2.2)) 3).bind λr1=>
 if !r1.2 then
 (Ag (r1.1.1,(r1.1.2.1,r1.1.2.2)) 11).bind λr2=>
 (DH r2.2).bind λr3=>
 (AJ Aa ((r2.1.1,(r2.1.2.1,r2.1.2.2)),r3.1,r3.2,[],0)).bind λs4=>
 some ((s4.1.1,(s4.1.2.1,s4.1.2.2)),s4.2.1,s4.2.2)
 else
 (Ag (r1.1.1,(r1.1.2.1,r1.1.2.2)) 24).bind λr5=>
 if(11:Int)≠0 then
 if(0:Int)<=0/\0<=(w64 (7+(w64 (Int.tdiv r5.2 11))))/\(w64 (7+(w64 (Int.tdiv r5.2 11))))<=([1,2,2,2,3,3,4,0,5].length:Int)then
 (Ac (r5.1.1,(r5.1.2.1,r5.1.2.2)) (([1,2,2,2,3,3,4,0,5].take (Int.toNat (w64 (7+(w64 (Int.tdiv r5.2 11)))))).drop (Int.toNat 0))).bind λr6=>
 (Ag (r6.1.1,(r6.1.2.1,r6.1.2.2)) 24).bind λr7=>
 if(23:Int)≠0 then
 if(0:Int)<=0/\0<=(w64 (5+(w64 (Int.tdiv r7.2 23))))/\(w64 (5+(w64 (Int.tdiv r7.2 23))))<=([0,1,1,2,4,5].length:Int)then
 (Ac (r7.1.1,(r7.1.2.1,r7.1.2.2)) (([0,1,1,2,4,5].take (Int.toNat (w64 (5+(w64 (Int.tdiv r7.2 23)))))).drop (Int.toNat 0))).bind λr8=>
 (AR Aa ((r8.1.1,(r8.1.2.1,r8.1.2.2)),r6.2,[],r8.2)).bind λs9=>
 some ((s9.1.1,(s9.1.2.1,s9.1.2.2)),s9.2.1,s9.2.2)
 else none
 else none
 else none
 else none
def CE:Nat->((List Int)×(List Int)×Int)->Option ((Unit)⊕(Bool))
 |0,_=>none
 |n+1,(a,b,i)=>
 if decide (i<(a.length:Int))then
 if inb i a then
 if inb i b then
 if(gd a i 0) !=(gd b i 0)then
 some (.inr false)
 else
 CE n (a,b,w64 (i+1))
 else none
 else none
 else
 some (.inl ())
def Eu (a:List Int) (b:List Int):Option (Bool):=
 if(a.length:Int) !=(b.length:Int)then
  some false
 else
  (CE Aa (a,b,0)).bind λs1=>
   match s1 with
   | .inl s2=>
    some true
   | .inr s3=>
    some s3
def Ck:Nat->((List (List Int))×(List (List Int))×Int)->Option ((Unit)⊕(Bool))
 |0,_=>none
 |n+1,(a,b,i)=>
 if decide (i<(a.length:Int))then
 if inb i a then
 if inb i b then
 (Eu (gd a i []) (gd b i [])).bind λr1=>
 if !r1 then
 some (.inr false)
 else
 Ck n (a,b,w64 (i+1))
 else none
 else none
 else
 some (.inl ())
def Ec (a:List (List Int)) (b:List (List Int)):Option (Bool):=
 if(a.length:Int) !=(b.length:Int)then
  some false
 else
  (Ck Aa (a,b,0)).bind λs1=>
   match s1 with
   | .inl s2=>
    some true
   | .inr s3=>
    some s3
end T
open Go Go.Va
namespace T
def rowsB (R W:Nat) (l:List (List Int)):Prop:=l.length<=R/\ ∀r∈l,r.length<=W
theorem rowsB.mono {R W R' W':Nat} {l:List (List Int)} (h:rowsB R W l) (h1:R<=R') (h2:W<=W'):rowsB R' W' l:=⟨by have:=h.1;omega,λr hr=>by have:=h.2 r hr;omega⟩
theorem rowsB.app {R W:Nat} {l:List (List Int)} {t:List Int} (h:rowsB R W l) (ht:t.length<=W):rowsB (R+1) W (l++ [t]):=⟨by rw[List.length_append,List.length_singleton];have:=h.1;omega,λr hr=>by
 rcases List.mem_append.1 hr with hr|hr
 ·exact h.2 r hr
 ·rw[List.mem_singleton.1 hr];exact ht⟩
theorem KD:FQ=FD:=rfl
theorem JN {N:Nat} (hN:N<=8): ∀(d f k x:Nat) (c:Dy) (o:List Int),x+d=N->d<f->Cur k c->k+2*d<=1000000->o.length=x->
  ∃c' o',Aw f (c,(N:Int),o,(x:Int))=some (c',o')/\Cur (k+2*d) c'/\o'.length=N:=by
 intro d
 induction d with
 |zero=>
  intro f k x c o hx hf hc hk ho
  obtain⟨f,rfl⟩: ∃z,f=z+1:=⟨f-1,by omega⟩
  refine⟨c,o,?_,hc,by omega⟩
  simp only[Aw]
  rw[if_neg (by simp;omega)]
 |succ d ih=>
  intro f k x c o hx hf hc hk ho
  obtain⟨f,rfl⟩: ∃z,f=z+1:=⟨f-1,by omega⟩
  obtain⟨c1,x1,e1,g1,a1,b1,_⟩:=Dr hc (by omega) ((x+1:Nat):Int) (by omega)
  have b1:=b1 (by omega)
  have e1:Ag (c.1,(c.2.1,c.2.2)) ((x+1:Nat):Int)=_:=e1
  have ew:=Ad (show x<4611686018427387904 by omega)
  simp only[Aw,ew,e1,Option.bind_some]
  rw[if_pos (by simp;omega)]
  by_cases h:x1<(x:Int)
  ·obtain⟨c',o',e2,g2,l2⟩:=ih f (k+2) (x+1) c1 (o++ [gd o x1 0]) (by omega) (by omega) g1 (by omega) (by simp;omega)
   refine⟨c',o',?_,g2.mono (by omega),l2⟩
   rw[if_pos (by simpa using h),if_pos (by unfold inb;omega),if_pos (by simp;unfold lim;omega)]
   exact e2
  ·obtain⟨c',o',e2,g2,l2⟩:=ih f (k+2) (x+1) c1 (o++ [x1]) (by omega) (by omega) g1 (by omega) (by simp;omega)
   refine⟨c',o',?_,g2.mono (by omega),l2⟩
   rw[if_neg (by simpa using h),if_pos (by simp;unfold lim;omega)]
   exact e2
theorem Hb {N k:Nat} {c:Dy} (hN:N<=8) (hc:Cur k c) (hk:k<=500000): ∃c' o,BR c (N:Int)=some (c',o)/\Cur (k+16) c'/\o.length=N:=by
 obtain⟨c',o,e,g,l⟩:=JN hN N Aa k 0 c [] (by omega) (by unfold Aa;omega) hc (by omega) rfl
 refine⟨c',o,?_,g.mono (by omega),l⟩
 unfold BR
 have e:Aw Aa ((c.1,(c.2.1,c.2.2)),(N:Int),[],0)=_:=e
 rw[e];rfl
theorem Ix {p:List Int} (hp:p.length<=8): ∃out,CZ p=some (2,out)/\rowsB 64 2 out:=by
 have in6: ∀(x:Nat),x<p.length-> ∀(d f y:Nat) (o:List (List Int)),y+d=p.length->d<f->rowsB (8*x+y) 2 o->
   ∃o',AI f (p,(0,[]),(2,o),(x:Int),(y:Int))=some (p,(0,[]),(2,o'),(x:Int))/\rowsB (8*x+p.length) 2 o':=by
  intro x hx d
  induction d with
  |zero=>
   intro f y o hy hf ho
   obtain⟨f,rfl⟩: ∃z,f=z+1:=⟨f-1,by omega⟩
   refine⟨o,?_,ho.mono (by omega) (by omega)⟩
   simp only[AI]
   rw[if_neg (by simp;omega)]
  |succ d ih=>
   intro f y o hy hf ho
   obtain⟨f,rfl⟩: ∃z,f=z+1:=⟨f-1,by omega⟩
   have hyl:y<p.length:=by omega
   have hol:=ho.1
   simp only[AI,Af,hx,hyl,if_true,Ad (show y<4611686018427387904 by omega)]
   rw[if_pos (by simp;omega)]
   by_cases h:(gd p (x:Int) 0==gd p (y:Int) 0)=true
   ·obtain⟨o',e,g⟩:=ih f (y+1) (o++ [[(x:Int),(y:Int)]]) (by omega) (by omega) (by rw[←Nat.add_assoc];exact ho.app (by simp))
    refine⟨o',?_,g⟩
    rw[if_pos h,if_pos (by simp;unfold lim;omega)]
    exact e
   ·obtain⟨o',e,g⟩:=ih f (y+1) o (by omega) (by omega) (ho.mono (by omega) (by omega))
    refine⟨o',?_,g⟩
    rw[if_neg h]
    exact e
 have in3: ∀(d f x:Nat) (o:List (List Int)),x+d=p.length->d<f->rowsB (8*x) 2 o->
   ∃o',AX f (p,(0,[]),(2,o),(x:Int))=some ((0,[]),(2,o'))/\rowsB 64 2 o':=by
  intro d
  induction d with
  |zero=>
   intro f x o hx hf ho
   obtain⟨f,rfl⟩: ∃z,f=z+1:=⟨f-1,by omega⟩
   refine⟨o,?_,ho.mono (by omega) (by omega)⟩
   simp only[AX]
   rw[if_neg (by simp;omega)]
  |succ d ih=>
   intro f x o hx hf ho
   obtain⟨f,rfl⟩: ∃z,f=z+1:=⟨f-1,by omega⟩
   obtain⟨o1,e1,g1⟩:=in6 x (by omega) p.length Aa 0 o (by omega) (by unfold Aa;omega) ho
   have e1:AI Aa (p,(0,[]),(2,o),(x:Int),0)=_:=e1
   obtain⟨o',e2,g2⟩:=ih f (x+1) o1 (by omega) (by omega) (g1.mono (by omega) (by omega))
   refine⟨o',?_,g2⟩
   simp only[AX,e1,Option.bind_some,Ad (show x<4611686018427387904 by omega)]
   rw[if_pos (by simp;omega)]
   exact e2
 obtain⟨o,e,g⟩:=in3 p.length Aa 0 [] (by omega) (by unfold Aa;omega) ⟨by simp,by simp⟩
 refine⟨o,?_,g⟩
 unfold CZ
 have e:AX Aa (p,(0,[]),(2,[]),0)=_:=e
 rw[e];rfl
theorem Is {N A:Nat} (hN:1<=N/\N<=8) (hA:1<=A/\A<=3): ∃out,CS (N:Int) (A:Int)=some ((A:Int),out)/\rowsB 512 3 out:=by
 have hp:N^A<=512:=by
  have:N^A<=8^3:=Nat.le_trans (Nat.pow_le_pow_left hN.2 A) (Nat.pow_le_pow_right (by omega) hA.2)
  omega
 have e1:=Fl (n:=(N:Int)) (by omega) (by omega) (k:=A) (by omega)
 have e0:(N:Int)^A=((N^A:Nat):Int):=by rw[Int.natCast_pow]
 rw[e0]at e1
 have key: ∀(d f x:Nat) (o:List (List Int)),x+d=N^A->d<f->rowsB x 3 o->
   ∃o',B4 f ((N:Int),(A:Int),(0,[]),((A:Int),o),(x:Int))=some ((0,[]),((A:Int),o'))/\rowsB (N^A) 3 o':=by
  intro d
  induction d with
  |zero=>
   intro f x o hx hf ho
   obtain⟨f,rfl⟩: ∃z,f=z+1:=⟨f-1,by omega⟩
   refine⟨o,?_,ho.mono (by omega) (by omega)⟩
   simp only[B4,e1,Option.bind_some]
   rw[if_neg (by simp only[decide_eq_true_eq];omega)]
  |succ d ih=>
   intro f x o hx hf ho
   obtain⟨f,rfl⟩: ∃z,f=z+1:=⟨f-1,by omega⟩
   have hol:=ho.1
   have e2:=Gz (b:=N) (k:=A) (i:=x) (by omega) (by omega) (by omega)
   have hl2:(cI (dg N A x)).length=A:=by rw[IP,IT]
   obtain⟨o',e3,g3⟩:=ih f (x+1) (o++ [cI (dg N A x)]) (by omega) (by omega) (ho.app (by omega))
   refine⟨o',?_,g3⟩
   simp only[B4,e1,e2,Option.bind_some,Ad (show x<4611686018427387904 by omega)]
   rw[if_pos (by simp only[decide_eq_true_eq];omega),if_pos (by simp;unfold lim;omega)]
   exact e3
 obtain⟨o,e,g⟩:=key (N^A) Aa 0 [] (by omega) (by unfold Aa;omega) ⟨by simp,by simp⟩
 refine⟨o,?_,g.mono hp (by omega)⟩
 unfold CS
 have e:B4 Aa ((N:Int),(A:Int),(0,[]),((A:Int),[]),0)=_:=e
 rw[e];rfl
theorem Ko {N:Int} (hN:N<=100) {A:Nat} (hA:A<=3) (t6 t7:Int×List (List Int)) (t8:Int): ∀(d f k x:Nat) (c:Dy) (o:List Int),x+d=A->d<f->Cur k c->k+2*d<=1000000->o.length=x->
  ∃c' o',A7 f (c,N,(A:Int),t6,t7,t8,o,(x:Int))=some (c',N,(A:Int),t6,t7,t8,o')/\Cur (k+2*d) c'/\o'.length=A:=by
 intro d
 induction d with
 |zero=>
  intro f k x c o hx hf hc hk ho
  obtain⟨f,rfl⟩: ∃z,f=z+1:=⟨f-1,by omega⟩
  refine⟨c,o,?_,hc,by omega⟩
  simp only[A7]
  rw[if_neg (by simp;omega)]
 |succ d ih=>
  intro f k x c o hx hf hc hk ho
  obtain⟨f,rfl⟩: ∃z,f=z+1:=⟨f-1,by omega⟩
  obtain⟨c1,x1,e1,g1,_⟩:=Dr hc (by omega) N (by omega)
  have e1:Ag (c.1,(c.2.1,c.2.2)) N=_:=e1
  obtain⟨c',o',e2,g2,l2⟩:=ih f (k+2) (x+1) c1 (o++ [x1]) (by omega) (by omega) g1 (by omega) (by simp;omega)
  refine⟨c',o',?_,g2.mono (by omega),l2⟩
  simp only[A7,e1,Option.bind_some,Ad (show x<4611686018427387904 by omega)]
  rw[if_pos (by simp;omega),if_pos (by simp;unfold lim;omega)]
  exact e2
theorem Kn {N:Int} (hN:N<=100) {A:Nat} (hA:A<=3) (t6:Int×List (List Int)): ∀(d f k:Nat) (c:Dy) (o:List (List Int)),d<f->Cur k c->k+10*d<=500000->o.length+d<=1000->De o=true->(∀u∈o,u.length=A)->
  ∃c' o',AZ f (c,N,(A:Int),t6,((A:Int),o),(d:Int))=some (c',N,(A:Int),t6,((A:Int),o'))/\Cur (k+10*d) c'/\rowsB (o.length+d) A o':=by
 intro d
 induction d with
 |zero=>
  intro f k c o hf hc hk ho hi hl
  obtain⟨f,rfl⟩: ∃z,f=z+1:=⟨f-1,by omega⟩
  refine⟨c,o,?_,hc,⟨by omega,λu hu=>by rw[hl u hu];exact Nat.le_refl _⟩⟩
  simp only[AZ]
  rw[if_neg (by simp)]
 |succ d ih=>
  intro f k c o hf hc hk ho hi hl
  obtain⟨f,rfl⟩: ∃z,f=z+1:=⟨f-1,by omega⟩
  obtain⟨c1,t,e1,g1,l1⟩:=Ko hN hA t6 ((A:Int),o) ((d+1:Nat):Int) A Aa k 0 c [] (by omega) (by unfold Aa;omega) hc (by omega) rfl
  have e1:A7 Aa ((c.1,(c.2.1,c.2.2)),N,(A:Int),(t6.1,t6.2),((A:Int),o),((d+1:Nat):Int),[],0)=_:=e1
  obtain⟨o1,p1,p2,p3,p4⟩:=GM (list:=o) (t:=t) (k:=A) (by omega) (by omega) hl l1 hi
  have z1:=JQ p2 hi p3 p4
  obtain⟨c',o',e2,g2,l2⟩:=ih f (k+2*A) c1 o1 (by omega) g1 (by omega) (by omega) p2 (λu hu=>((p3 u).1 hu).elim (λh=>by rw[h];exact l1) (hl u))
  refine⟨c',o',?_,g2.mono (by omega),l2.mono (by omega) (by omega)⟩
  have ew:w64 (((d+1:Nat):Int)-1)=(d:Int):=by rw[AP (by omega) (by omega)];omega
  simp only[AZ,e1,KD,p1,Option.bind_some,ew]
  rw[if_pos (by simp)]
  exact e2
def FO (c:Dy) (N A:Int) (out:Int×List (List Int)):Option (Dy×(Int×List (List Int))):=
 (Ag (c.1,(c.2.1,c.2.2)) 40).bind λr10=>
 if r10.2==0 then
 (Ac (r10.1.1,(r10.1.2.1,r10.1.2.2)) [0,4,(-1)]).bind λr11=>
 some ((r11.1.1,(r11.1.2.1,r11.1.2.2)),(r11.2,out.2))
 else
 if r10.2==1 then
 if 0<=A/\A<=A/\A<=lim then
 if out.2.length+ [List.replicate (Int.toNat A) (0:Int)].length<=lim then
 some ((r10.1.1,(r10.1.2.1,r10.1.2.2)),(out.1,out.2++ [List.replicate (Int.toNat A) (0:Int)]))
 else none
 else none
 else
 if r10.2==2 then
 if decide ((out.2.length:Int)>0)then
 (Ac (r10.1.1,(r10.1.2.1,r10.1.2.2)) [(-1),N,0]).bind λr12=>
 if inb 0 out.2 then
 some ((r12.1.1,(r12.1.2.1,r12.1.2.2)),(out.1,stt out.2 0 [r12.2]))
 else none
 else
 some ((r10.1.1,(r10.1.2.1,r10.1.2.2)),(out.1,out.2))
 else
 some ((r10.1.1,(r10.1.2.1,r10.1.2.2)),(out.1,out.2))
theorem HU {k:Nat} {c:Dy} (hc:Cur k c) (hk:k<=1000000) {N:Int} {A:Nat} (hA:A<=3) {out:Int×List (List Int)} (ho:rowsB 600 3 out.2): ∃c' r,FO c N (A:Int) out=some (c',r)/\Cur (k+4) c'/\rowsB 601 3 r.2:=by
 obtain⟨c1,x1,e1,g1,_⟩:=Dr hc (by omega) 40 (by omega)
 have e1:Ag (c.1,(c.2.1,c.2.2)) 40=_:=e1
 have hol:=ho.1
 unfold FO
 simp only[e1,Option.bind_some]
 by_cases h0:x1=0
 ·rw[if_pos (by simpa using h0)]
  obtain⟨c2,x2,e2,g2,_⟩:=Dn g1 (by omega) (l:= [0,4,(-1)]) (by simp) (by simp)
  have e2:Ac (c1.1,(c1.2.1,c1.2.2)) [0,4,(-1)]=_:=e2
  simp only[e2,Option.bind_some]
  exact⟨_,_,rfl,g2.mono (by omega),ho.mono (by omega) (by omega)⟩
 ·rw[if_neg (by simpa using h0)]
  by_cases h1:x1=1
  ·rw[if_pos (by simpa using h1),if_pos (by unfold lim;omega),if_pos (by simp;unfold lim;omega)]
   exact⟨_,_,rfl,g1.mono (by omega),ho.app (by simp;omega)⟩
  ·rw[if_neg (by simpa using h1)]
   by_cases h2:x1=2
   ·rw[if_pos (by simpa using h2)]
    by_cases h3:(out.2.length:Int)>0
    ·rw[if_pos (by simpa using h3)]
     obtain⟨c2,x2,e2,g2,_⟩:=Dn g1 (by omega) (l:= [(-1),N,0]) (by simp) (by simp)
     have e2:Ac (c1.1,(c1.2.1,c1.2.2)) [(-1),N,0]=_:=e2
     simp only[e2,Option.bind_some]
     rw[if_pos (by unfold inb;omega)]
     refine⟨_,_,rfl,g2.mono (by omega),⟨by show(List.set out.2 _ _).length<=601;rw[List.length_set];omega,λr hr=>?_⟩⟩
     have hr:r∈List.set out.2 (0:Int).toNat [x2]:=hr
     rcases List.mem_or_eq_of_mem_set hr with hr|rfl
     ·exact ho.2 r hr
     ·simp
    ·rw[if_neg (by simpa using h3)]
     exact⟨_,_,rfl,g1.mono (by omega),ho.mono (by omega) (by omega)⟩
   ·rw[if_neg (by simpa using h2)]
    exact⟨_,_,rfl,g1.mono (by omega),ho.mono (by omega) (by omega)⟩
theorem F4 {k:Nat} {c:Dy} (hc:Cur k c) (hk:k<=100000) {N A:Int} (hN:N<=100): ∃c' r,Bq c N A=some (c',r)/\Cur (k+200) c'/\rowsB 601 3 r.2:=by
 unfold Bq
 rw[GC,Cu]
 simp only[Option.bind_some]
 cases hs:HE N with
 |false=>exact⟨_,_,rfl,hc.mono (by omega),⟨by simp,by simp⟩⟩
 |true=>
  simp only[Bool.not_true,Bool.false_eq_true,if_false]
  by_cases hA:1<=A/\A<=3
  ·rw[if_neg (by simp;omega)]
   obtain⟨a,rfl⟩: ∃a:Nat,A=(a:Int):=⟨A.toNat,by omega⟩
   have hn:1<=N/\N<=8:=by unfold HE at hs;simpa using hs
   obtain⟨n,rfl⟩: ∃n:Nat,N=(n:Int):=⟨N.toNat,by omega⟩
   obtain⟨c1,x1,e1,g1,m1⟩:=Dn hc (by omega) (l:= [0,1,2,3,4,6,9]) (by simp) (by simp)
   have hx1:0<=x1/\x1<=9:=by simp at m1;omega
   obtain⟨m,rfl⟩: ∃m:Nat,x1=(m:Int):=⟨x1.toNat,by omega⟩
   obtain⟨c2,o,e2,g2,r2⟩:=Kn (N:=(n:Int)) (by omega) (A:=a) (by omega) (0,[]) m Aa (k+2) c1 [] (by unfold Aa;omega) g1 (by omega) (by simp;omega) rfl (by simp)
   have r2:rowsB 600 3 o:=r2.mono (by simp;omega) (by omega)
   have e1:Ac (c.1,(c.2.1,c.2.2)) [0,1,2,3,4,6,9]=_:=e1
   have e2:AZ Aa ((c1.1,(c1.2.1,c1.2.2)),(n:Int),(a:Int),(0,[]),((a:Int),[]),(m:Int))=_:=e2
   simp only[e1,e2,Option.bind_some]
   have hn':1<=n/\n<=8:=by omega
   have ha':1<=a/\a<=3:=by omega
   have fin: ∀(c:Dy) (out:Int×List (List Int)),Cur (k+150) c->rowsB 600 3 out.2-> ∃c' r,FO c (n:Int) (a:Int) out=some (c',r)/\Cur (k+200) c'/\rowsB 601 3 r.2:=λc out hc ho=>by
    obtain⟨c',r,e,g,h⟩:=HU hc (by omega) (N:=(n:Int)) (A:=a) (by omega) ho
    exact⟨c',r,e,g.mono (by omega),h⟩
   have mid: ∀(c:Dy) (out:Int×List (List Int)),Cur (k+130) c->rowsB 600 3 out.2-> ∃c' r,((AB (c.1,(c.2.1,c.2.2)) 12).bind λr8=>if r8.2 then(CS (n:Int) (a:Int)).bind λr9=>FO r8.1 (n:Int) (a:Int) r9 else FO r8.1 (n:Int) (a:Int) out)=some (c',r)/\Cur (k+200) c'/\rowsB 601 3 r.2:=λc out hc ho=>by
    obtain⟨c3,b3,e3,g3⟩:=Ha hc (by omega) 12 (by omega)
    have e3:AB (c.1,(c.2.1,c.2.2)) 12=_:=e3
    simp only[e3,Option.bind_some]
    cases b3 with
    |true=>
     obtain⟨w,e4,h4⟩:=Is hn' ha'
     simp only[if_true,e4,Option.bind_some]
     exact fin c3 ((a:Int),w) (g3.mono (by omega)) (h4.mono (by omega) (by omega))
    |false=>
     simp only[Bool.false_eq_true,if_false]
     exact fin c3 out (g3.mono (by omega)) ho
   by_cases h2:((a:Int)==2)=true
   ·rw[if_pos h2]
    obtain⟨c3,b3,e3,g3⟩:=Ha g2 (by omega) 3 (by omega)
    have e3:AB (c2.1,(c2.2.1,c2.2.2)) 3=_:=e3
    simp only[e3,Option.bind_some]
    cases b3 with
    |true=>
     obtain⟨c4,p,e4,g4,l4⟩:=Hb (N:=n) (by omega) g3 (by omega)
     have e4:BR (c3.1,(c3.2.1,c3.2.2)) (n:Int)=_:=e4
     obtain⟨w,e5,h5⟩:=Ix (p:=p) (by omega)
     simp only[if_true,e4,e5,Option.bind_some]
     exact mid c4 (2,w) (g4.mono (by omega)) (h5.mono (by omega) (by omega))
    |false=>
     simp only[Bool.false_eq_true,if_false]
     exact mid c3 ((a:Int),o) (g3.mono (by omega)) r2
   ·rw[if_neg h2]
    exact mid c2 ((a:Int),o) (g2.mono (by omega)) r2
  ·rw[if_pos (by simp;omega)]
   exact⟨_,_,rfl,hc.mono (by omega),⟨by simp,by simp⟩⟩
end T
open Go Go.Va
namespace T
def Hy (l:List D1):Prop:=l.length<=5/\ ∀r∈l,rowsB 601 3 r.2
def I6 (o:Option (Int×List D1)):Bool:=match o with
 |some (n,rels)=>decide (0<=n/\n<=5)&&(decide (rels.length<=5)&&rels.all λr=>decide (r.2.length<=601)&&r.2.all λt=>decide (t.length<=3))
 |none=>false
theorem JF (x:Int):I6 (DH x)=true:=by
 unfold DH
 repeat' split
 all_goals rfl
theorem I7 (x:Int): ∃n rels,DH x=some (n,rels)/\0<=n/\n<=5/\Hy rels:=by
 have h:=JF x
 unfold I6 at h
 split at h
 ·rename_i n rels e
  simp only[Bool.and_eq_true,decide_eq_true_eq,List.all_eq_true]at h
  exact⟨n,rels,e,h.1.1,h.1.2,h.2.1,λr hr=>h.2.2 r hr⟩
 ·simp at h
theorem Kt {l:List D1} {i:Nat} (hi:i<l.length) (hr:rowsB 1000 1000 l[i].2) (c:Dy) (n:Int) (o:List D1) (ar:Int):AK Aa (c,n,l,o,(i:Int),(ar,[]),0)=some (c,n,l,o,(i:Int),(ar,l[i].2)):=by
 have h1:=hr.1
 have:=Co l[i].2.length (λm (q:List (List Int)) k=>AK m (c,n,l,o,(i:Int),(ar,q),k)) (λk=>l[i].2.take k) (r:=some (c,n,l,o,(i:Int),(ar,l[i].2))) (λm k hk=>?_) (λm=>?_) (n:=Aa) (by unfold Aa;omega)
 ·exact this
 ·have e:=DI (l:=l[i].2[k]) (by have:=hr.2 _ (List.getElem_mem hk);omega)
  simp only[AK,Af,hi,Ae hi,hk,Ae hk,if_true,e,Option.bind_some,Ad (show k<4611686018427387904 by omega)]
  rw[if_pos (by simp;omega),if_pos (by simp;unfold lim;omega),List.take_succ_eq_append_getElem hk]
 ·simp only[AK,Af,hi,Ae hi,if_true,List.take_length]
  rw[if_neg (by simp)]
theorem Ks {l:List D1} (h:Hy l) (c:Dy) (n:Int):AJ Aa (c,n,l,[],0)=some (c,n,l):=by
 have h1:=h.1
 have:=Co l.length (λm (q:List D1) k=>AJ m (c,n,l,q,k)) (λk=>l.take k) (r:=some (c,n,l)) (λm k hk=>?_) (λm=>?_) (n:=Aa) (by unfold Aa;omega)
 ·exact this
 ·have e:=Kt hk ((h.2 _ (List.getElem_mem hk)).mono (by omega) (by omega)) c n (l.take k) l[k].1
  have e:AK Aa ((c.1,(c.2.1,c.2.2)),n,l,l.take k,(k:Int),(l[k].1,[]),0)=_:=e
  simp only[AJ,Af,hk,Ae hk,if_true,e,Option.bind_some,Ad (show k<4611686018427387904 by omega)]
  rw[if_pos (by simp;omega),if_pos (by simp;unfold lim;omega),List.take_succ_eq_append_getElem hk]
 ·simp only[AJ,List.take_length]
  rw[if_neg (by simp)]
theorem JV {n:Int} (hn:n<=100): ∀(d f k:Nat) (c:Dy) (o:List D1),d<f->Cur k c->k+300*d<=50000->o.length+d<=5->(∀r∈o,rowsB 601 3 r.2)->
  ∃c' o',AR f (c,n,o,(d:Int))=some (c',n,o')/\Cur (k+300*d) c'/\Hy o':=by
 intro d
 induction d with
 |zero=>
  intro f k c o hf hc hk ho hr
  obtain⟨f,rfl⟩: ∃z,f=z+1:=⟨f-1,by omega⟩
  refine⟨c,o,?_,hc,⟨by omega,hr⟩⟩
  simp only[AR]
  rw[if_neg (by simp)]
 |succ d ih=>
  intro f k c o hf hc hk ho hr
  obtain⟨f,rfl⟩: ∃z,f=z+1:=⟨f-1,by omega⟩
  obtain⟨c1,x1,e1,g1,_⟩:=Dn hc (by omega) (l:= [1,2,2,3]) (by simp) (by simp)
  have e1:Ac (c.1,(c.2.1,c.2.2)) [1,2,2,3]=_:=e1
  obtain⟨c2,r,e2,g2,h2⟩:=F4 (N:=n) (A:=x1) g1 (by omega) hn
  have e2:Bq (c1.1,(c1.2.1,c1.2.2)) n x1=_:=e2
  obtain⟨c',o',e3,g3,h3⟩:=ih f (k+202) c2 (o++ [r]) (by omega) (g2.mono (by omega)) (by omega) (by simp;omega) (λq hq=>by
   rcases List.mem_append.1 hq with hq|hq
   ·exact hr q hq
   ·rw[List.mem_singleton.1 hq];exact h2)
  refine⟨c',o',?_,g3.mono (by omega),h3⟩
  have ew:w64 (((d+1:Nat):Int)-1)=(d:Int):=by rw[AP (by omega) (by omega)];omega
  simp only[AR,e1,e2,Option.bind_some,ew]
  rw[if_pos (by simp),if_pos (by simp;unfold lim;omega)]
  exact e3
theorem GW {k:Nat} {c:Dy} (hc:Cur k c) (hk:k<=1000000) (l:List Int) (b m:Nat) (hm:11<=m/\m<=24) (hb:0<b) (hl:b+(23/m)<=l.length) (hl2:l.length<=100):
  ∃c1 x1 c' x,Ag (c.1,(c.2.1,c.2.2)) 24=some (c1,x1)/\((0:Int)<=0/\0<=(w64 ((b:Int)+(w64 (Int.tdiv x1 (m:Int)))))/\(w64 ((b:Int)+(w64 (Int.tdiv x1 (m:Int)))))<=(l.length:Int))/\
   Ac (c1.1,(c1.2.1,c1.2.2)) ((l.take (Int.toNat (w64 ((b:Int)+(w64 (Int.tdiv x1 (m:Int))))))).drop (Int.toNat 0))=some (c',x)/\Cur (k+4) c'/\x∈l:=by
 obtain⟨c1,x1,e1,g1,a1,b1,_⟩:=Dr hc (by omega) 24 (by omega)
 have b1:=b1 (by omega)
 obtain⟨y,rfl⟩: ∃y:Nat,x1=(y:Int):=⟨x1.toNat,by omega⟩
 have hqb:y/m<=23/m:=Nat.div_le_div_right (by omega)
 have hq:Int.tdiv (y:Int) (m:Int)=((y/m:Nat):Int):=by rw[Int.tdiv_eq_ediv_of_nonneg (by omega)];rfl
 obtain⟨q,eq⟩: ∃q,q=y/m:=⟨_,rfl⟩
 obtain⟨z,ez⟩: ∃z,z=23/m:=⟨_,rfl⟩
 rw[←ez]at hqb hl
 rw[←eq]at hqb hq
 clear eq ez
 refine⟨c1,(y:Int),?_⟩
 rw[hq]
 clear hq
 have w1:w64 ((q:Nat):Int)=(q:Int):=AP (by omega) (by omega)
 have w2:w64 ((b:Int)+(q:Int))=((b+q:Nat):Int):=by rw[AP (by omega) (by omega)];omega
 rw[w1,w2]
 have e0:(l.take (Int.toNat ((b+q:Nat):Int))).drop (Int.toNat 0)=l.take (b+q):=by rw[Int.toNat_natCast];rfl
 rw[e0]
 obtain⟨c2,x2,e2,g2,m2⟩:=Dn g1 (by omega) (l:=l.take (b+q)) (by rw[List.length_take];omega) (by rw[List.length_take];omega)
 exact⟨c2,x2,e1,by omega,e2,g2.mono (by omega),List.mem_of_mem_take m2⟩
theorem HH {k:Nat} {c:Dy} (hc:Cur k c) (hk:k<=10000): ∃c' n rels,Cg c=some (c',n,rels)/\Cur (k+2000) c'/\0<=n/\n<=5/\Hy rels:=by
 obtain⟨c1,b1,e1,g1⟩:=Ha hc (by omega) 3 (by omega)
 have e1:AB (c.1,(c.2.1,c.2.2)) 3=_:=e1
 unfold Cg
 simp only[e1,Option.bind_some]
 cases b1 with
 |false=>
  obtain⟨c2,x2,e2,g2,_⟩:=Dr g1 (by omega) 11 (by omega)
  have e2:Ag (c1.1,(c1.2.1,c1.2.2)) 11=_:=e2
  obtain⟨n,rels,e3,h1,h2,h3⟩:=I7 x2
  have e4:=Ks h3 c2 n
  have e4:AJ Aa ((c2.1,(c2.2.1,c2.2.2)),n,rels,[],0)=_:=e4
  simp only[Bool.not_false,if_true,e2,e3,e4,Option.bind_some]
  exact⟨_,_,_,rfl,g2.mono (by omega),h1,h2,h3⟩
 |true=>
  simp only[Bool.not_true,Bool.false_eq_true,if_false]
  obtain⟨d1,y1,c2,n,e2,i2,f2,g2,m2⟩:=GW g1 (by omega) [1,2,2,2,3,3,4,0,5] 7 11 (by omega) (by omega) (by simp) (by simp)
  obtain⟨d2,y2,c3,d,e3,i3,f3,g3,m3⟩:=GW g2 (by omega) [0,1,1,2,4,5] 5 23 (by omega) (by omega) (by simp) (by simp)
  have hn:0<=n/\n<=5:=by simp at m2;omega
  have hd:0<=d/\d<=5:=by simp at m3;omega
  obtain⟨D,rfl⟩: ∃D:Nat,d=(D:Int):=⟨d.toNat,by omega⟩
  obtain⟨c4,rels,e4,g4,h4⟩:=JV (n:=n) (by omega) D Aa (k+10) c3 [] (by unfold Aa;omega) (g3.mono (by omega)) (by omega) (by simp;omega) (by simp)
  have e4:AR Aa ((c3.1,(c3.2.1,c3.2.2)),n,[],(D:Int))=_:=e4
  simp only[e2,Option.bind_some]
  rw[if_pos (by decide),if_pos (show(0:Int)<=0/\0<=(w64 (7+(w64 (Int.tdiv y1 11))))/\(w64 (7+(w64 (Int.tdiv y1 11))))<=([1,2,2,2,3,3,4,0,5].length:Int) from i2)]
  have f2:Ac (d1.1,(d1.2.1,d1.2.2)) (([1,2,2,2,3,3,4,0,5].take (Int.toNat (w64 (7+(w64 (Int.tdiv y1 11)))))).drop (Int.toNat 0))=_:=f2
  rw[f2]
  simp only[Option.bind_some,e3]
  rw[if_pos (by decide),if_pos (show(0:Int)<=0/\0<=(w64 (5+(w64 (Int.tdiv y2 23))))/\(w64 (5+(w64 (Int.tdiv y2 23))))<=([0,1,1,2,4,5].length:Int) from i3)]
  have f3:Ac (d2.1,(d2.2.1,d2.2.2)) (([0,1,1,2,4,5].take (Int.toNat (w64 (5+(w64 (Int.tdiv y2 23)))))).drop (Int.toNat 0))=_:=f3
  rw[f3]
  simp only[Option.bind_some,e4]
  exact⟨_,_,_,rfl,g4.mono (by omega),hn.1,hn.2,h4⟩
end T
open Go Go.Va
namespace T
theorem HX {α:Type} [DecidableEq α] {l l':List α} (d:α) (h:l.length=l'.length):(List.range l.length).all (λk=>decide (l.getD k d=l'.getD k d))=decide (l=l'):=by
 rw[Bool.eq_iff_iff]
 simp only[List.all_eq_true,List.mem_range,decide_eq_true_eq]
 constructor
 ·intro hx
  refine List.ext_getElem h λi h1 h2=>?_
  have:=hx i h1
  rwa [Ab h1,Ab h2]at this
 ·rintro rfl _ _;rfl
section
variable {A B:Nat->Nat} {m j:Nat}
end
section
variable {n k m:Nat} {r:D1} {rels:List D1}
end
end T
open Go Go.Va
namespace T
section
variable {V n k:Nat} {cs:List Con} {rels:List D1}
theorem GU (h:SrchOk V n cs):BH ((V:Int),((n:Int),cs))=true:=by
 have hv:=h.hv
 have hn:=h.hn
 have hc:=h.hc
 unfold BH
 simp only[Bool.and_eq_true,decide_eq_true_eq,List.all_eq_true]
 refine⟨⟨⟨by omega,by omega⟩,hc⟩,λc hcm=>?_⟩
 have h1:=h.con c hcm
 have h3:=h1.sl
 unfold FG Hd BC
 simp only[Bool.and_eq_true,decide_eq_true_eq,List.all_eq_true]
 refine⟨⟨⟨⟨h1.ar,λt ht=>⟨by have:=h1.tl t ht;omega,λx hx=>?_⟩⟩,h1.inc⟩,h3⟩,λx hx=>?_⟩
 ·obtain⟨j,hj,rfl⟩:=List.mem_iff_getElem.1 hx
  exact h1.tv t ht j hj
 ·obtain⟨j,hj,rfl⟩:=List.mem_iff_getElem.1 hx
  exact h1.sv j hj
end
end T
open Go Go.Va
namespace T
section
variable {V n k:Nat} {cs:List Con} {rels:List D1}
theorem Gw {a b:List Int} (h:a.length<=1048576):Eu a b=some (decide (a=b)):=by
 unfold Eu
 by_cases h2:a.length=b.length
 ·rw[if_neg (by simp[h2])]
  have:=Hp a.length (λn (_:Unit) i=>CE n (a,b,i)) (λ_=>()) (λk=>decide (a.getD k 0=b.getD k 0)) (r:=some (.inr false)) (e:=some (.inl ())) (λf k hk=>?_) (λf=>?_) (n:=Aa) (by unfold Aa;omega)
  ·rw[HX 0 h2]at this
   have this:CE Aa (a,b,0)=_:=this
   rw[this]
   by_cases e:a=b
   ·subst e;simp
   ·simp[e]
  ·simp only[CE,Af,hk,Ae hk,h2▸hk,Ae (h2▸hk),if_true,Ab hk,Ab (h2▸hk:k<b.length),Ad (show k<4611686018427387904 by omega)]
   rw[if_pos (by simp;omega)]
   by_cases e:a[k]=b[k]<;>simp[e]
  ·simp only[CE]
   rw[if_neg (by simp)]
 ·rw[if_pos (by simpa using λh=>h2 (by omega))]
  rw[decide_eq_false λh=>h2 (by rw[h])]
theorem GY {a b:List (List Int)} (h:a.length<=1048576) (ht: ∀t∈a,t.length<=1048576):Ec a b=some (decide (a=b)):=by
 unfold Ec
 by_cases h2:a.length=b.length
 ·rw[if_neg (by simp[h2])]
  have:=Hp a.length (λn (_:Unit) i=>Ck n (a,b,i)) (λ_=>()) (λk=>decide (a.getD k []=b.getD k [])) (r:=some (.inr false)) (e:=some (.inl ())) (λf k hk=>?_) (λf=>?_) (n:=Aa) (by unfold Aa;omega)
  ·rw[HX [] h2]at this
   have this:Ck Aa (a,b,0)=_:=this
   rw[this]
   by_cases e:a=b
   ·subst e;simp
   ·simp[e]
  ·have e:=Gw (a:=a[k]) (b:=b[k]) (ht _ (List.getElem_mem hk))
   simp only[Ck,Af,hk,Ae hk,h2▸hk,Ae (h2▸hk),e,Option.bind_some,if_true,Ab hk,Ab (h2▸hk:k<b.length),Ad (show k<4611686018427387904 by omega)]
   rw[if_pos (by simp;omega)]
   by_cases e:a[k]=b[k]<;>simp[e]
  ·simp only[Ck]
   rw[if_neg (by simp)]
 ·rw[if_pos (by simpa using λh=>h2 (by omega))]
  rw[decide_eq_false λh=>h2 (by rw[h])]
end
end T
open Go Go.Va
namespace T
section
variable {n k m:Nat} {r:D1} {rels:List D1} {given t:List Int}
theorem Fe {ok:List Int->Bool}: ∀(m:Nat) (pre t:List Int),t∈Dw n given ok m pre↔t.length=pre.length+m/\t.take pre.length=pre/\
  ∀q,pre.length<=q->q<t.length->(0<=t.getD q 0/\t.getD q 0<(n:Int))/\D9 given q (t.getD q 0).toNat=true/\ok (t.take (q+1))=true
 |0,pre,t=>by
  simp only[Dw,List.mem_singleton,Nat.add_zero]
  constructor
  ·rintro rfl
   exact⟨rfl,by simp,λq h1 h2=>by omega⟩
  ·rintro ⟨h1,h2,_⟩
   rw[←h2,List.take_of_length_le (by omega)]
 |m+1,pre,t=>by
  simp only[Dw,List.mem_flatMap,List.mem_range]
  constructor
  ·rintro ⟨x,hx,h⟩
   by_cases hc:(D9 given pre.length x&&ok (pre++ [(x:Int)]))=true
   ·rw[if_pos hc]at h
    obtain⟨h1,h2,h3⟩:=(Fe m (pre++ [(x:Int)]) t).1 h
    rw[Bool.and_eq_true]at hc
    rw[List.length_append,List.length_singleton]at h1 h2 h3
    have hv:t.getD pre.length 0=(x:Int):=by
     have hl:pre.length<t.length:=by omega
     have e:(t.take (pre.length+1)).getD pre.length 0=t.getD pre.length 0:=by simp[List.getD_eq_getElem?_getD,List.getElem?_take]
     rw[←e,h2];simp[List.getD_eq_getElem?_getD]
    refine⟨by omega,?_,λq h4 h5=>?_⟩
    ·have:(t.take (pre.length+1)).take pre.length=pre:=by rw[h2];simp
     rw[List.take_take]at this
     rwa [Nat.min_eq_left (by omega)]at this
    ·by_cases e:q=pre.length
     ·subst e
      rw[hv,h2]
      exact⟨by omega,by rw[Int.toNat_natCast];exact hc.1,hc.2⟩
     ·exact h3 q (by omega) h5
   ·rw[if_neg hc]at h;simp at h
  ·rintro ⟨h1,h2,h3⟩
   have hl:pre.length<t.length:=by omega
   obtain⟨a1,a2,a3⟩:=h3 pre.length (Nat.le_refl _) hl
   have hx:(((t.getD pre.length 0).toNat:Nat):Int)=t.getD pre.length 0:=Int.toNat_of_nonneg a1.1
   have ht:t.take (pre.length+1)=pre++ [(((t.getD pre.length 0).toNat:Nat):Int)]:=by
    rw[hx,List.take_succ_eq_append_getElem hl,h2,Ab hl]
   refine⟨(t.getD pre.length 0).toNat,by omega,?_⟩
   rw[if_pos (by rw[Bool.and_eq_true];exact⟨a2,by rw[←ht];exact a3⟩)]
   refine(Fe m _ t).2 ⟨by simp;omega,by rw[List.length_append,List.length_singleton];exact ht,λq h4 h5=>h3 q (by rw[List.length_append,List.length_singleton]at h4;omega) h5⟩
theorem Hv {N q x:Nat} (hq:q<N):D9 (List.replicate N (-1)) q x=true:=by
 unfold D9
 rw[Ab (by simpa using hq)];simp
end
end T
set_option linter.unusedVariables false
open Go Go.Va
namespace T
def Cb:Nat->((List (List Int))×Int×Int)->Option (Int)
 |0,_=>none
 |n+1,(domains,n_,v)=>
 if decide (v<(domains.length:Int))then
 if inb v domains then
 Cb n (domains,w64 (n_+((gd domains v []).length:Int)),w64 (v+1))
 else none
 else
 some n_
def DW (domains:List (List Int)):Option (Int):=
 (Cb Aa (domains,0,0)).bind λs1=>
 some s1
def AH:Nat->((Int×Int×(List ((List Int)×Int×(List (List Int)))))×Int×(List (List Int))×Int×Int×Int)->Option ((Int×Int×(List ((List Int)×Int×(List (List Int)))))×Int×(List (List Int))×Int×Int)
 |0,_=>none
 |n+1,(t1,t6,t7,t9,t10,t11)=>
 if decide (t11<t1.2.1)then
 (Ey t1.1).bind λr4=>
 if inb t10 r4 then
 (CT (t1.1,(t1.2.1,t1.2.2)) t1.2.2 (stt r4 t10 t11) 1 true).bind λr5=>
 if r5.2.1==0 then
 AH n ((t1.1,(t1.2.1,t1.2.2)),t6,t7,w64 (t9+1),t10,w64 (t11+1))
 else
 AH n ((t1.1,(t1.2.1,t1.2.2)),t6,t7,t9,t10,w64 (t11+1))
 else none
 else
 some ((t1.1,(t1.2.1,t1.2.2)),t6,t7,t9,t10)
def Ba:Nat->((Int×Int×(List ((List Int)×Int×(List (List Int)))))×Int×(List (List Int))×Int×Int)->Option ((Int×Int×(List ((List Int)×Int×(List (List Int)))))×Int×(List (List Int))×Int)
 |0,_=>none
 |n+1,(t1,t6,t7,t9,t10)=>
 if decide (t10<t1.1)then
 (AH Aa ((t1.1,(t1.2.1,t1.2.2)),t6,t7,t9,t10,0)).bind λs4=>
 Ba n ((s4.1.1,(s4.1.2.1,s4.1.2.2)),s4.2.1,s4.2.2.1,s4.2.2.2.1,w64 (s4.2.2.2.2+1))
 else
 some ((t1.1,(t1.2.1,t1.2.2)),t6,t7,t9)
def Dg (t0:Int×Int×(List ((List Int)×Int×(List (List Int))))):Option (Int×Int×Int×Bool):=
 (Ct (t0.1,(t0.2.1,t0.2.2))).bind λr1=>
 if !r1 then
 some (0,0,0,false)
 else
 (CV (t0.1,(t0.2.1,t0.2.2))).bind λr2=>
 (Dl (t0.1,(t0.2.1,t0.2.2)) r2).bind λr3=>
 (Ba Aa ((t0.1,(t0.2.1,t0.2.2)),w64 (t0.1*t0.2.1),r3.1,0,0)).bind λs4=>
 (DW s4.2.2.1).bind λr5=>
 (Dv (s4.1.1,(s4.1.2.1,s4.1.2.2))).bind λr6=>
 (DW r6).bind λr7=>
 some (w64 (s4.2.1-r5),w64 (s4.2.1-r7),s4.2.2.2,true)
def AQ:Nat->(Int×(List (List Bool))×Int×Int)->Option (Int)
 |0,_=>none
 |n+1,(many,t6,t7,t8)=>
 if decide (t8<t7)then
 if inb t8 t6 then
 (DK (gd t6 t8 [])).bind λr1=>
 AQ n (w64 (many+(w64 (((gd t6 t8 []).length:Int)-(r1.length:Int)))),t6,t7,w64 (t8+1))
 else none
 else
 some many
def BD (d:List (List Bool)):Option (Int):=
 (AQ Aa (0,d,(d.length:Int),0)).bind λs1=>
 some s1
def AL:Nat->((List (List Bool))×(List Int)×Int×Int)->Option ((List (List Bool)))
 |0,_=>none
 |n+1,(t1,t6,t7,t8)=>
 if decide (t8<t7)then
 if inb t8 t6 then
 if inb t8 t1 then
 if inb (gd t6 t8 0) (gd t1 t8 [])then
 AL n (stt t1 t8 (stt (gd t1 t8 []) (gd t6 t8 0) true),t6,t7,w64 (t8+1))
 else none
 else none
 else none
 else
 some t1
def BW (values:List Int) (t1:List (List Bool)):Option ((List (List Bool))×Bool):=
 (AL Aa (t1,values,(values.length:Int),0)).bind λs1=>
 some (s1,true)
def Aj (rec:(Int×(List Int)×(List (List Bool))×(Bool×Int×(List (List (List Int)))×(List (List (List ByteArray))))×(List Int)×Unit)->Option ((List Int)×(List (List Bool))×(Bool×Int×(List (List (List Int)))×(List (List (List ByteArray))))×(List Int)×Bool)):Nat->(Int×(List Int)×(List (List Bool))×(Bool×Int×(List (List (List Int)))×(List (List (List ByteArray))))×(List Int)×Unit×Int×Bool×(List (List Int))×Int×Int)->Option (Int×(List Int)×(List (List Bool))×(Bool×Int×(List (List (List Int)))×(List (List (List ByteArray))))×(List Int)×Unit×Int×Bool)
 |0,_=>none
 |n+1,(t0,t1,t2,t3,t4,t5,t8,t9,t50,t51,t52)=>
 if decide (t52<t51)then
 if inb t52 t50 then
 if t9 then
 if t3.1=true then
 if inb t0 t3.2.2.2 then
 if inb t52 (gd t3.2.2.2 t0 [])then
 (Do (gd t50 t52 []) t1).bind λr2=>
 (DC r2).bind λr3=>
 Aj rec n (t0,t1,t2,t3,t4,(),t8,Xs (gd (gd t3.2.2.2 t0 []) t52 []) r3,t50,t51,w64 (t52+1))
 else none
 else none
 else none
 else
 Aj rec n (t0,t1,t2,t3,t4,(),t8,false,t50,t51,w64 (t52+1))
 else none
 else
 some (t0,t1,t2,t3,t4,(),t8,t9)
def Ah (rec:(Int×(List Int)×(List (List Bool))×(Bool×Int×(List (List (List Int)))×(List (List (List ByteArray))))×(List Int)×Unit)->Option ((List Int)×(List (List Bool))×(Bool×Int×(List (List (List Int)))×(List (List (List ByteArray))))×(List Int)×Bool)):Nat->(Int×(List Int)×(List (List Bool))×(Bool×Int×(List (List (List Int)))×(List (List (List ByteArray))))×(List Int)×Unit×Int)->Option (((List Int)×(List (List Bool))×(Bool×Int×(List (List (List Int)))×(List (List (List ByteArray))))×(List Int)×Unit)⊕((List Int)×(List (List Bool))×(Bool×Int×(List (List (List Int)))×(List (List (List ByteArray))))×(List Int)×Unit×Bool))
 |0,_=>none
 |n+1,(t0,t1,t2,t3,t4,t5,t8)=>
 if t3.1=true then
 if decide (t8<t3.2.1)then
 if inb t0 t4 then
 if decide ((gd t4 t0 0)≥0)then
 if inb t0 t4 then
 if(gd t4 t0 0) !=t8 then
 Ah rec n (t0,t1,t2,t3,t4,(),w64 (t8+1))
 else
 if inb t0 t1 then
 if t3.1=true then
 if inb t0 t3.2.2.1 then
 (Aj rec Aa (t0,stt t1 t0 t8,t2,t3,t4,(),t8,true,gd t3.2.2.1 t0 [],((gd t3.2.2.1 t0 []).length:Int),0)).bind λs2=>
 if s2.2.2.2.2.2.2.2 then
 (rec (w64 (s2.1+1),s2.2.1,s2.2.2.1,s2.2.2.2.1,s2.2.2.2.2.1,())).bind λr3=>
 if !r3.2.2.2.2 then
 some (.inr (r3.1,r3.2.1,r3.2.2.1,r3.2.2.2.1,(),false))
 else
 Ah rec n (s2.1,r3.1,r3.2.1,r3.2.2.1,r3.2.2.2.1,(),w64 (s2.2.2.2.2.2.2.1+1))
 else
 Ah rec n (s2.1,s2.2.1,s2.2.2.1,s2.2.2.2.1,s2.2.2.2.2.1,(),w64 (s2.2.2.2.2.2.2.1+1))
 else none
 else none
 else none
 else none
 else
 if inb t0 t1 then
 if t3.1=true then
 if inb t0 t3.2.2.1 then
 (Aj rec Aa (t0,stt t1 t0 t8,t2,t3,t4,(),t8,true,gd t3.2.2.1 t0 [],((gd t3.2.2.1 t0 []).length:Int),0)).bind λs4=>
 if s4.2.2.2.2.2.2.2 then
 (rec (w64 (s4.1+1),s4.2.1,s4.2.2.1,s4.2.2.2.1,s4.2.2.2.2.1,())).bind λr5=>
 if !r5.2.2.2.2 then
 some (.inr (r5.1,r5.2.1,r5.2.2.1,r5.2.2.2.1,(),false))
 else
 Ah rec n (s4.1,r5.1,r5.2.1,r5.2.2.1,r5.2.2.2.1,(),w64 (s4.2.2.2.2.2.2.1+1))
 else
 Ah rec n (s4.1,s4.2.1,s4.2.2.1,s4.2.2.2.1,s4.2.2.2.2.1,(),w64 (s4.2.2.2.2.2.2.1+1))
 else none
 else none
 else none
 else none
 else
 some (.inl (t1,t2,t3,t4,()))
 else none
def AS (rec:(Int×(List Int)×(List (List Bool))×(Bool×Int×(List (List (List Int)))×(List (List (List ByteArray))))×(List Int)×Unit)->Option ((List Int)×(List (List Bool))×(Bool×Int×(List (List (List Int)))×(List (List (List ByteArray))))×(List Int)×Bool)) (t0:Int) (t1:List Int) (t2:List (List Bool)) (t3:Bool×Int×(List (List (List Int)))×(List (List (List ByteArray)))) (t4:List Int) (t5:Unit):Option ((List Int)×(List (List Bool))×(Bool×Int×(List (List (List Int)))×(List (List (List ByteArray))))×(List Int)×Bool):=
 if t0==(t1.length:Int)then
  (BW t1 t2).bind λr1=>
   some (t1,r1.1,t3,t4,r1.2)
 else
  (Ah rec Aa (t0,t1,t2,t3,t4,(),0)).bind λs2=>
   match s2 with
   | .inl s3=>
    some (s3.1,s3.2.1,s3.2.2.1,s3.2.2.2.1,true)
   | .inr s4=>
    some (s4.1,s4.2.1,s4.2.2.1,s4.2.2.2.1,s4.2.2.2.2.2)
def Al:Nat->(Int×(List Int)×(List (List Bool))×(Bool×Int×(List (List (List Int)))×(List (List (List ByteArray))))×(List Int)×Unit)->Option ((List Int)×(List (List Bool))×(Bool×Int×(List (List (List Int)))×(List (List (List ByteArray))))×(List Int)×Bool)
 |0,_=>none
 |d+1,x=>AS (Al d) x.1 x.2.1 x.2.2.1 x.2.2.2.1 x.2.2.2.2.1 x.2.2.2.2.2
def Bs (s:Bool×Int×(List (List (List Int)))×(List (List (List ByteArray)))) (partial_:List Int) (found:List (List Bool)):Option ((List (List Bool))):=
 if 0<=(partial_.length:Int)/\(partial_.length:Int)<=(partial_.length:Int)/\(partial_.length:Int)<=lim then
 (Al Aa (0,List.replicate (Int.toNat (partial_.length:Int)) (0:Int),found,s,partial_,())).bind λr1=>
 some r1.2.1
 else none
def AO (net:Int×Int×(List ((List Int)×Int×(List (List Int))))) (found:List (List Bool)):Option ((List (List Bool))):=
 (CG (net.1,(net.2.1,net.2.2))).bind λr1=>
 (D3 net.1).bind λr2=>
 (Bs r1 r2 found).bind λr3=>
 some r3
def AM:Nat->((Int×Int×(List ((List Int)×Int×(List (List Int)))))×(List (List Bool))×Int×Int)->Option ((Int×Int×(List ((List Int)×Int×(List (List Int)))))×(List (List Bool)))
 |0,_=>none
 |n+1,(net,solved,t14,t15)=>
 if decide (t15<t14)then
 if inb t15 solved then
 AM n ((net.1,(net.2.1,net.2.2)),stt solved t15 (List.replicate (gd solved t15 []).length false),t14,w64 (t15+1))
 else none
 else
 some ((net.1,(net.2.1,net.2.2)),solved)
def Db (net:Int×Int×(List ((List Int)×Int×(List (List Int))))):Option (Int×Int×Int×Bool):=
 (Bk (net.1,(net.2.1,net.2.2))).bind λr1=>
 if !r1 then
 some (0,0,0,false)
 else
 (Bp (net.1,(net.2.1,net.2.2))).bind λr2=>
 (AM Aa ((net.1,(net.2.1,net.2.2)),r2,(r2.length:Int),0)).bind λs3=>
 (AO (s3.1.1,(s3.1.2.1,s3.1.2.2)) s3.2).bind λr4=>
 (B3 (s3.1.1,(s3.1.2.1,s3.1.2.2))).bind λr5=>
 (BD r5).bind λr6=>
 (Cs (s3.1.1,(s3.1.2.1,s3.1.2.2))).bind λr7=>
 (BD r7).bind λr8=>
 (BD r4).bind λr9=>
 some (r6,r8,r9,true)
end T
open Go Go.Va
namespace T
section
variable {a:Net} {D:Dom}
def EX (D:Dom):Nat:=(D.map λr=>(mk r).length).sum
def DL (D:Dom):Nat:=(D.map λr=>r.length-(mk r).length).sum
theorem Jb (r:List Bool):(mk r).length<=r.length:=by
 unfold mk
 rw[List.length_map]
 exact Nat.le_trans (List.length_filter_le _ _) (by simp)
theorem D8 {α:Type} (f:α->Nat) (B:Nat): ∀(l:List α),(∀x∈l,f x<=B)->(l.map f).sum<=B*l.length
 | [],_=>by simp
 |x::l,h=>by
  have h1:=D8 f B l λy hy=>h y (List.mem_cons_of_mem _ hy)
  have h2:=h x (List.mem_cons_self ..)
  simp only[List.map_cons,List.sum_cons,List.length_cons,Nat.mul_succ]
  omega
theorem Ib (hl:D.length<=1000) (hr: ∀r∈D,r.length<=1000):DW (D.map mk)=some ((EX D:Nat):Int):=by
 have hb: ∀k,((D.take k).map λr=>(mk r).length).sum<=1000*1000:=λk=>by
  refine Nat.le_trans (D8 _ 1000 _ λr h=>Nat.le_trans (Jb r) (hr r (List.mem_of_mem_take h))) (Nat.mul_le_mul_left _ ?_)
  rw[List.length_take];omega
 have:=Co D.length (λf (s:Int) i=>Cb f (D.map mk,s,i)) (λk=>((((D.take k).map λr=>(mk r).length).sum:Nat):Int)) (r:=some ((EX D:Nat):Int)) (λf k hk=>?_) (λf=>?_) (n:=Aa) (by unfold Aa;omega)
 ·have this:Cb Aa (D.map mk,0,0)=_:=this
  unfold DW
  rw[this];rfl
 ·have hm:k<(D.map mk).length:=by simpa using hk
  have hg:gd (D.map mk) (k:Int) []=mk D[k]:=by rw[Ae hm];simp
  have e:((D.take (k+1)).map λr=>(mk r).length).sum=((D.take k).map λr=>(mk r).length).sum+(mk D[k]).length:=by
   rw[List.take_succ_eq_append_getElem hk,List.map_append];simp
  have hb1:=hb (k+1)
  have ew:w64 (((((D.take k).map λr=>(mk r).length).sum:Nat):Int)+((mk D[k]).length:Int))=((((D.take (k+1)).map λr=>(mk r).length).sum:Nat):Int):=by
   rw[e]at hb1⊢
   rw[AP (by omega) (by omega)];omega
  simp only[Cb,Af,hm,hg,if_true,ew,Ad (show k<4611686018427387904 by omega)]
  rw[if_pos (by rw[decide_eq_true_eq,List.length_map];omega)]
 ·simp only[Cb,List.take_length]
  rw[if_neg (by simp)];rfl
theorem Fw (hl:D.length<=1000) (hr: ∀r∈D,r.length<=1000):BD D=some ((DL D:Nat):Int):=by
 have hb: ∀k,((D.take k).map λr=>r.length-(mk r).length).sum<=1000*1000:=λk=>by
  refine Nat.le_trans (D8 _ 1000 _ λr h=>Nat.le_trans (Nat.sub_le _ _) (hr r (List.mem_of_mem_take h))) (Nat.mul_le_mul_left _ ?_)
  rw[List.length_take];omega
 have:=Co D.length (λf (s:Int) i=>AQ f (s,D,(D.length:Int),i)) (λk=>((((D.take k).map λr=>r.length-(mk r).length).sum:Nat):Int)) (r:=some ((DL D:Nat):Int)) (λf k hk=>?_) (λf=>?_) (n:=Aa) (by unfold Aa;omega)
 ·have this:AQ Aa (0,D,(D.length:Int),0)=_:=this
  unfold BD
  rw[this];rfl
 ·have hrk:=hr _ (List.getElem_mem hk)
  have hm:=Jb D[k]
  have e1:=D4 (r:=D[k]) (by omega)
  have e:((D.take (k+1)).map λr=>r.length-(mk r).length).sum=((D.take k).map λr=>r.length-(mk r).length).sum+(D[k].length-(mk D[k]).length):=by
   rw[List.take_succ_eq_append_getElem hk,List.map_append];simp
  have hb1:=hb (k+1)
  have ew0:w64 ((D[k].length:Int)-((mk D[k]).length:Int))=((D[k].length-(mk D[k]).length:Nat):Int):=by
   rw[AP (by omega) (by omega)];omega
  have ew:w64 (((((D.take k).map λr=>r.length-(mk r).length).sum:Nat):Int)+((D[k].length-(mk D[k]).length:Nat):Int))=((((D.take (k+1)).map λr=>r.length-(mk r).length).sum:Nat):Int):=by
   rw[e]at hb1⊢
   rw[AP (by omega) (by omega)];omega
  simp only[AQ,Af,hk,Ae hk,e1,Option.bind_some,ew0,ew,if_true,Ad (show k<4611686018427387904 by omega)]
  rw[if_pos (by rw[decide_eq_true_eq];omega)]
 ·simp only[AQ,List.take_length]
  rw[if_neg (by simp)];rfl
theorem FW (h:DomOk a D):(EX D:Int)+(DL D:Int)=a.1*a.2.1:=by
 have key: ∀(l:Dom),(∀r∈l,(r.length:Int)=a.2.1)->(((l.map λr=>(mk r).length).sum:Nat):Int)+(((l.map λr=>r.length-(mk r).length).sum:Nat):Int)=(l.length:Int)*a.2.1:=by
  intro l
  induction l with
  |nil=>intro _;simp
  |cons r l ih=>
   intro hl
   have h1:=ih λx hx=>hl x (List.mem_cons_of_mem _ hx)
   have h2:=hl r (List.mem_cons_self ..)
   have h3:=Jb r
   simp only[List.map_cons,List.sum_cons,List.length_cons]
   have e:((l.length+1:Nat):Int)*a.2.1=(l.length:Int)*a.2.1+a.2.1:=by push_cast;rw[Int.add_mul,Int.one_mul]
   rw[e]
   omega
 have:=key D h.row
 rw[h.len]at this
 exact this
end
end T
open Go Go.Va
namespace T
def HS (t:List Int) (s:Dom):Option (Dom×Bool):=BW t s
theorem Hm (rec): ∀f x,Aj rec f x=hM f x
 |0,_=>rfl
 |f+1,(a,b,c,d,e,g,x,y,z,u,v)=>by simp only[Aj,hM,Hm rec f]
theorem Hl (rec): ∀f x,Ah rec f x=hL rec f x
 |0,_=>rfl
 |f+1,(a,b,c,d,e,g,x)=>by simp only[Ah,hL,Hl rec f,Hm]
theorem IV: ∀d x,Al d x=hF HS d x
 |0,_=>rfl
 |d+1,(a,t,s,ps,g,u)=>by
  have e:Al d=hF HS d:=funext λx=>IV d x
  simp only[Al,hF,Hq,AS,Hl,e]
  split
  ·unfold HS;cases BW t s<;>rfl
  ·congr 1;funext z;cases z<;>rfl
section
variable {V n:Nat} {cs:List Con} {t:List Int}
def B2 (V n:Nat) (p:Nat->Nat->Bool):Dom:=(List.range V).map λv=>(List.range n).map (p v)
theorem FK {p:Nat->Nat->Bool}:(B2 V n p).length=V:=by simp[B2]
theorem Gr {p:Nat->Nat->Bool} {v:Nat} (hv:v<V):gd (B2 V n p) (v:Int) []=(List.range n).map (p v):=by
 rw[Ae (by rw[FK];exact hv)];simp[B2]
theorem I9 {p:Nat->Nat->Bool} {v x:Nat} (hv:v<V) (hx:x<n):stt (B2 V n p) (v:Int) (stt (gd (B2 V n p) (v:Int) []) (x:Int) true)=B2 V n (λu y=>p u y||decide (v=u/\x=y)):=by
 rw[Gr hv,BS,BS]
 refine List.ext_getElem (by simp[B2]) λu h1 h2=>?_
 have hu:u<V:=by simpa[B2]using h2
 rw[List.getElem_set]
 by_cases e:v=u
 ·subst e
  rw[if_pos rfl]
  simp only[B2,List.getElem_map,List.getElem_range]
  refine List.ext_getElem (by simp) λy h3 h4=>?_
  rw[List.getElem_set]
  by_cases e':x=y
  ·subst e';simp
  ·simp[e']
 ·rw[if_neg e]
  simp only[B2,List.getElem_map,List.getElem_range]
  refine List.map_congr_left λy _=>by simp[e]
theorem JR {p:Nat->Nat->Bool} (hV:V<=1000) (hl:t.length=V) (hv: ∀u,u<V->0<=t.getD u 0/\t.getD u 0<(n:Int)):
  HS t (B2 V n p)=some (B2 V n (λu y=>p u y||decide (t.getD u 0=(y:Int))),true):=by
 have:=Co V (λf (M:Dom) u=>AL f (M,t,(V:Int),u)) (λk=>B2 V n (λu y=>p u y||(decide (u<k)&&decide (t.getD u 0=(y:Int))))) (r:=some (B2 V n (λu y=>p u y||decide (t.getD u 0=(y:Int))))) (λf k hk=>?_) (λf=>?_) (n:=Aa) (by unfold Aa;omega)
 ·have e0:(λu y=>p u y||(decide (u<0)&&decide (t.getD u 0=((y:Nat):Int))))=p:=by funext u y;simp
  rw[e0]at this
  have this:AL Aa (B2 V n p,t,(V:Int),0)=_:=this
  unfold HS BW
  rw[hl,this];rfl
 ·have htk:k<t.length:=by omega
  obtain⟨x,hx,ex⟩: ∃x:Nat,x<n/\t.getD k 0=(x:Int):=⟨(t.getD k 0).toNat,by have:=hv k hk;omega,by have:=hv k hk;omega⟩
  have hg:gd t (k:Int) 0=(x:Int):=ex
  have hrl:x<(gd (B2 V n (λu y=>p u y||(decide (u<k)&&decide (t.getD u 0=((y:Nat):Int))))) (k:Int) []).length:=by rw[Gr hk];simpa using hx
  have hset:=I9 (p:=λu y=>p u y||(decide (u<k)&&decide (t.getD u 0=((y:Nat):Int)))) hk hx
  have hnew:B2 V n (λu y=>(p u y||(decide (u<k)&&decide (t.getD u 0=((y:Nat):Int))))||decide (k=u/\x=y))=B2 V n (λu y=>p u y||(decide (u<k+1)&&decide (t.getD u 0=((y:Nat):Int)))):=by
   congr 1
   funext u y
   rw[Bool.or_assoc]
   congr 1
   rw[Bool.eq_iff_iff]
   simp only[Bool.or_eq_true,Bool.and_eq_true,decide_eq_true_eq]
   constructor
   ·rintro (⟨h1,h2⟩|⟨rfl,rfl⟩)
    ·exact⟨by omega,h2⟩
    ·exact⟨by omega,ex⟩
   ·rintro ⟨h1,h2⟩
    by_cases e:u<k
    ·exact .inl ⟨e,h2⟩
    ·have:u=k:=by omega
     subst this
     rw[ex]at h2
     exact .inr ⟨rfl,Int.ofNat_inj.1 h2⟩
  simp only[AL,Af,htk,hg,FK,hk,hrl,if_true,hset,hnew,Ad (show k<4611686018427387904 by omega)]
  rw[if_pos (by rw[decide_eq_true_eq];omega)]
 ·simp only[AL]
  rw[if_neg (by simp)]
  congr 1
  unfold B2
  refine List.map_congr_left λu hu=>?_
  have hu:=List.mem_range.1 hu
  simp[hu]
theorem H8 (hV:V<=1000): ∀(l:List (List Int)) (p:Nat->Nat->Bool),(∀t∈l,t.length=V/\ ∀u,u<V->0<=t.getD u 0/\t.getD u 0<(n:Int))->
  Cc HS l (B2 V n p)=some (B2 V n (λu y=>p u y||l.any λt=>decide (t.getD u 0=(y:Int))),true)
 | [],p,_=>by simp[Cc]
 |t::l,p,h=>by
  obtain⟨h1,h2⟩:=h t (List.mem_cons_self ..)
  simp only[Cc,JR hV h1 h2]
  rw[H8 hV l _ λt ht=>h t (List.mem_cons_of_mem _ ht)]
  congr 2
  unfold B2
  refine List.map_congr_left λu _=>List.map_congr_left λy _=>by simp only[List.any_cons,Bool.or_assoc]
end
end T
open Go Go.Va
namespace T
section
variable {V n:Nat} {cs:List Con} {t:List Int}
theorem Kj {p:Nat->Bool}:(mk ((List.range n).map p)).length=((List.range n).filter p).length:=by
 unfold mk
 rw[List.length_map,List.length_map,List.length_range]
 congr 1
 refine List.filter_congr λi hi=>?_
 have hi:=List.mem_range.1 hi
 rw[Ab (by simpa using hi)];simp
theorem HL {p:Nat->Bool} (l:List Nat):(l.filter p).length+(l.filter λx=>!p x).length=l.length:=by
 induction l with
 |nil=>rfl
 |cons x l ih=>
  simp only[List.filter_cons,List.length_cons]
  cases p x<;>simp<;>omega
def EF (V n:Nat) (q:Nat->Nat->Bool):Nat:=((List.range V).map λu=>((List.range n).filter λy=>!q u y).length).sum
theorem Gs {q:Nat->Nat->Bool}:DL (B2 V n q)=EF V n q:=by
 unfold DL B2 EF
 rw[List.map_map]
 congr 1
 refine List.map_congr_left λu _=>?_
 show((List.range n).map (q u)).length-(mk ((List.range n).map (q u))).length=_
 rw[Kj,List.length_map,List.length_range]
 have:=HL (p:=q u) (List.range n)
 rw[List.length_range]at this
 omega
def qS (V n:Nat) (cs:List Con) (u y:Nat):Bool:=(Bu V n cs (List.replicate V (-1))).any λt=>decide (t.getD u 0=(y:Int))
theorem G2 {u x:Nat} (hu:u<V):t∈Bu V n cs ((List.replicate V (-1)).set u (x:Int))↔t∈Bu V n cs (List.replicate V (-1))/\t.getD u 0=(x:Int):=by
 unfold Bu
 rw[Fe,Fe]
 simp only[List.length_nil,Nat.zero_add,List.take_zero,true_and,Nat.zero_le,true_implies]
 have hg: ∀q,q<V->((List.replicate V (-1:Int)).set u (x:Int)).getD q 0=if u=q then(x:Int)else-1:=λq hq=>by
  rw[Ab (by simpa using hq),List.getElem_set]
  by_cases e:u=q
  ·rw[if_pos e,if_pos e]
  ·rw[if_neg e,if_neg e,List.getElem_replicate]
 constructor
 ·rintro ⟨h1,h2⟩
  refine⟨⟨h1,λq hq=>⟨(h2 q hq).1,Hv (by omega),(h2 q hq).2.2⟩⟩,?_⟩
  obtain⟨a1,a2,_⟩:=h2 u (by omega)
  unfold D9 at a2
  rw[hg u hu,if_pos rfl]at a2
  simp only[Bool.not_eq_true',Bool.and_eq_false_iff,decide_eq_false_iff_not,bne_eq_false_iff_eq]at a2
  rcases a2 with a2|a2<;>omega
 ·rintro ⟨⟨h1,h2⟩,h3⟩
  refine⟨h1,λq hq=>⟨(h2 q hq).1,?_,(h2 q hq).2.2⟩⟩
  have a1:=(h2 q hq).1
  unfold D9
  rw[hg q (by omega)]
  by_cases e:u=q
  ·subst e
   rw[if_pos rfl]
   simp only[Bool.not_eq_true',Bool.and_eq_false_iff,decide_eq_false_iff_not,bne_eq_false_iff_eq]
   exact .inr (by omega)
  ·rw[if_neg e];simp
theorem Hw {u x:Nat} (hu:u<V):(Bu V n cs ((List.replicate V (-1)).set u (x:Int))= [])↔qS V n cs u x=false:=by
 unfold qS
 rw[List.any_eq_false]
 constructor
 ·intro h t ht he
  have:=(G2 (x:=x) hu).2 ⟨ht,by simpa using he⟩
  rw[h]at this;simp at this
 ·intro h
  cases hl:Bu V n cs ((List.replicate V (-1)).set u (x:Int))with
  |nil=>rfl
  |cons t l=>
   obtain⟨h1,h2⟩:=(G2 (x:=x) hu).1 (show t∈Bu V n cs ((List.replicate V (-1)).set u (x:Int)) by rw[hl];exact List.mem_cons_self ..)
   exact absurd (by simpa using h2) (h t h1)
theorem Iq (h:SrchOk V n cs) {u x:Nat}: ∃s:S19,CT ((V:Int),((n:Int),cs)) cs ((List.replicate V (-1)).set u (x:Int)) 1 true=some s/\(s.2.1=0↔Bu V n cs ((List.replicate V (-1)).set u (x:Int))= []):=by
 cases hs:Bu V n cs ((List.replicate V (-1)).set u (x:Int))with
 |nil=>
  have:=Ff (cs0:=cs) (given:=(List.replicate V (-1)).set u (x:Int)) (most:=1) (one:=true) h (by simp) (by omega) (s':=([],0,1,true)) (b:=true) (by rw[hs];rfl)
  exact⟨_,this,by simp⟩
 |cons t l=>
  have:=Ff (cs0:=cs) (given:=(List.replicate V (-1)).set u (x:Int)) (most:=1) (one:=true) h (by simp) (by omega) (s':=([t],1,1,true)) (b:=false) (by rw[hs];rfl)
  exact⟨_,this,by simp⟩
end
end T
open Go Go.Va
namespace T
section
variable {V n:Nat} {cs:List Con} {a:Net}
theorem Je {q:Nat->Nat->Bool}: ∀k,((List.range k).map λu=>((List.range n).filter λy=>!q u y).length).sum<=n*k:=λk=>by
 have:=D8 (λu=>((List.range n).filter λy=>!q u y).length) n (List.range k) λu _=>Nat.le_trans (List.length_filter_le _ _) (by simp)
 rwa [List.length_range]at this
theorem Kp (h:SrchOk V n cs) {u:Nat} (hu:u<V) (t6:Int) (t7:List (List Int)) {s0:Nat} (hs:s0<=100000):
  AH Aa (((V:Int),((n:Int),cs)),t6,t7,(s0:Int),(u:Int),0)=some (((V:Int),((n:Int),cs)),t6,t7,((s0+((List.range n).filter λy=>!qS V n cs u y).length:Nat):Int),(u:Int)):=by
 have hn:=h.hn
 have hV:=h.hv
 have:=Co n (λf (s:Int) x=>AH f (((V:Int),((n:Int),cs)),t6,t7,s,(u:Int),x)) (λk=>((s0+((List.range k).filter λy=>!qS V n cs u y).length:Nat):Int)) (r:=some (((V:Int),((n:Int),cs)),t6,t7,((s0+((List.range n).filter λy=>!qS V n cs u y).length:Nat):Int),(u:Int))) (λf x hx=>?_) (λf=>?_) (n:=Aa) (by unfold Aa;omega)
 ·exact this
 ·obtain⟨s,e1,e2⟩:=Iq (x:=x) h (u:=u)
  have hfree:=IZ (show V<=1000 by omega)
  have hin:u<(List.replicate V (-1:Int)).length:=by simpa using hu
  have hle:((List.range x).filter λy=>!qS V n cs u y).length<=x:=Nat.le_trans (List.length_filter_le _ _) (by simp)
  simp only[AH,hfree,Option.bind_some,Af,hin,BS,e1,if_true,Ad (show x<4611686018427387904 by omega)]
  rw[if_pos (by rw[decide_eq_true_eq];omega)]
  rw[List.range_succ,List.filter_append]
  cases hq:qS V n cs u x with
  |true=>
   have: ¬s.2.1=0:=λhz=>by
    have:=(Hw hu).1 (e2.1 hz)
    rw[hq]at this;simp at this
   rw[if_neg (by simpa using this)]
   simp[hq]
  |false=>
   have:s.2.1=0:=e2.2 ((Hw hu).2 hq)
   rw[if_pos (by simp[this])]
   have ew:w64 (((s0+((List.range x).filter λy=>!qS V n cs u y).length:Nat):Int)+1)=((s0+(((List.range x).filter λy=>!qS V n cs u y)++ [x].filter λy=>!qS V n cs u y).length:Nat):Int):=by
    have e:([x].filter λy=>!qS V n cs u y)= [x]:=by simp[hq]
    rw[e,List.length_append,List.length_singleton,AP (by omega) (by omega)];omega
   rw[ew]
 ·simp only[AH]
  rw[if_neg (by simp)]
theorem KG (h:SrchOk V n cs) (t6:Int) (t7:List (List Int)):Ba Aa (((V:Int),((n:Int),cs)),t6,t7,0,0)=some (((V:Int),((n:Int),cs)),t6,t7,((EF V n (qS V n cs):Nat):Int)):=by
 have hn:=h.hn
 have hV:=h.hv
 have:=Co V (λf (s:Int) u=>Ba f (((V:Int),((n:Int),cs)),t6,t7,s,u)) (λk=>((((List.range k).map λu=>((List.range n).filter λy=>!qS V n cs u y).length).sum:Nat):Int)) (r:=some (((V:Int),((n:Int),cs)),t6,t7,((EF V n (qS V n cs):Nat):Int))) (λf u hu=>?_) (λf=>?_) (n:=Aa) (by unfold Aa;omega)
 ·exact this
 ·have hle:=Je (n:=n) (q:=qS V n cs) u
  have hb:n*u<=4*9:=Nat.mul_le_mul hn.2 (by omega)
  have e1:=Kp h hu t6 t7 (s0:=((List.range u).map λu=>((List.range n).filter λy=>!qS V n cs u y).length).sum) (by omega)
  have e2:((List.range (u+1)).map λu=>((List.range n).filter λy=>!qS V n cs u y).length).sum=((List.range u).map λu=>((List.range n).filter λy=>!qS V n cs u y).length).sum+((List.range n).filter λy=>!qS V n cs u y).length:=by
   rw[List.range_succ,List.map_append];simp
  simp only[Ba,e1,Option.bind_some,e2,Ad (show u<4611686018427387904 by omega)]
  rw[if_pos (by rw[decide_eq_true_eq];omega)]
 ·simp only[Ba]
  rw[if_neg (by simp)];rfl
theorem KF (hV:V<=1000) (N:Net):AM Aa (N,List.replicate V (List.replicate n true),(V:Int),0)=some (N,B2 V n λ_ _=>false):=by
 have:=Co V (λf (M:Dom) u=>AM f (N,M,(V:Int),u)) (λk=>B2 V n λu _=>decide (k<=u)) (r:=some (N,B2 V n λ_ _=>false)) (λf k hk=>?_) (λf=>?_) (n:=Aa) (by unfold Aa;omega)
 ·have e0:(B2 V n λu _=>decide (0<=u))=List.replicate V (List.replicate n true):=by
   refine List.ext_getElem (by simp[B2]) λu h1 h2=>?_
   simp only[B2,List.getElem_map,List.getElem_range,List.getElem_replicate]
   refine List.ext_getElem (by simp) λy h3 h4=>by simp
  rw[e0]at this
  exact this
 ·have hset:stt (B2 V n λu _=>decide (k<=u)) (k:Int) (List.replicate (gd (B2 V n λu _=>decide (k<=u)) (k:Int) []).length false)=B2 V n λu _=>decide (k+1<=u):=by
   rw[Gr hk,List.length_map,List.length_range,BS]
   refine List.ext_getElem (by simp[B2]) λu h1 h2=>?_
   rw[List.getElem_set]
   simp only[B2,List.getElem_map,List.getElem_range]
   by_cases e:k=u
   ·subst e
    rw[if_pos rfl]
    refine List.ext_getElem (by simp) λy h3 h4=>by simp
   ·rw[if_neg e]
    refine List.map_congr_left λy _=>?_
    rw[decide_eq_decide];omega
  simp only[AM,Af,FK,hk,if_true,hset,Ad (show k<4611686018427387904 by omega)]
  rw[if_pos (by rw[decide_eq_true_eq];omega)]
 ·simp only[AM]
  rw[if_neg (by simp)]
  congr 2
  unfold B2
  refine List.map_congr_left λu hu=>?_
  have hu:=List.mem_range.1 hu
  refine List.map_congr_left λy _=>decide_eq_false (by omega)
theorem JS (h:SrchOk V n cs):AO ((V:Int),((n:Int),cs)) (B2 V n λ_ _=>false)=some (B2 V n (qS V n cs)):=by
 have hV:=h.hv
 have e1:=GV h
 have hfold:=H8 (n:=n) (show V<=1000 by omega) (Bu V n cs (List.replicate V (-1))) (λ_ _=>false) (λt ht=>by
  obtain⟨h1,_,h2⟩:=(Fe V [] t).1 (show t∈Dw n (List.replicate V (-1)) (okN cs) V [] from ht)
  simp only[List.length_nil,Nat.zero_add]at h1
  exact⟨h1,λu hu=>(h2 u (by simp) (by omega)).1⟩)
 have eq:(λu y=>false||(Bu V n cs (List.replicate V (-1))).any λt=>decide (t.getD u 0=((y:Nat):Int)))=qS V n cs:=by
  funext u y;rw[Bool.false_or];rfl
 rw[eq]at hfold
 obtain⟨tab',_,_,_,h4⟩:=JZ h (given:=List.replicate V (-1)) (by simp) HS V Aa 0 (List.replicate V 0) (B2 V n λ_ _=>false) (by omega) (by unfold Aa;omega) (by simp) (λx hx=>by rw[List.eq_of_mem_replicate hx];omega) _ _ (by simpa[Bu]using hfold)
 have h4:Al Aa (0,List.replicate V 0,B2 V n λ_ _=>false,F9 V n cs,List.replicate V (-1),())=_:=(IV Aa _).trans h4
 unfold AO Bs
 have hr:List.replicate (Int.toNat ((List.replicate V (-1:Int)).length:Int)) (0:Int)=List.replicate V 0:=by simp
 have hlim:0<=((List.replicate V (-1:Int)).length:Int)/\((List.replicate V (-1:Int)).length:Int)<=((List.replicate V (-1:Int)).length:Int)/\((List.replicate V (-1:Int)).length:Int)<=lim:=by rw[List.length_replicate];unfold lim;omega
 simp only[e1,IY (show V<=1000 by omega),Option.bind_some,hr,h4]
 rw[if_pos hlim];rfl
end
end T
open Go Go.Va
namespace T
section
variable {a:Net}
theorem Iw (hN:NetOk a):SrchOk a.1.toNat a.2.1.toNat a.2.2/\a=((a.1.toNat:Int),((a.2.1.toNat:Int),a.2.2)):=by
 have hv:=hN.hv
 have hn:=hN.hn
 refine⟨⟨by omega,by omega,hN.hc,λc hc=>?_⟩,?_⟩
 ·rw[Int.toNat_of_nonneg hv.1,Int.toNat_of_nonneg (by omega)];exact hN.con c hc
 ·rw[Int.toNat_of_nonneg hv.1,Int.toNat_of_nonneg (by omega)]
def rcR (a:Net):Int×Int×Int×Bool:=if BH a then(((DL (Bc a (AC a)).1:Nat):Int),((DL (Ce a 40 (AC a)):Nat):Int),((EF a.1.toNat a.2.1.toNat (qS a.1.toNat a.2.1.toNat a.2.2):Nat):Int),true)else(0,0,0,false)
theorem EP (hN:NetOk a) {D:Dom} (h:DomOk a D):D.length<=1000/\ ∀r∈D,r.length<=1000:=by
 have hv:=hN.hv
 have hn:=hN.hn
 have hl:=h.len
 exact⟨by omega,λr hr=>by have:=h.row r hr;omega⟩
theorem FR (h:FN a):Db a=some (rcR a)/\Dg a=some (rcR a):=by
 unfold Db Dg rcR
 rw[Bl (a:=(a.1,(a.2.1,a.2.2))) h,CA (a:=(a.1,(a.2.1,a.2.2))) h,show BH (a.1,(a.2.1,a.2.2))=BH a from rfl]
 cases hb:BH a with
 |false=>simp
 |true=>
  have hN:=CL hb
  have hf:=Cq hN
  have hv:=hN.hv
  have hn:=hN.hn
  obtain⟨hS,ea⟩:=Iw hN
  have hmu:=FL hN hf
  have hA:=(C2 hN hf).1
  have hG:=DM 40 hf
  have eS: ∃V n:Nat,V=a.1.toNat/\n=a.2.1.toNat:=⟨_,_,rfl,rfl⟩
  have ex:((a.1.toNat:Int),((a.2.1.toNat:Int),a.2.2))=(a.1,(a.2.1,a.2.2)):=ea.symm
  have eV:((a.1.toNat:Nat):Int)=a.1:=Int.toNat_of_nonneg hv.1
  have i1:=KF (V:=a.1.toNat) (n:=a.2.1.toNat) (by omega) (a.1,(a.2.1,a.2.2))
  rw[eV]at i1
  have i1:AM Aa ((a.1,(a.2.1,a.2.2)),AC a,a.1,0)=_:=i1
  have i2:=JS hS
  rw[ex]at i2
  have i3:=Fw (EP hN hA).1 (EP hN hA).2
  have i4:=Fw (EP hN hG).1 (EP hN hG).2
  have i5:=Fw (D:=B2 a.1.toNat a.2.1.toNat (qS a.1.toNat a.2.1.toNat a.2.2)) (by rw[FK];omega) (λr hr=>by
   unfold B2 at hr
   obtain⟨u,_,rfl⟩:=List.mem_map.1 hr
   simp;omega)
  rw[Gs]at i5
  have k3:=Ib (EP hN hA).1 (EP hN hA).2
  have k4:=Ib (EP hN hG).1 (EP hN hG).2
  have m3:=FW hA
  have m4:=FW hG
  have hmul:a.1*a.2.1<=9*4:=Int.mul_le_mul hv.2 hn.2 (by omega) (by omega)
  have hmul0:0<=a.1*a.2.1:=Int.mul_nonneg hv.1 (by omega)
  have ew:w64 (a.1*a.2.1)=a.1*a.2.1:=AP (by omega) (by omega)
  have ew3:w64 (a.1*a.2.1-((EX (Bc a (AC a)).1:Nat):Int))=((DL (Bc a (AC a)).1:Nat):Int):=by rw[AP (by omega) (by omega)];omega
  have ew4:w64 (a.1*a.2.1-((EX (Ce a 40 (AC a)):Nat):Int))=((DL (Ce a 40 (AC a)):Nat):Int):=by rw[AP (by omega) (by omega)];omega
  have s7:=KG hS (a.1*a.2.1) ((Bc a (AC a)).1.map mk)
  rw[ex]at s7
  have hlen:((AC a).length:Int)=a.1:=hf.len
  constructor
  ·unfold B3 Cs
   simp only[Bj hN,CK hN hf,G0 hN 40 (AC a) hf (by omega) Aa (by unfold Aa;omega),hlen,i1,i2,i3,i4,i5,Option.bind_some,Bool.not_true,Bool.false_eq_true,if_false,if_true]
  ·unfold Dv
   simp only[C6 hN,Du hN hf,Fa hN 40 (AC a) hf (by omega) Aa (by unfold Aa;omega),ew,s7,k3,k4,ew3,ew4,Option.bind_some,Bool.not_true,Bool.false_eq_true,if_false,if_true]
end
end T
open Go Go.Va
namespace T
section
variable {n:Nat} {t:List Int}
def Jv (n:Nat) (t:List Int) (x y:Nat):Nat:=(t.getD (x*n+y) 0).toNat
structure TabOk (n:Nat) (t:List Int):Prop where
 hn:1<=n/\n<=4
 len:t.length=n*n
 val: ∀x∈t,0<=x/\x<(n:Int)
theorem ix2 (hn:n<=4) {x y:Nat} (hx:x<n) (hy:y<n):w64 (w64 ((x:Int)*(n:Int))+(y:Int))=((x*n+y:Nat):Int)/\x*n+y<n*n:=by
 have h1:x*n+y<n*n:=by
  calc x*n+y<x*n+n:=by omega
   _=(x+1)*n:=by rw[Nat.succ_mul]
   _<=n*n:=Nat.mul_le_mul_right _ hx
 have h2:n*n<=4*4:=Nat.mul_le_mul hn hn
 have e:(x:Int)*(n:Int)=((x*n:Nat):Int):=by simp
 have a1:w64 ((x*n:Nat):Int)=((x*n:Nat):Int):=AP (by omega) (by omega)
 rw[e,a1,AP (by omega) (by omega)]
 exact⟨by omega,h1⟩
theorem TabOk.at (h:TabOk n t) {x y:Nat} (hx:x<n) (hy:y<n):w64 (w64 ((x:Int)*(n:Int))+(y:Int))=((x*n+y:Nat):Int)/\inb ((x*n+y:Nat):Int) t/\gd t ((x*n+y:Nat):Int) 0=((Jv n t x y:Nat):Int)/\Jv n t x y<n:=by
 obtain⟨h1,h2⟩:=ix2 h.hn.2 hx hy
 have hl:x*n+y<t.length:=by rw[h.len];exact h2
 have hv:=h.val _ (List.getElem_mem hl)
 refine⟨h1,by rw[Af];exact hl,?_,?_⟩
 ·rw[Ae hl];unfold Jv;rw[Ab hl];omega
 ·unfold Jv;rw[Ab hl];omega
end
end T
set_option linter.unusedVariables false
open Go Go.Va
namespace T
def Aq:Nat->(((List Int)×Int×Int)×(Int×(Int×(List ((List Int)×Int×(List (List Int))))))×Int×(List (Int×(List (List Int))))×(Int×(Int×(List ((List Int)×Int×(List (List Int))))))×Int×(Int×(List (List Int)))×((List Int)×(Int×(List (List Int))))×Int)->Option (((List Int)×Int×Int)×(Int×(Int×(List ((List Int)×Int×(List (List Int))))))×Int×(List (Int×(List (List Int))))×(Int×(Int×(List ((List Int)×Int×(List (List Int))))))×Int×((List Int)×(Int×(List (List Int)))))
 |0,_=>none
 |n+1,(t0,t2,t3,t4,t5,t6,t7,t8,t9)=>
 if decide (t9<t7.1)then
 if decide (t9<4)then
 (Cp t5.1 1).bind λr9=>
 (Ag (t0.1,(t0.2.1,t0.2.2)) r9).bind λr10=>
 if t8.1.length+ [r10.2].length<=lim then
 Aq n ((r10.1.1,(r10.1.2.1,r10.1.2.2)),(t2.1,(t2.2.1,t2.2.2)),t3,t4,(t5.1,(t5.2.1,t5.2.2)),t6,(t7.1,t7.2),(t8.1++ [r10.2],(t8.2.1,t8.2.2)),w64 (t9+1))
 else none
 else
 some ((t0.1,(t0.2.1,t0.2.2)),(t2.1,(t2.2.1,t2.2.2)),t3,t4,(t5.1,(t5.2.1,t5.2.2)),t6,(t8.1,(t8.2.1,t8.2.2)))
 else
 some ((t0.1,(t0.2.1,t0.2.2)),(t2.1,(t2.2.1,t2.2.2)),t3,t4,(t5.1,(t5.2.1,t5.2.2)),t6,(t8.1,(t8.2.1,t8.2.2)))
def As:Nat->(((List Int)×Int×Int)×(Int×(Int×(List ((List Int)×Int×(List (List Int))))))×Int×(List (Int×(List (List Int))))×(Int×(Int×(List ((List Int)×Int×(List (List Int))))))×Int)->Option (((List Int)×Int×Int)×(Int×(Int×(List ((List Int)×Int×(List (List Int))))))×(Int×(Int×(List ((List Int)×Int×(List (List Int)))))))
 |0,_=>none
 |n+1,(t0,t2,t3,t4,t5,t6)=>
 if decide (t6>0)then
 (Cp t3 1).bind λr4=>
 (Ac (t0.1,(t0.2.1,t0.2.2)) [1,2,2,3]).bind λr5=>
 (Bq (r5.1.1,(r5.1.2.1,r5.1.2.2)) r4 r5.2).bind λr6=>
 if decide ((t4.length:Int)>0)then
 (AB (r6.1.1,(r6.1.2.1,r6.1.2.2)) 5).bind λr7=>
 if !r7.2 then
 (Ag (r7.1.1,(r7.1.2.1,r7.1.2.2)) (t4.length:Int)).bind λr8=>
 if inb r8.2 t4 then
 (Aq Aa ((r8.1.1,(r8.1.2.1,r8.1.2.2)),(t2.1,(t2.2.1,t2.2.2)),t3,t4,(t5.1,(t5.2.1,t5.2.2)),t6,((gd t4 r8.2 (0,[])).1,(gd t4 r8.2 (0,[])).2),([],((gd t4 r8.2 (0,[])).1,(gd t4 r8.2 (0,[])).2)),0)).bind λs9=>
 if s9.2.2.2.2.1.2.2.length+ [(s9.2.2.2.2.2.2.1,(s9.2.2.2.2.2.2.2.1,s9.2.2.2.2.2.2.2.2))].length<=lim then
 As n ((s9.1.1,(s9.1.2.1,s9.1.2.2)),(s9.2.1.1,(s9.2.1.2.1,s9.2.1.2.2)),s9.2.2.1,s9.2.2.2.1,(s9.2.2.2.2.1.1,(s9.2.2.2.2.1.2.1,s9.2.2.2.2.1.2.2++ [(s9.2.2.2.2.2.2.1,(s9.2.2.2.2.2.2.2.1,s9.2.2.2.2.2.2.2.2))])),w64 (s9.2.2.2.2.2.1-1))
 else none
 else none
 else
 (Aq Aa ((r7.1.1,(r7.1.2.1,r7.1.2.2)),(t2.1,(t2.2.1,t2.2.2)),t3,t4,(t5.1,(t5.2.1,t5.2.2)),t6,(r6.2.1,r6.2.2),([],(r6.2.1,r6.2.2)),0)).bind λs10=>
 if s10.2.2.2.2.1.2.2.length+ [(s10.2.2.2.2.2.2.1,(s10.2.2.2.2.2.2.2.1,s10.2.2.2.2.2.2.2.2))].length<=lim then
 As n ((s10.1.1,(s10.1.2.1,s10.1.2.2)),(s10.2.1.1,(s10.2.1.2.1,s10.2.1.2.2)),s10.2.2.1,s10.2.2.2.1,(s10.2.2.2.2.1.1,(s10.2.2.2.2.1.2.1,s10.2.2.2.2.1.2.2++ [(s10.2.2.2.2.2.2.1,(s10.2.2.2.2.2.2.2.1,s10.2.2.2.2.2.2.2.2))])),w64 (s10.2.2.2.2.2.1-1))
 else none
 else
 (Aq Aa ((r6.1.1,(r6.1.2.1,r6.1.2.2)),(t2.1,(t2.2.1,t2.2.2)),t3,t4,(t5.1,(t5.2.1,t5.2.2)),t6,(r6.2.1,r6.2.2),([],(r6.2.1,r6.2.2)),0)).bind λs11=>
 if s11.2.2.2.2.1.2.2.length+ [(s11.2.2.2.2.2.2.1,(s11.2.2.2.2.2.2.2.1,s11.2.2.2.2.2.2.2.2))].length<=lim then
 As n ((s11.1.1,(s11.1.2.1,s11.1.2.2)),(s11.2.1.1,(s11.2.1.2.1,s11.2.1.2.2)),s11.2.2.1,s11.2.2.2.1,(s11.2.2.2.2.1.1,(s11.2.2.2.2.1.2.1,s11.2.2.2.2.1.2.2++ [(s11.2.2.2.2.2.2.1,(s11.2.2.2.2.2.2.2.1,s11.2.2.2.2.2.2.2.2))])),w64 (s11.2.2.2.2.2.1-1))
 else none
 else
 some ((t0.1,(t0.2.1,t0.2.2)),(t2.1,(t2.2.1,t2.2.2)),(t5.1,(t5.2.1,t5.2.2)))
def AY:Nat->(((List Int)×Int×Int)×(Int×(Int×(List ((List Int)×Int×(List (List Int))))))×(Int×(Int×(List ((List Int)×Int×(List (List Int))))))×Int)->Option (((List Int)×Int×Int)×(Int×(Int×(List ((List Int)×Int×(List (List Int))))))×(Int×(Int×(List ((List Int)×Int×(List (List Int)))))))
 |0,_=>none
 |n+1,(t0,t2,t5,t10)=>
 if decide ((t5.2.2.length:Int)>0)then
 if decide ((t5.2.2.length:Int)<t10)then
 if inb 0 t5.2.2 then
 if t5.2.2.length+ [((gd t5.2.2 0 ([],(0,[]))).1,(((gd t5.2.2 0 ([],(0,[]))).2).1,((gd t5.2.2 0 ([],(0,[]))).2).2))].length<=lim then
 AY n ((t0.1,(t0.2.1,t0.2.2)),(t2.1,(t2.2.1,t2.2.2)),(t5.1,(t5.2.1,t5.2.2++ [((gd t5.2.2 0 ([],(0,[]))).1,(((gd t5.2.2 0 ([],(0,[]))).2).1,((gd t5.2.2 0 ([],(0,[]))).2).2))])),t10)
 else none
 else none
 else
 some ((t0.1,(t0.2.1,t0.2.2)),(t2.1,(t2.2.1,t2.2.2)),(t5.1,(t5.2.1,t5.2.2)))
 else
 some ((t0.1,(t0.2.1,t0.2.2)),(t2.1,(t2.2.1,t2.2.2)),(t5.1,(t5.2.1,t5.2.2)))
def Di (t0:(List Int)×Int×Int):Option (((List Int)×Int×Int)×(Int×Int×(List ((List Int)×Int×(List (List Int)))))):=
 (Cg (t0.1,(t0.2.1,t0.2.2))).bind λr1=>
 (Ac (r1.1.1,(r1.1.2.1,r1.1.2.2)) [1,2,3,3,4,4,5,6]).bind λr2=>
 (Ac (r2.1.1,(r2.1.2.1,r2.1.2.2)) [0,1,2,3,4,5,6,8]).bind λr3=>
 (As Aa ((r3.1.1,(r3.1.2.1,r3.1.2.2)),(0,(0,[])),r1.2.1,r1.2.2,(r2.2,(r1.2.1,[])),r3.2)).bind λs4=>
 (Ag (s4.1.1,(s4.1.2.1,s4.1.2.2)) 40).bind λr5=>
 if r5.2==0 then
 (Ac (r5.1.1,(r5.1.2.1,r5.1.2.2)) [(-1),0,9,10]).bind λr6=>
 some ((r6.1.1,(r6.1.2.1,r6.1.2.2)),(r6.2,(s4.2.2.2.1,s4.2.2.2.2)))
 else
 if r5.2==1 then
 if decide ((s4.2.2.2.2.length:Int)>0)then
 if inb 0 s4.2.2.2.2 then
 if((gd s4.2.2.2.2 0 ([],(0,[]))).1).length+ [0].length<=lim then
 if inb 0 s4.2.2.2.2 then
 if 0=0 then
 some ((r5.1.1,(r5.1.2.1,r5.1.2.2)),(s4.2.2.1,(s4.2.2.2.1,stt s4.2.2.2.2 0 (((gd s4.2.2.2.2 0 ([],(0,[]))).1)++ [0],(gd s4.2.2.2.2 0 ([],(0,[]))).2))))
 else none
 else none
 else none
 else none
 else
 some ((r5.1.1,(r5.1.2.1,r5.1.2.2)),(s4.2.2.1,(s4.2.2.2.1,s4.2.2.2.2)))
 else
 if r5.2==2 then
 (Ag (r5.1.1,(r5.1.2.1,r5.1.2.2)) 2).bind λr7=>
 (AY Aa ((r7.1.1,(r7.1.2.1,r7.1.2.2)),(s4.2.1.1,(s4.2.1.2.1,s4.2.1.2.2)),(s4.2.2.1,(s4.2.2.2.1,s4.2.2.2.2)),w64 (40+r7.2))).bind λs8=>
 some ((s8.1.1,(s8.1.2.1,s8.1.2.2)),(s8.2.2.1,(s8.2.2.2.1,s8.2.2.2.2)))
 else
 some ((r5.1.1,(r5.1.2.1,r5.1.2.2)),(s4.2.2.1,(s4.2.2.2.1,s4.2.2.2.2)))
def D5 (code:List Int):Option ((Int×Int×(List ((List Int)×Int×(List (List Int)))))):=
 (Di (code,(0,0))).bind λr1=>
 some (r1.2.1,(r1.2.2.1,r1.2.2.2))
end T
open Go Go.Va
namespace T
theorem J1 (a:Int): ∃m,Cp a 1=some m/\1<=m/\a<=m/\(m<=a∨m<=1):=by
 unfold Cp
 by_cases h:a>1
 ·exact⟨a,by rw[if_pos (by simpa using h)],by omega,by omega,by omega⟩
 ·exact⟨1,by rw[if_neg (by simpa using h)],by omega,by omega,by omega⟩
def conD (W:Nat) (c:Con):Prop:=c.1.length<=W/\rowsB 601 3 c.2.2
theorem conD.mono {W W':Nat} {c:Con} (h:W<=W'):conD W c->conD W' c:=λ⟨a,b⟩=>⟨by omega,b⟩
def KC (a:Net):Prop:= -1<=a.1/\a.1<=10/\0<=a.2.1/\a.2.1<=5/\a.2.2.length<=41/\ ∀c∈a.2.2,conD 5 c
theorem Kk {a:Net} (h:KC a):FN a:=⟨by have:=h.2.2.2.2.1;omega,λc hc=>by
 have h1:=h.2.2.2.2.2 c hc
 exact⟨by have:=h1.1;omega,by have:=h1.2.1;omega,λr hr=>by have:=h1.2.2 r hr;omega⟩⟩
theorem JL {V:Int} (hV:V<=100) (t2:Net) (t3:Int) (t4:List D1) (n5:Int) (cs:List Con) (t6:Int) (t7 rl:Int×List (List Int)): ∀(d f k x:Nat) (c:Dy) (s:List Int),x+d=4->d<f->Cur k c->k+2*d<=1000000->s.length=x->
  ∃c' s',Aq f (c,t2,t3,t4,(V,(n5,cs)),t6,t7,(s,rl),(x:Int))=some (c',t2,t3,t4,(V,(n5,cs)),t6,(s',rl))/\Cur (k+2*d) c'/\s'.length<=4:=by
 intro d
 induction d with
 |zero=>
  intro f k x c s hx hf hc hk hs
  obtain⟨f,rfl⟩: ∃z,f=z+1:=⟨f-1,by omega⟩
  refine⟨c,s,?_,hc,by omega⟩
  simp only[Aq]
  rw[if_neg (show¬decide ((x:Int)<4)=true by simp;omega)]
  simp
 |succ d ih=>
  intro f k x c s hx hf hc hk hs
  obtain⟨f,rfl⟩: ∃z,f=z+1:=⟨f-1,by omega⟩
  simp only[Aq]
  by_cases h:(x:Int)<t7.1
  ·obtain⟨m,e1,m1,m2,m3⟩:=J1 V
   obtain⟨c1,y,e2,g2,_⟩:=Dr hc (by omega) m (by omega)
   have e2:Ag (c.1,(c.2.1,c.2.2)) m=_:=e2
   obtain⟨c',s',e3,g3,h3⟩:=ih f (k+2) (x+1) c1 (s++ [y]) (by omega) (by omega) g2 (by omega) (by simp;omega)
   refine⟨c',s',?_,g3.mono (by omega),h3⟩
   rw[if_pos (by simpa using h),if_pos (by simp;omega)]
   simp only[e1,Option.bind_some,e2]
   rw[if_pos (by rw[List.length_singleton];unfold lim;omega),Ad (by omega)]
   exact e3
  ·exact⟨c,s,by rw[if_neg (by simpa using h)],hc.mono (by omega),by omega⟩
theorem Kl {n V:Int} (hn:n<=100) (hV:V<=100) {rels:List D1} (hr:Hy rels) (t2:Net) (n5:Int): ∀(d f k:Nat) (c:Dy) (cs:List Con),d<f->Cur k c->k+300*d<=90000->cs.length+d<=8->(∀c∈cs,conD 4 c)->
  ∃c' cs',As f (c,t2,n,rels,(V,(n5,cs)),(d:Int))=some (c',t2,(V,(n5,cs')))/\Cur (k+300*d) c'/\cs'.length<=8/\ ∀c∈cs',conD 4 c:=by
 intro d
 induction d with
 |zero=>
  intro f k c cs hf hc hk ho hr
  obtain⟨f,rfl⟩: ∃z,f=z+1:=⟨f-1,by omega⟩
  refine⟨c,cs,?_,hc,by omega,hr⟩
  simp only[As]
  rw[if_neg (by simp)]
 |succ d ih=>
  intro f k c cs hf hc hk ho hcs
  obtain⟨f,rfl⟩: ∃z,f=z+1:=⟨f-1,by omega⟩
  have ew:w64 (((d+1:Nat):Int)-1)=(d:Int):=by rw[AP (by omega) (by omega)];omega
  obtain⟨m,e0,m1,m2,m3⟩:=J1 n
  obtain⟨c1,x1,e1,g1,_⟩:=Dn hc (by omega) (l:= [1,2,2,3]) (by simp) (by simp)
  have e1:Ac (c.1,(c.2.1,c.2.2)) [1,2,2,3]=_:=e1
  obtain⟨c2,r,e2,g2,h2⟩:=F4 (N:=m) (A:=x1) g1 (by omega) (by omega)
  have e2:Bq (c1.1,(c1.2.1,c1.2.2)) m x1=_:=e2
  have hfin: ∀(k':Nat) (c3:Dy) (r:Int×List (List Int)),Cur k' c3->k'<=k+290->rowsB 601 3 r.2->
    ∃c' cs',((Aq Aa (c3,t2,n,rels,(V,(n5,cs)),((d+1:Nat):Int),r,([],r),0)).bind λs10=>
     if s10.2.2.2.2.1.2.2.length+ [(s10.2.2.2.2.2.2.1,(s10.2.2.2.2.2.2.2.1,s10.2.2.2.2.2.2.2.2))].length<=lim then
      As f ((s10.1.1,(s10.1.2.1,s10.1.2.2)),(s10.2.1.1,(s10.2.1.2.1,s10.2.1.2.2)),s10.2.2.1,s10.2.2.2.1,(s10.2.2.2.2.1.1,(s10.2.2.2.2.1.2.1,s10.2.2.2.2.1.2.2++ [(s10.2.2.2.2.2.2.1,(s10.2.2.2.2.2.2.2.1,s10.2.2.2.2.2.2.2.2))])),w64 (s10.2.2.2.2.2.1-1))
     else none)=some (c',t2,(V,(n5,cs')))/\Cur (k+300*(d+1)) c'/\cs'.length<=8/\ ∀c∈cs',conD 4 c:=by
   intro k' c3 r hc3 hk' hr3
   obtain⟨c4,s,e4,g4,h4⟩:=JL hV t2 n rels n5 cs ((d+1:Nat):Int) r r 4 Aa k' 0 c3 [] (by omega) (by unfold Aa;omega) hc3 (by omega) rfl
   have e4:Aq Aa (c3,t2,n,rels,(V,(n5,cs)),((d+1:Nat):Int),r,([],r),0)=_:=e4
   obtain⟨c',cs',e5,g5,h5,h6⟩:=ih f (k'+8) c4 (cs++ [(s,r)]) (by omega) g4 (by omega) (by simp;omega) (λq hq=>by
    rcases List.mem_append.1 hq with hq|hq
    ·exact hcs q hq
    ·rw[List.mem_singleton.1 hq];exact⟨h4,hr3⟩)
   refine⟨c',cs',?_,g5.mono (by omega),h5,h6⟩
   rw[e4]
   simp only[Option.bind_some]
   rw[if_pos (by rw[List.length_singleton];unfold lim;omega)]
   simp only[ew]
   exact e5
  simp only[As,e0,e1,e2,Option.bind_some]
  rw[if_pos (show decide ((((d+1:Nat):Int))>0)=true by simp)]
  by_cases hl:0<rels.length
  ·rw[if_pos (show decide ((rels.length:Int)>0)=true by simp;omega)]
   obtain⟨c3,x3,e3,g3⟩:=Ha g2 (by omega) 5 (by omega)
   have e3:AB (c2.1,(c2.2.1,c2.2.2)) 5=_:=e3
   simp only[e3,Option.bind_some]
   cases x3 with
   |true=>
    simp only[Bool.not_true,Bool.false_eq_true,if_false]
    exact hfin _ _ r g3 (by omega) h2
   |false=>
    simp only[Bool.not_false,if_true]
    have hrl:=hr.1
    obtain⟨c4,x4,e4,g4,h40,h41,_⟩:=Dr g3 (by omega) (rels.length:Int) (by omega)
    have e4:Ag (c3.1,(c3.2.1,c3.2.2)) (rels.length:Int)=_:=e4
    obtain⟨x,rfl⟩: ∃x:Nat,x4=(x:Int):=⟨x4.toNat,by omega⟩
    have hx:x<rels.length:=by have:=h41 (by omega);omega
    simp only[e4,Option.bind_some,Af,hx,if_true,Ae hx]
    exact hfin _ _ rels[x] g4 (by omega) (hr.2 _ (List.getElem_mem hx))
  ·rw[if_neg (show¬decide ((rels.length:Int)>0)=true by rw[decide_eq_true_eq];omega)]
   exact hfin _ _ r g2 (by omega) h2
theorem JM {W:Nat} {c:Dy} {t2:Net} {V n T:Int} (hT:T<=41): ∀(d f:Nat) (cs:List Con),cs.length+d=41->d<f->(∀c∈cs,conD W c)->
  ∃cs',AY f (c,t2,(V,(n,cs)),T)=some (c,t2,(V,(n,cs')))/\cs'.length<=41/\ ∀c∈cs',conD W c:=by
 intro d
 induction d with
 |zero=>
  intro f cs hl hf hc
  obtain⟨f,rfl⟩: ∃z,f=z+1:=⟨f-1,by omega⟩
  refine⟨cs,?_,by omega,hc⟩
  simp only[AY]
  rw[if_neg (show¬decide ((cs.length:Int)<T)=true by rw[decide_eq_true_eq];omega)]
  simp
 |succ d ih=>
  intro f cs hl hf hc
  obtain⟨f,rfl⟩: ∃z,f=z+1:=⟨f-1,by omega⟩
  simp only[AY]
  by_cases h0:0<cs.length
  ·rw[if_pos (show decide ((cs.length:Int)>0)=true by simp;omega)]
   by_cases h1:(cs.length:Int)<T
   ·rw[if_pos (by simpa using h1)]
    have hi:inb 0 cs:=by unfold inb;omega
    have hg:gd cs 0 ([],(0,[]))=cs[0]:=Ae (k:=0) h0
    obtain⟨cs',e,h2,h3⟩:=ih f (cs++ [cs[0]]) (by simp;omega) (by omega) (λq hq=>by
     rcases List.mem_append.1 hq with hq|hq
     ·exact hc q hq
     ·rw[List.mem_singleton.1 hq];exact hc _ (List.getElem_mem h0))
    refine⟨cs',?_,h2,h3⟩
    rw[if_pos hi,if_pos (by rw[List.length_singleton];unfold lim;omega)]
    simp only[hg]
    exact e
   ·exact⟨cs,by rw[if_neg (by simpa using h1)],by omega,hc⟩
  ·exact⟨cs,by rw[if_neg (by rw[decide_eq_true_eq];omega)],by omega,hc⟩
theorem HP {k:Nat} {c:Dy} (hc:Cur k c) (hk:k<=5000): ∃c' a,Di c=some (c',a)/\Cur (k+5000) c'/\KC a:=by
 obtain⟨c1,n,rels,e1,g1,n0,n1,hr⟩:=HH hc (by omega)
 have e1:Cg (c.1,(c.2.1,c.2.2))=_:=e1
 obtain⟨c2,V,e2,g2,hV⟩:=Dn g1 (by omega) (l:= [1,2,3,3,4,4,5,6]) (by simp) (by simp)
 have e2:Ac (c1.1,(c1.2.1,c1.2.2)) [1,2,3,3,4,4,5,6]=_:=e2
 obtain⟨c3,m,e3,g3,hm⟩:=Dn g2 (by omega) (l:= [0,1,2,3,4,5,6,8]) (by simp) (by simp)
 have e3:Ac (c2.1,(c2.2.1,c2.2.2)) [0,1,2,3,4,5,6,8]=_:=e3
 have hV':1<=V/\V<=6:=by simp at hV;omega
 obtain⟨m,rfl⟩: ∃z:Nat,m=(z:Int):=⟨m.toNat,by simp at hm;omega⟩
 have hm':m<=8:=by simp at hm;omega
 obtain⟨c4,cs,e4,g4,h4,h5⟩:=Kl (n:=n) (V:=V) (by omega) (by omega) hr (0,(0,[])) n m Aa _ c3 [] (by unfold Aa;omega) g3 (by omega) (by simpa using hm') (by simp)
 have e4:As Aa ((c3.1,(c3.2.1,c3.2.2)),(0,(0,[])),n,rels,(V,(n,[])),(m:Int))=_:=e4
 obtain⟨c5,x5,e5,g5,h50,h51,_⟩:=Dr g4 (by omega) 40 (by omega)
 have e5:Ag (c4.1,(c4.2.1,c4.2.2)) 40=_:=e5
 unfold Di
 simp only[e1,e2,e3,e4,e5,Option.bind_some]
 by_cases b0:x5=0
 ·obtain⟨c6,x6,e6,g6,hm6⟩:=Dn g5 (by omega) (l:= [(-1),0,9,10]) (by simp) (by simp)
  have e6:Ac (c5.1,(c5.2.1,c5.2.2)) [(-1),0,9,10]=_:=e6
  rw[if_pos (by simpa using b0)]
  simp only[e6,Option.bind_some]
  refine⟨_,_,rfl,g6.mono (by omega),?_⟩
  have: -1<=x6/\x6<=10:=by simp at hm6;omega
  exact⟨this.1,this.2,n0,n1,by dsimp only;omega,λq hq=>(h5 q hq).mono (by omega)⟩
 ·rw[if_neg (by simpa using b0)]
  by_cases b1:x5=1
  ·rw[if_pos (by simpa using b1)]
   by_cases hl:0<cs.length
   ·have hi:inb 0 cs:=by unfold inb;omega
    have hg:gd cs 0 ([],(0,[]))=cs[0]:=Ae (k:=0) hl
    have h0:=h5 _ (List.getElem_mem hl)
    have h1:((gd cs 0 ([],(0,[]))).1).length+ [(0:Nat)].length<=lim:=by
     rw[hg,List.length_singleton];have:=h0.1;unfold lim;omega
    rw[if_pos (show decide ((cs.length:Int)>0)=true by simp;omega),if_pos hi]
    simp only[hg]at h1⊢
    rw[if_pos h1,if_pos hi]
    simp only[if_true]
    refine⟨_,_,rfl,g5.mono (by omega),by dsimp only;omega,by dsimp only;omega,n0,n1,by dsimp only[stt];rw[List.length_set];omega,λq hq=>?_⟩
    rcases List.mem_or_eq_of_mem_set hq with hq|rfl
    ·exact(h5 q hq).mono (by omega)
    ·exact⟨by have:=h0.1;simp;omega,h0.2⟩
   ·rw[if_neg (by rw[decide_eq_true_eq];omega)]
    exact⟨_,_,rfl,g5.mono (by omega),by dsimp only;omega,by dsimp only;omega,n0,n1,by dsimp only;omega,λq hq=>(h5 q hq).mono (by omega)⟩
  ·rw[if_neg (by simpa using b1)]
   by_cases b2:x5=2
   ·rw[if_pos (by simpa using b2)]
    obtain⟨c6,x6,e6,g6,h60,h61,_⟩:=Dr g5 (by omega) 2 (by omega)
    have e6:Ag (c5.1,(c5.2.1,c5.2.2)) 2=_:=e6
    have h61:=h61 (by omega)
    have ew:w64 (40+x6)=40+x6:=AP (by omega) (by omega)
    obtain⟨cs',e7,h7,h8⟩:=JM (c:=c6) (t2:=(0,(0,[]))) (V:=V) (n:=n) (T:=40+x6) (by omega) (41-cs.length) Aa cs (by omega) (by unfold Aa;omega) h5
    have e7:AY Aa ((c6.1,(c6.2.1,c6.2.2)),(0,(0,[])),(V,(n,cs)),40+x6)=_:=e7
    simp only[e6,Option.bind_some,ew,e7]
    exact⟨_,_,rfl,g6.mono (by omega),by dsimp only;omega,by dsimp only;omega,n0,n1,h7,λq hq=>(h8 q hq).mono (by omega)⟩
   ·rw[if_neg (by simpa using b2)]
    exact⟨_,_,rfl,g5.mono (by omega),by dsimp only;omega,by dsimp only;omega,n0,n1,by dsimp only;omega,λq hq=>(h5 q hq).mono (by omega)⟩
end T
open Go Go.Va
namespace T
theorem Hf {a:Net} (hb:BH a=true): ∃(V n:Nat) (cs:List Con),a=((V:Int),((n:Int),cs))/\SrchOk V n cs:=by
 have hN:=CL hb
 obtain⟨v,nn,cs⟩:=a
 have hv:=hN.hv
 have hn:=hN.hn
 have hc:=hN.hc
 have hcon:=hN.con
 dsimp only at hv hn hc hcon
 obtain⟨V,rfl⟩: ∃V:Nat,v=(V:Int):=⟨v.toNat,by omega⟩
 obtain⟨n,rfl⟩: ∃n:Nat,nn=(n:Int):=⟨nn.toNat,by omega⟩
 exact⟨V,n,cs,rfl,by omega,by omega,hc,hcon⟩
end T
open Go Go.Va
namespace T
section
variable {V n:Nat} {cs:List Con} {t:List Int} {a:Net}
theorem Ep (hS:SrchOk V n cs):t∈Bu V n cs (List.replicate V (-1))↔t.length=V/\(∀u,u<V->0<=t.getD u 0/\t.getD u 0<(n:Int))/\ ∀c∈cs,Ei t c=true:=by
 unfold Bu
 rw[Fe]
 simp only[List.length_nil,Nat.zero_add,List.take_zero,true_and,Nat.zero_le,true_implies]
 constructor
 ·rintro ⟨h1,h2⟩
  refine⟨h1,λu hu=>(h2 u (by omega)).1,λc hc=>?_⟩
  have hm:c∈Ar cs (BJ c):=En.2 ⟨hc,rfl⟩
  have hlt:=(Eh hS hm).2
  have:=(h2 (BJ c) (by omega)).2.2
  rw[Gu hS (by omega),List.all_eq_true]at this
  exact this c hm
 ·rintro ⟨h1,h2,h3⟩
  refine⟨h1,λq hq=>⟨by have:=h2 q (by omega);omega,Hv (by omega),?_⟩⟩
  rw[Gu hS hq,List.all_eq_true]
  exact λc hc=>h3 c (En.1 hc).1
end
end T
set_option linter.unusedVariables false
open Go Go.Va
namespace T
def A8:Nat->((List Int)×(Int×Int×(List ((List Int)×Int×(List (List Int)))))×(List Int)×Int×Int)->Option (((List Int)×(Int×Int×(List ((List Int)×Int×(List (List Int))))))⊕((List Int)×Bool))
 |0,_=>none
 |n+1,(partial_,net,t20,t21,t22)=>
 if decide (t22<t21)then
 if inb t22 t20 then
 if decide ((gd t20 t22 0)<(-1))then
 some (.inr ([],false))
 else
 if decide ((gd t20 t22 0)≥net.2.1)then
 some (.inr ([],false))
 else
 A8 n (partial_,(net.1,(net.2.1,net.2.2)),t20,t21,w64 (t22+1))
 else none
 else
 some (.inl (partial_,(net.1,(net.2.1,net.2.2))))
def Da (net:Int×Int×(List ((List Int)×Int×(List (List Int))))) (partial_:List Int):Option ((List Int)×Bool):=
 (Bk (net.1,(net.2.1,net.2.2))).bind λr1=>
  if !r1 then
   some ([],false)
  else
   if(partial_.length:Int) !=net.1 then
    some ([],false)
   else
    (A8 Aa (partial_,(net.1,(net.2.1,net.2.2)),partial_,(partial_.length:Int),0)).bind λs2=>
     match s2 with
     | .inl s3=>
      (Dd (s3.2.1,(s3.2.2.1,s3.2.2.2)) s3.1).bind λr5=>
       if !r5.1 then
        some ([],false)
       else
        some (r5.2,true)
     | .inr s4=>
      some (s4.1,s4.2)
end T
set_option linter.unusedVariables false
open Go Go.Va
namespace T
def CY (code:List Int):Option ((Int×Int×(List ((List Int)×Int×(List (List Int)))))):=
 (D5 code).bind λr1=>
 some (r1.1,(r1.2.1,r1.2.2))
def Dq:Nat->((List Int)×Int×Int)->Option ((Unit)⊕(Bool))
 |0,_=>none
 |n+1,(list,x,i)=>
 if decide (i<(list.length:Int))then
 if inb i list then
 if(gd list i 0)==x then
 some (.inr true)
 else
 Dq n (list,x,w64 (i+1))
 else none
 else
 some (.inl ())
def Em (list:List Int) (x:Int):Option (Bool):=
 (Dq Aa (list,x,0)).bind λs1=>
  match s1 with
  | .inl s2=>
   some false
  | .inr s3=>
   some s3
def Cw:Nat->((List Int)×(List Int)×Int)->Option ((Unit)⊕(Bool))
 |0,_=>none
 |n+1,(a,b,i)=>
 if decide (i<(a.length:Int))then
 if inb i a then
 (Em b (gd a i 0)).bind λr1=>
 if !r1 then
 some (.inr false)
 else
 Cw n (a,b,w64 (i+1))
 else none
 else
 some (.inl ())
def Ev (a:List Int) (b:List Int):Option (Bool):=
 (Cw Aa (a,b,0)).bind λs1=>
  match s1 with
  | .inl s2=>
   some true
  | .inr s3=>
   some s3
def Bz:Nat->((List Int)×(Int×Int×(List ((List Int)×Int×(List (List Int)))))×Int)->Option (((List Int)×(Int×Int×(List ((List Int)×Int×(List (List Int))))))⊕(Bool))
 |0,_=>none
 |n+1,(partial_,net,i)=>
 if decide (i<(partial_.length:Int))then
 if inb i partial_ then
 (CU (gd partial_ i 0) (-1) (w64 (net.2.1-1))).bind λr1=>
 if !r1 then
 some (.inr false)
 else
 Bz n (partial_,(net.1,(net.2.1,net.2.2)),w64 (i+1))
 else none
 else
 some (.inl (partial_,(net.1,(net.2.1,net.2.2))))
def C5 (net:Int×Int×(List ((List Int)×Int×(List (List Int))))) (partial_:List Int):Option (Bool):=
 (Bz Aa (partial_,(net.1,(net.2.1,net.2.2)),0)).bind λs1=>
  match s1 with
  | .inl s2=>
   some ((s2.1.length:Int)==s2.2.1)
  | .inr s3=>
   some s3
def Df (net:Int×Int×(List ((List Int)×Int×(List (List Int))))) (partial_:List Int):Option ((List Int)×Bool):=
 (Ct (net.1,(net.2.1,net.2.2))).bind λr1=>
 if !r1 then
 some ([],false)
 else
 (C5 (net.1,(net.2.1,net.2.2)) partial_).bind λr2=>
 if !r2 then
 some ([],false)
 else
 (CT (net.1,(net.2.1,net.2.2)) net.2.2 partial_ 1 true).bind λr3=>
 if r3.2.1==0 then
 some ([],false)
 else
 if inb 0 r3.1 then
 some (gd r3.1 0 [],true)
 else none
end T
open Go Go.Va
namespace T
section
variable {a:Net} {V n:Nat} {cs:List Con}
def Yib (a:Net) (p:List Int):Bool:=decide ((p.length:Int)=a.1)&&p.all λx=>decide (-1<=x/\x<a.2.1)
def fsV (a:Net) (p:List Int):List Int×Bool:=
 if BH a&&Yib a p then(match Bu a.1.toNat a.2.1.toNat a.2.2 p with| []=>([],false)|t::_=>(t,true))else([],false)
theorem EG (h:FN a) {p:List Int} (hl:p.length<=1048576):Da a p=some (fsV a p):=by
 unfold Da fsV
 rw[Bl (a:=(a.1,(a.2.1,a.2.2))) h]
 rw[show BH (a.1,(a.2.1,a.2.2))=BH a from rfl]
 cases hb:BH a with
 |false=>simp
 |true=>
  simp only[Option.bind_some,Bool.not_true,Bool.false_eq_true,if_false,Bool.true_and]
  unfold Yib
  by_cases he:(p.length:Int)=a.1
  ·rw[if_neg (by simpa using he),decide_eq_true he]
   have:=FT p (λf i=>A8 f (p,a,p,(p.length:Int),i)) (λx=>decide (-1<=x/\x<a.2.1)) (.inr ([],false)) (.inl (p,a)) (λf k hk=>?_) (λf=>?_) (n:=Aa) (by unfold Aa;omega)
   ·have this:A8 Aa (p,(a.1,(a.2.1,a.2.2)),p,(p.length:Int),0)=_:=this
    rw[this]
    cases hp:p.all λx=>decide (-1<=x/\x<a.2.1)with
    |false=>simp
    |true=>
     obtain⟨V,n,cs,rfl,hS⟩:=Hf hb
     have e:=Hn hS (given:=p) (by dsimp only at he;omega)
     simp only[Option.bind_some,if_true,e,Bool.and_self,Int.toNat_natCast]
     cases Bu V n cs p with
     |nil=>simp[G7]
     |cons t l=>simp[G7]
   ·simp only[A8,Af,hk,Ae hk,if_true,Ad (show k<4611686018427387904 by omega)]
    rw[if_pos (by rw[decide_eq_true_eq];omega)]
    by_cases h1:p[k]< -1
    ·rw[if_pos (decide_eq_true h1),if_neg (by rw[decide_eq_true_eq];omega)]
    ·rw[if_neg (by simpa using h1)]
     by_cases h2:p[k]≥a.2.1
     ·rw[if_pos (decide_eq_true h2),if_neg (by rw[decide_eq_true_eq];omega)]
     ·rw[if_neg (by simpa using h2),if_pos (by rw[decide_eq_true_eq];omega)]
   ·simp only[A8]
    rw[if_neg (by simp)]
  ·rw[if_pos (by simpa using he),decide_eq_false he];simp
theorem HM {p:List Int} (h:SrchOk V n cs) (hp:p.length=V): ∃s:S19,CT ((V:Int),((n:Int),cs)) cs p 1 true=some s/\(Bu V n cs p= []->s.2.1=0)/\ ∀t l,Bu V n cs p=t::l->s.2.1=1/\s.1= [t]:=by
 cases hs:Bu V n cs p with
 |nil=>exact⟨_,Ff (cs0:=cs) (given:=p) (most:=1) (one:=true) h hp (by omega) (s':=([],0,1,true)) (b:=true) (by rw[hs];rfl),λ_=>rfl,λt l e=>(by cases e)⟩
 |cons t l=>exact⟨_,Ff (cs0:=cs) (given:=p) (most:=1) (one:=true) h hp (by omega) (s':=([t],1,1,true)) (b:=false) (by rw[hs];rfl),λe=>(by cases e),λt' l' e=>by cases e;exact⟨rfl,rfl⟩⟩
theorem FA {p:List Int} (hl:p.length<=1048576) (hn:0<=a.2.1/\a.2.1<=100):C5 a p=some (Yib a p):=by
 unfold C5 Yib
 have:=FT p (λf i=>Bz f (p,a,i)) (λx=>decide (-1<=x/\x<a.2.1)) (.inr false) (.inl (p,a)) (λf k hk=>?_) (λf=>?_) (n:=Aa) (by unfold Aa;omega)
 ·have this:Bz Aa (p,(a.1,(a.2.1,a.2.2)),0)=_:=this
  rw[this]
  cases hp:p.all λx=>decide (-1<=x/\x<a.2.1)with
  |false=>simp
  |true=>
   simp only[Option.bind_some,if_true,Bool.and_true]
   congr 1
 ·have ew:w64 (a.2.1-1)=a.2.1-1:=AP (by omega) (by omega)
  simp only[Bz,Af,hk,Ae hk,if_true,Cu,Option.bind_some,ew,Ad (show k<4611686018427387904 by omega)]
  rw[if_pos (by rw[decide_eq_true_eq];omega)]
  by_cases h1: -1<=p[k]/\p[k]<a.2.1
  ·rw[decide_eq_true h1,decide_eq_true (show-1<=p[k]/\p[k]<=a.2.1-1 by omega)];rfl
  ·rw[decide_eq_false h1,decide_eq_false (show¬(-1<=p[k]/\p[k]<=a.2.1-1) by omega)];rfl
 ·simp only[Bz]
  rw[if_neg (by simp)]
theorem EK (h:FN a) {p:List Int} (hl:p.length<=1048576):Df a p=some (fsV a p):=by
 unfold Df fsV
 rw[CA (a:=(a.1,(a.2.1,a.2.2))) h]
 rw[show BH (a.1,(a.2.1,a.2.2))=BH a from rfl]
 cases hb:BH a with
 |false=>simp
 |true=>
  have hn:=(CL hb).hn
  have e1:C5 (a.1,(a.2.1,a.2.2)) p=_:=FA (a:=a) hl (by omega)
  simp only[Option.bind_some,Bool.not_true,Bool.false_eq_true,if_false,Bool.true_and,e1]
  cases hp:Yib a p with
  |false=>simp
  |true=>
   have hp':=hp
   unfold Yib at hp'
   rw[Bool.and_eq_true]at hp'
   have he:=of_decide_eq_true hp'.1
   obtain⟨V,n,cs,rfl,hS⟩:=Hf hb
   obtain⟨s,e2,e3,e4⟩:=HM (p:=p) hS (by dsimp only at he;omega)
   simp only[Option.bind_some,Bool.not_true,Bool.false_eq_true,if_false,e2,if_true,Int.toNat_natCast]
   cases hs:Bu V n cs p with
   |nil=>
    rw[if_pos (by simpa using e3 hs)]
   |cons t l=>
    obtain⟨f1,f2⟩:=e4 t l hs
    rw[f1,f2];rfl
theorem Iy (hb:BH a=true):Yib a (List.replicate a.1.toNat (-1))=true:=by
 have hN:=CL hb
 have hv:=hN.hv
 have hn:=hN.hn
 unfold Yib
 rw[Bool.and_eq_true,decide_eq_true_eq,List.all_eq_true]
 refine⟨by simp;omega,λx hx=>?_⟩
 rw[List.eq_of_mem_replicate hx]
 exact decide_eq_true (by omega)
end
end T
open Go Go.Va
namespace T
section
variable {a:Net} {K:Nat} {c:Con} {i p n:Nat} {st:ASt}
theorem Fg {β:Type} {f:ASt->β->ASt} {P:ASt->Prop} (h1: ∀s x,P s->P (f s x)/\s.2.length<=(f s x).2.length) (h2: ∀s x,P s->(f s x).2.length=s.2.length->f s x=s):
  ∀(l:List β) (s:ASt),P s->(l.foldl f s).2.length=s.2.length->l.foldl f s=s/\ ∀x∈l,f s x=s
 | [],s,_,_=>⟨rfl,λx h=>by simp at h⟩
 |x::l,s,hs,h=>by
  rw[List.foldl_cons]at h⊢
  have m1:=h1 s x hs
  have m2: ∀(l:List β) (s:ASt),P s->s.2.length<=(l.foldl f s).2.length:=by
   intro l
   induction l with
   |nil=>intro s _;exact Nat.le_refl _
   |cons y l ih=>
    intro s hs
    have:=h1 s y hs
    exact Nat.le_trans this.2 (ih _ this.1)
  have m3:=m2 l _ m1.1
  have e:=h2 s x hs (by omega)
  rw[e]at h⊢
  obtain⟨q1,q2⟩:=Fg h1 h2 l s hs h
  exact⟨q1,λy hy=>by
   rcases List.mem_cons.1 hy with rfl|hy
   ·exact e
   ·exact q2 y hy⟩
theorem GG {x:Nat} (h:(B1 c i p st x).2.length=st.2.length):B1 c i p st x=st/\(d2 st.1 (g0 c.1 p).toNat x=true->CH st.1 c p x=true):=by
 unfold B1 at h⊢
 cases hb:d2 st.1 (g0 c.1 p).toNat x&&!CH st.1 c p x with
 |true=>rw[hb]at h;simp[EJ]at h
 |false=>
  refine⟨by simp,λhd=>?_⟩
  rw[hd,Bool.true_and]at hb
  simpa using hb
theorem GF (hi:AInv a K st) (h:(BL n c i st p).2.length=st.2.length):BL n c i st p=st/\ ∀x,x<n->d2 st.1 (g0 c.1 p).toNat x=true->CH st.1 c p x=true:=by
 obtain⟨q1,q2⟩:=Fg (f:=B1 c i p) (P:=AInv a K) (λs x hs=>FZ hs) (λs x _ h=>(GG h).1) (List.range n) st hi h
 exact⟨q1,λx hx=>(GG (c:=c) (i:=i) (p:=p) (st:=st) (x:=x) (by rw[q2 x (List.mem_range.2 hx)])).2⟩
theorem GE (hi:AInv a K st) (h:(Dm a st i).2.length=st.2.length):Dm a st i=st/\ ∀p,p<(a.2.2.getD i Dz).1.length-> ∀x,x<a.2.1.toNat->d2 st.1 (g0 (a.2.2.getD i Dz).1 p).toNat x=true->CH st.1 (a.2.2.getD i Dz) p x=true:=by
 obtain⟨q1,q2⟩:=Fg (f:=BL a.2.1.toNat (a.2.2.getD i Dz) i) (P:=AInv a K) (λs x hs=>Ej _ hs) (λs x hs h=>(GF hs h).1) (List.range (a.2.2.getD i Dz).1.length) st hi h
 exact⟨q1,λp hp=>(GF (i:=i) hi (by rw[q2 p (List.mem_range.2 hp)])).2⟩
theorem Gv (hi:AInv a K st) (h:(B0 a st).2.length=st.2.length):B0 a st=st/\ ∀i,i<a.2.2.length-> ∀p,p<(a.2.2.getD i Dz).1.length-> ∀x,x<a.2.1.toNat->d2 st.1 (g0 (a.2.2.getD i Dz).1 p).toNat x=true->CH st.1 (a.2.2.getD i Dz) p x=true:=by
 obtain⟨q1,q2⟩:=Fg (f:=Dm a) (P:=AInv a K) (λs x hs=>DZ _ hs) (λs x hs h=>(GE hs h).1) (List.range a.2.2.length) st hi h
 exact⟨q1,λi hi'=>(GE hi (by rw[q2 i (List.mem_range.2 hi')])).2⟩
theorem GN: ∀(k:Nat) (st:ASt),AInv a K st->mu st.1<k->(B0 a (EM a k st)).2.length=(EM a k st).2.length
 |0,_,_,h=>absurd h (by omega)
 |k+1,st,hi,h=>by
  simp only[EM]
  have hp:=DA (List.range a.2.2.length) hi
  have hp1:AInv a K (B0 a st):=hp.1
  have hp2:st.2.length<=(B0 a st).2.length:=hp.2
  split
  ·rename_i hlt
   refine GN k (B0 a st) hp1 ?_
   have s1:=hi.sum
   have s2:=hp1.sum
   omega
  ·rename_i hlt
   have he:=(Gv hi (by omega)).1
   rw[he,he]
theorem IK (hN:NetOk a) {d:Dom} (hd:DomOk a d) {c:Con} (hc:c∈a.2.2) {p:Nat} (hp:p<c.1.length) {x:Nat} (hx:d2 (Bc a d).1 (g0 c.1 p).toNat x=true):CH (Bc a d).1 c p x=true:=by
 have hi:AInv a (mu d) (d,[]):=⟨hd,by simp⟩
 have h1:=GN 40 (d,[]) hi (by have:=FL hN hd;show mu d<40;omega)
 have h2:=FF 40 hi
 obtain⟨i,hi',rfl⟩:=List.mem_iff_getElem.1 hc
 have hrow:=EO hx
 have h3:AInv a (mu d) (Bc a d):=h2
 have hr:=h3.ok.row _ (List.getElem_mem hrow.1)
 have hxn:x<a.2.1.toNat:=by
  have:=hrow.2
  rw[Ab hrow.1]at this
  omega
 have:=(Gv h2 h1).2 i hi' p (by rw[Ab hi'];exact hp) x hxn (by rw[Ab hi'];exact hx)
 rw[Ab hi']at this
 exact this
def BG (d:Dom) (V:Nat) (t:List Int):Prop:= ∀u,u<V->d2 d u (t.getD u 0).toNat=true
theorem J6 (s t:List Int) (hs: ∀i,i<s.length->0<=s.getD i 0/\(s.getD i 0).toNat<t.length):agB s (s.map (DX t))=true:=by
 unfold agB
 rw[List.all_eq_true]
 intro i hi
 rw[List.all_eq_true]
 intro j hj
 have hi:=List.mem_range.1 hi
 have hj:=List.mem_range.1 hj
 unfold Eo
 have e: ∀k,k<s.length->g0 (s.map (DX t)) k=DX t (g0 s k):=λk hk=>by
  unfold g0
  rw[Ab (by simpa using hk),Ab hk,List.getElem_map]
 rw[e i hi,e j (by omega)]
 by_cases h:g0 s i=g0 s j
 ·simp[h]
 ·simp[h]
theorem JU {V:Nat} (hcon:ConOk (V:Int) (n:Int) c) {d:Dom} {t:List Int} (ht:t.length=V) (hv: ∀u,u<V->0<=t.getD u 0/\t.getD u 0<(n:Int)) (hh:Ei t c=true) (hw:BG d V t) {p:Nat} (hp:p<c.1.length):
  CH d c p (t.getD (g0 c.1 p).toNat 0)=true:=by
 unfold CH
 rw[List.any_eq_true]
 have hsv: ∀k (hk:k<c.1.length),0<=g0 c.1 k/\g0 c.1 k<(V:Int):=λk hk=>by unfold g0;rw[Ab hk];exact hcon.sv k hk
 have e: ∀k,k<c.1.length->g0 (c.1.map (DX t)) k=DX t (g0 c.1 k):=λk hk=>by
  unfold g0
  rw[Ab (by simpa using hk),Ab hk,List.getElem_map]
 refine⟨c.1.map (DX t),of_decide_eq_true hh,?_⟩
 rw[Bool.and_eq_true,decide_eq_true_eq,Bool.and_eq_true]
 refine⟨by rw[e p hp];rfl,J6 _ _ λk hk=>?_,?_⟩
 ·have:=hsv k hk;unfold g0 at this;omega
 ·unfold inD
  rw[List.all_eq_true]
  intro k hk
  have hk:=List.mem_range.1 hk
  rw[e k hk]
  have:=hsv k hk
  exact hw _ (by omega)
theorem Hh {V:Nat} (hcon:ConOk (V:Int) (n:Int) c) {t:List Int} (ht:t.length=V) (hv: ∀u,u<V->0<=t.getD u 0/\t.getD u 0<(n:Int)) (hh:Ei t c=true) (hp:p<c.1.length) (hw:BG st.1 V t) (x:Nat):BG (B1 c i p st x).1 V t:=by
 unfold B1
 split
 ·rename_i hb
  rw[Bool.and_eq_true]at hb
  intro u hu
  have hin:=EO hb.1
  by_cases h:u=(g0 c.1 p).toNat/\(t.getD u 0).toNat=x
  ·exfalso
   obtain⟨rfl,h2⟩:=h
   have hs:=JU hcon ht hv hh hw hp
   have h3:=hv _ hu
   have:t.getD (g0 c.1 p).toNat 0=(x:Int):=by omega
   rw[this]at hs
   rw[hs]at hb;simp at hb
  ·have:=hw u hu
   simp only[EJ]
   by_cases hu':u=(g0 c.1 p).toNat
   ·subst hu'
    rw[Fb (λe=>h ⟨rfl,e⟩)];exact this
   ·unfold d2 at this
    unfold d2 CM
    rw[Ao,if_neg (λe=>hu' e.1.symm)];exact this
 ·exact hw
theorem Gi {V:Nat} {cs:List Con} (hS:SrchOk V n cs) {t:List Int} (ht:t∈Bu V n cs (List.replicate V (-1))): ∀(k:Nat) (st:ASt),BG st.1 V t->BG (EM ((V:Int),((n:Int),cs)) k st).1 V t:=by
 obtain⟨t1,t2,t3⟩:=(Ep hS).1 ht
 have hpass: ∀st:ASt,BG st.1 V t->BG (B0 ((V:Int),((n:Int),cs)) st).1 V t:=λst hw=>by
  unfold B0
  refine BO (P:=λs:ASt=>BG s.1 V t) _ (λs i hi hs=>?_) st hw
  have hi:i<cs.length:=List.mem_range.1 hi
  unfold Dm
  refine BO (P:=λs:ASt=>BG s.1 V t) _ (λs p hp hs=>?_) s hs
  have hp:=List.mem_range.1 hp
  unfold BL
  refine BO (P:=λs:ASt=>BG s.1 V t) _ (λs x _ hs=>?_) s hs
  have hm:=List.getElem_mem hi
  dsimp only at hp⊢
  rw[Ab hi]at hp⊢
  exact Hh (hS.con _ hm) t1 t2 (t3 _ hm) hp hs x
 intro k
 induction k with
 |zero=>intro st hw;exact hw
 |succ k ih=>
  intro st hw
  simp only[EM]
  split
  ·exact ih _ (hpass st hw)
  ·exact hpass st hw
theorem ER {V:Nat} {cs:List Con} {t:List Int} (ht:t.length=V) (hv: ∀u,u<V->0<=t.getD u 0/\t.getD u 0<(n:Int)):BG (AC ((V:Int),((n:Int),cs))) V t:=λu hu=>by
 have:=hv u hu
 unfold d2 AC
 dsimp only
 have e:(List.replicate V (List.replicate n true)).getD u []=List.replicate n true:=by rw[Ab (by simpa using hu),List.getElem_replicate]
 rw[Int.toNat_natCast,Int.toNat_natCast,e,Ab (by rw[List.length_replicate];omega),List.getElem_replicate]
end
end T
set_option linter.unusedVariables false
open Go Go.Va
namespace T
def AE:Nat->((Int×Int×(List ((List Int)×Int×(List (List Int)))))×(List (List Int))×(List (Int×Int×Int))×(List (Int×Int×Int))×Int×Int)->Option (((Int×Int×(List ((List Int)×Int×(List (List Int)))))×(List (List Int))×(List (Int×Int×Int))×Int)⊕(Bool))
 |0,_=>none
 |n+1,(t3,t4,t8,t10,t12,t13)=>
 if decide (t13<(t8.length:Int))then
 if inb t13 t8 then
 if inb t13 t10 then
 if !(((gd t8 t13 (0,(0,0))).1)==((gd t10 t13 (0,(0,0))).1)&&((((gd t8 t13 (0,(0,0))).2).1)==(((gd t10 t13 (0,(0,0))).2).1)&&((((gd t8 t13 (0,(0,0))).2).2)==(((gd t10 t13 (0,(0,0))).2).2)&&true)))then
 some (.inr false)
 else
 if inb t13 t8 then
 if inb ((gd t8 t13 (0,(0,0))).1) t3.2.2 then
 if inb t13 t8 then
 if inb (((gd t8 t13 (0,(0,0))).2).1) ((gd t3.2.2 ((gd t8 t13 (0,(0,0))).1) ([],(0,[]))).1)then
 if inb (gd ((gd t3.2.2 ((gd t8 t13 (0,(0,0))).1) ([],(0,[]))).1) (((gd t8 t13 (0,(0,0))).2).1) 0) t4 then
 if inb t13 t8 then
 (Em (gd t4 (gd ((gd t3.2.2 ((gd t8 t13 (0,(0,0))).1) ([],(0,[]))).1) (((gd t8 t13 (0,(0,0))).2).1) 0) []) (((gd t8 t13 (0,(0,0))).2).2)).bind λr8=>
 if r8 then
 some (.inr false)
 else
 AE n ((t3.1,(t3.2.1,t3.2.2)),t4,t8,t10,w64 (t12+1),w64 (t13+1))
 else none
 else none
 else none
 else none
 else none
 else none
 else none
 else none
 else
 some (.inl ((t3.1,(t3.2.1,t3.2.2)),t4,t8,t12))
def AF:Nat->((Int×Int×(List ((List Int)×Int×(List (List Int)))))×(List (List Int))×(List (Int×Int×Int))×Int×Int×Int)->Option ((Int×Int×(List ((List Int)×Int×(List (List Int)))))×(List (List Int))×(List (Int×Int×Int))×Int×Int)
 |0,_=>none
 |n+1,(t3,t4,t8,t12,t15,t16)=>
 if decide (t16<(t4.length:Int))then
 if inb t16 t4 then
 AF n ((t3.1,(t3.2.1,t3.2.2)),t4,t8,t12,w64 (t15+((gd t4 t16 []).length:Int)),w64 (t16+1))
 else none
 else
 some ((t3.1,(t3.2.1,t3.2.2)),t4,t8,t12,t15)
def AG:Nat->((Int×Int×(List ((List Int)×Int×(List (List Int)))))×(List (List Int))×(List (List Int))×Bool×(List Int)×Int)->Option (((Int×Int×(List ((List Int)×Int×(List (List Int)))))×(List (List Int))×Bool×(List Int))⊕(Bool))
 |0,_=>none
 |n+1,(t3,t4,t19,t23,t33,t34)=>
 if decide (t34<t3.1)then
 if t33.length+ [(-1)].length<=lim then
 if inb t34 t19 then
 if inb t34 t4 then
 (Ev (gd t19 t34 []) (gd t4 t34 [])).bind λr20=>
 if !r20 then
 some (.inr false)
 else
 AG n ((t3.1,(t3.2.1,t3.2.2)),t4,t19,t23,t33++ [(-1)],w64 (t34+1))
 else none
 else none
 else none
 else
 some (.inl ((t3.1,(t3.2.1,t3.2.2)),t19,t23,t33))
def Av:Nat->((List (List Int))×(List Int)×Int)->Option ((Unit)⊕(Bool))
 |0,_=>none
 |n+1,(t19,t35,t39)=>
 if decide (t39<(t35.length:Int))then
 if inb t39 t19 then
 if inb t39 t35 then
 (Em (gd t19 t39 []) (gd t35 t39 0)).bind λr27=>
 if !r27 then
 some (.inr false)
 else
 Av n (t19,t35,w64 (t39+1))
 else none
 else none
 else
 some (.inl ())
def Dx (t0:List Int):Option (Bool):=
 (GT t0).bind λr1=>
  if r1 then
   some true
  else
   (CY t0).bind λr2=>
    (C3 (r2.1,(r2.2.1,r2.2.2))).bind λr3=>
     (C4 (r2.1,(r2.2.1,r2.2.2))).bind λr4=>
      if r3.2 !=r4.2 then
       some false
      else
       (Ec r3.1 r4.1).bind λr5=>
        if !r5 then
         some false
        else
         (DE (r2.1,(r2.2.1,r2.2.2))).bind λr6=>
          (DG (r2.1,(r2.2.1,r2.2.2))).bind λr7=>
           if r6.2 !=r7.2 then
            some false
           else
            if r6.2 !=r3.2 then
             some false
            else
             if(r6.1.length:Int) !=(r7.1.length:Int)then
              some false
             else
              if !r3.2 then
               some true
              else
               (AE Aa ((r2.1,(r2.2.1,r2.2.2)),r3.1,r6.1,r7.1,0,0)).bind λs8=>
                match s8 with
                | .inl s9=>
                 (AF Aa ((s9.1.1,(s9.1.2.1,s9.1.2.2)),s9.2.1,s9.2.2.1,s9.2.2.2,0,0)).bind λs11=>
                  (DP (s11.1.1,(s11.1.2.1,s11.1.2.2)) s11.2.2.1).bind λr12=>
                   if !r12.2 then
                    some false
                   else
                    if !r12.1 then
                     some false
                    else
                     if(w64 (s11.2.2.2.2+s11.2.2.2.1)) !=(w64 (s11.1.1*s11.1.2.1))then
                      some false
                     else
                      (Dc (s11.1.1,(s11.1.2.1,s11.1.2.2))).bind λr13=>
                       (Dh (s11.1.1,(s11.1.2.1,s11.1.2.2))).bind λr14=>
                        if r13.2 !=r14.2 then
                         some false
                        else
                         if !r13.2 then
                          some false
                         else
                          (Ec r13.1 r14.1).bind λr15=>
                           if !r15 then
                            some false
                           else
                            (DO (s11.1.1,(s11.1.2.1,s11.1.2.2))).bind λr16=>
                             (Db (s11.1.1,(s11.1.2.1,s11.1.2.2))).bind λr17=>
                              (Dg (s11.1.1,(s11.1.2.1,s11.1.2.2))).bind λr18=>
                               if r17.1 !=r18.1 then
                                some false
                               else
                                if r17.2.1 !=r18.2.1 then
                                 some false
                                else
                                 if r17.2.2.1 !=r18.2.2.1 then
                                  some false
                                 else
                                  if r17.2.2.2 !=r18.2.2.2 then
                                   some false
                                  else
                                   if !r17.2.2.2 then
                                    some false
                                   else
                                    if !r16.2 then
                                     some false
                                    else
                                     if r17.1 !=s11.2.2.2.1 then
                                      some false
                                     else
                                      if decide (r17.1>r17.2.1)then
                                       some false
                                      else
                                       if decide (r17.2.1>r17.2.2.1)then
                                        some false
                                       else
                                        (AG Aa ((s11.1.1,(s11.1.2.1,s11.1.2.2)),s11.2.1,r13.1,r16.1,[],0)).bind λs19=>
                                         match s19 with
                                         | .inl s20=>
                                          (Da (s20.1.1,(s20.1.2.1,s20.1.2.2)) s20.2.2.2).bind λr22=>
                                           (Df (s20.1.1,(s20.1.2.1,s20.1.2.2)) s20.2.2.2).bind λr23=>
                                            if r22.2 !=r23.2 then
                                             some false
                                            else
                                             (Eu r22.1 r23.1).bind λr24=>
                                              if !r24 then
                                               some false
                                              else
                                               if s20.2.2.1 then
                                                if r22.2 then
                                                 some false
                                                else
                                                 (Av Aa (s20.2.1,r22.1,0)).bind λs25=>
                                                  match s25 with
                                                  | .inl s26=>
                                                   some true
                                                  | .inr s27=>
                                                   some s27
                                               else
                                                (Av Aa (s20.2.1,r22.1,0)).bind λs28=>
                                                 match s28 with
                                                 | .inl s29=>
                                                  some true
                                                 | .inr s30=>
                                                  some s30
                                         | .inr s21=>
                                          some s21
                | .inr s10=>
                 some s10
end T
open Go Go.Va
namespace T
section
variable {a:Net} {c:Con} {n V:Nat} {cs:List Con} {d e E:Dom} {st:ASt} {t:List Int}
def dle (d e:Dom):Prop:= ∀v x,d2 d v x=true->d2 e v x=true
theorem D2:dle d d:=λ_ _ h=>h
theorem DY {f:Dom} (h1:dle d e) (h2:dle e f):dle d f:=λv x h=>h2 v x (h1 v x h)
theorem He {v x:Nat}:dle (CM d v x) d:=λu y h=>by
 unfold d2 CM at h
 rw[Ao]at h
 split at h
 ·rename_i hc
  obtain⟨rfl,_⟩:=hc
  rw[Ao]at h
  split at h
  ·cases h
  ·exact h
 ·exact h
theorem HC {v x:Nat} (h:d2 d v x=true):d2 (CM d v x) v x=false:=by
 obtain⟨h1,h2⟩:=EO h
 unfold d2 CM
 rw[Ao,if_pos ⟨rfl,h1⟩,Ao,if_pos ⟨rfl,h2⟩]
theorem Jn {i p x:Nat}:dle (B1 c i p st x).1 st.1:=by
 unfold B1
 split
 ·exact He
 ·exact D2
theorem Gh {P:ASt->Prop} (h: ∀(s:ASt) (i p x:Nat),i<a.2.2.length->p<(a.2.2.getD i Dz).1.length->x<a.2.1.toNat->P s->P (B1 (a.2.2.getD i Dz) i p s x)): ∀(k:Nat) (s:ASt),P s->P (EM a k s):=by
 have hpass: ∀s:ASt,P s->P (B0 a s):=λs hs=>by
  unfold B0
  refine BO (P:=P) _ (λs i hi hs=>?_) s hs
  unfold Dm
  refine BO (P:=P) _ (λs p hp hs=>?_) s hs
  unfold BL
  exact BO (P:=P) _ (λs x hx hs=>h s i p x (List.mem_range.1 hi) (List.mem_range.1 hp) (List.mem_range.1 hx) hs) s hs
 intro k
 induction k with
 |zero=>intro s hs;exact hs
 |succ k ih=>
  intro s hs
  simp only[EM]
  split
  ·exact ih _ (hpass s hs)
  ·exact hpass s hs
theorem IL (d:Dom):dle (Bc a d).1 d:=Gh (P:=λs=>dle s.1 d) (λ_ _ _ _ _ _ _ hs=>DY Jn hs) 40 (d,[]) D2
def Jx (a:Net) (E:Dom):Prop:= ∀c∈a.2.2,∀p,p<c.1.length-> ∀x:Nat,d2 E (g0 c.1 p).toNat x=true->CH E c p x=true
theorem Jo (h:dle d e) {p:Nat} {x:Int} (hs:CH d c p x=true):CH e c p x=true:=by
 unfold CH at hs⊢
 rw[List.any_eq_true]at hs⊢
 obtain⟨u,hu,h2⟩:=hs
 refine⟨u,hu,?_⟩
 rw[Bool.and_eq_true,Bool.and_eq_true]at h2⊢
 refine⟨h2.1,h2.2.1,?_⟩
 have h3:=h2.2.2
 unfold inD at h3⊢
 rw[List.all_eq_true]at h3⊢
 exact λi hi=>h _ _ (h3 i hi)
theorem Ik (hE:Jx a E) (k:Nat) (s:ASt) (h:dle E s.1):dle E (EM a k s).1:=by
 refine Gh (P:=λs=>dle E s.1) (λs i p x hi hp hx hs=>?_) k s h
 have hm:=List.getElem_mem hi
 rw[Ab hi]at hp⊢
 unfold B1
 split
 ·rename_i hb
  rw[Bool.and_eq_true]at hb
  intro v y hy
  have h1:=hs v y hy
  by_cases hv:v=(g0 a.2.2[i].1 p).toNat/\y=x
  ·exfalso
   obtain⟨rfl,rfl⟩:=hv
   have:=Jo hs (hE _ hm p hp y hy)
   rw[this]at hb;simp at hb
  ·simp only[EJ]
   by_cases hu:v=(g0 a.2.2[i].1 p).toNat
   ·subst hu
    rw[Fb (λe=>hv ⟨rfl,e⟩)];exact h1
   ·unfold d2 at h1
    unfold d2 CM
    rw[Ao,if_neg (λe=>hu e.1.symm)];exact h1
 ·exact hs
theorem IM (hN:NetOk a) (hd:DomOk a d) (h:dle d e):dle (Bc a d).1 (Bc a e).1:=
 Ik (λc hc p hp x hx=>IK hN hd hc hp hx) 40 (e,[]) (DY (IL d) h)
theorem I0 (hd:DomOk a d):dle d (AC a):=λv x h=>by
 obtain⟨h1,h2⟩:=EO h
 have hl:=hd.len
 have hr:=hd.row _ (List.getElem_mem h1)
 rw[Ab h1]at h2
 unfold d2 AC
 have e:(List.replicate a.1.toNat (List.replicate a.2.1.toNat true)).getD v []=List.replicate a.2.1.toNat true:=by rw[Ab (by rw[List.length_replicate];omega),List.getElem_replicate]
 rw[e,Ab (by rw[List.length_replicate];omega),List.getElem_replicate]
theorem Kf {v x:Nat} (hx:d2 d v x=true):dle (C0 d v x) d:=λu y h=>by
 unfold d2 C0 at h
 rw[Ao]at h
 split at h
 ·rename_i hc
  obtain⟨rfl,_⟩:=hc
  rcases Nat.lt_or_ge y (d.getD v []).length with hy|hy
  ·rw[Ab (by rw[List.length_mapIdx];exact hy),List.getElem_mapIdx]at h
   have:=of_decide_eq_true h
   subst this;exact hx
  ·rw[List.getD_eq_getElem?_getD,List.getElem?_eq_none (by rw[List.length_mapIdx];exact hy)]at h;cases h
 ·exact h
theorem JB {v x y:Nat} (hv:v<d.length) (h:d2 (C0 d v x) v y=true):y=x:=by
 unfold d2 C0 at h
 rw[Ao,if_pos ⟨rfl,hv⟩]at h
 rcases Nat.lt_or_ge y (d.getD v []).length with hy|hy
 ·rw[Ab (by rw[List.length_mapIdx];exact hy),List.getElem_mapIdx]at h
  exact of_decide_eq_true h
 ·rw[List.getD_eq_getElem?_getD,List.getElem?_eq_none (by rw[List.length_mapIdx];exact hy)]at h;cases h
theorem JI {r:List Bool} (h:(mk r).length≠0): ∃x:Nat,r.getD x false=true:=by
 obtain⟨y,l,e⟩:=List.exists_cons_of_ne_nil (show mk r≠ [] from λe=>h (by rw[e];rfl))
 have:y∈mk r:=by rw[e];exact List.mem_cons_self ..
 exact⟨y.toNat,(Ew.1 this).2⟩
theorem IH (hN:NetOk a) (hd:DomOk a d) {v x:Nat} (hx:d2 d v x=true) (he:Bd (Bc a (C0 d v x)).1=false):d2 (Bc a (AC a)).1 v x=true:=by
 have hv:=(EO hx).1
 have hf:=Gg (v:=v) (x:=x) hd
 have hA:=(C2 hN hf).1
 have hlen:=hA.len
 have hlen':=hd.len
 have hvE:v<(Bc a (C0 d v x)).1.length:=by omega
 have h1:(mk (Bc a (C0 d v x)).1[v]).length≠0:=λh0=>by
  have:Bd (Bc a (C0 d v x)).1=true:=by
   unfold Bd
   rw[List.any_eq_true]
   exact⟨_,List.getElem_mem hvE,decide_eq_true h0⟩
  rw[this]at he;exact absurd he (by simp)
 obtain⟨y,hy⟩:=JI h1
 have hy:d2 (Bc a (C0 d v x)).1 v y=true:=by unfold d2;rw[Ab hvE];exact hy
 have:=JB hv (IL _ v y hy)
 subst this
 exact IM hN hf (DY (Kf hx) (I0 hd)) v y hy
theorem Jm {v x:Nat}:dle (CR a v d x) d:=by
 unfold CR
 split
 ·exact He
 ·exact D2
theorem Ho {v:Nat} (l:List Nat):dle (l.foldl (CR a v) d) d:=BO (P:=λs=>dle s d) l (λ_ _ _ hs=>DY Jm hs) d D2
theorem Gk (l:List Nat):dle (l.foldl (EY a) d) d:=BO (P:=λs=>dle s d) l (λ_ _ _ hs=>DY (Ho _) hs) d D2
theorem HF {v x:Nat} (hd:DomOk a d):DomOk a (CR a v d x):=(G3 (d0:=d) ⟨hd,Nat.le_refl _⟩).1
theorem Ih (hN:NetOk a) {v:Nat}: ∀(l:List Nat) (d:Dom),DomOk a d-> ∀x∈l,d2 (l.foldl (CR a v) d) v x=true->d2 (Bc a (AC a)).1 v x=true
 | [],_,_,x,hx,_=>by simp at hx
 |y::l,d,hd,x,hx,h=>by
  rw[List.foldl_cons]at h
  rcases List.mem_cons.1 hx with rfl|hx
  ·have h1:=Ho l v x h
   unfold CR at h1
   split at h1
   ·rename_i hb
    rw[Bool.and_eq_true]at hb
    rw[HC hb.1]at h1;cases h1
   ·rename_i hb
    cases he:Bd (Bc a (C0 d v x)).1 with
    |false=>exact IH hN hd h1 he
    |true=>rw[h1,he]at hb;simp at hb
  ·exact Ih hN l _ (HF hd) x hx h
theorem Hx (hN:NetOk a): ∀(l:List Nat) (d:Dom),DomOk a d-> ∀v∈l,∀x,x<a.2.1.toNat->d2 (l.foldl (EY a) d) v x=true->d2 (Bc a (AC a)).1 v x=true
 | [],_,_,v,hv,_,_,_=>by simp at hv
 |u::l,d,hd,v,hv,x,hx,h=>by
  rw[List.foldl_cons]at h
  rcases List.mem_cons.1 hv with rfl|hv
  ·have h1:=Gk l v x h
   exact Ih hN _ d hd x (List.mem_range.2 hx) h1
  ·exact Hx hN l _ (Gx (d0:=d) _ ⟨hd,Nat.le_refl _⟩).1 v hv x hx h
theorem HD: ∀(k:Nat) (d:Dom),dle (Ce a k d) d
 |0,_=>D2
 |k+1,d=>by
  simp only[Ce]
  split
  ·exact DY (HD k _) (Gk _)
  ·exact Gk _
theorem HV (k:Nat) (d:Dom):dle (Ce a (k+1) d) (Dk a d):=by
 simp only[Ce]
 split
 ·exact HD k _
 ·exact D2
theorem G1 (hN:NetOk a):dle (Ce a 40 (AC a)) (Bc a (AC a)).1:=λv x h=>by
 have hF:=Cq hN
 have hS:=DM 40 hF
 obtain⟨h1,h2⟩:=EO h
 have hl:=hS.len
 have hr:=hS.row _ (List.getElem_mem h1)
 rw[Ab h1]at h2
 have hp:d2 (Dk a (AC a)) v x=true:=HV 39 (AC a) v x h
 exact Hx hN _ _ hF v (List.mem_range.2 (by omega)) x (by omega) hp
theorem G6 (hd:d.length=V) (hw:BG d V t):Bd d=false:=by
 cases h:Bd d with
 |false=>rfl
 |true=>
  unfold Bd at h
  rw[List.any_eq_true]at h
  obtain⟨r,hr,h2⟩:=h
  obtain⟨u,hu,rfl⟩:=List.mem_iff_getElem.1 hr
  have h3:=hw u (by omega)
  unfold d2 at h3
  rw[Ab hu]at h3
  have:((t.getD u 0).toNat:Int)∈mk d[u]:=Ew.2 ⟨by omega,by rw[Int.toNat_natCast];exact h3⟩
  have h4:=of_decide_eq_true h2
  rw[List.length_eq_zero_iff.1 h4]at this;simp at this
theorem Hg (hS:SrchOk V n cs) (ht:t∈Bu V n cs (List.replicate V (-1))) {v x:Nat} (hv:v<V) (hd:DomOk ((V:Int),((n:Int),cs)) d) (hw:BG d V t):BG (CR ((V:Int),((n:Int),cs)) v d x) V t:=by
 obtain⟨t1,t2,t3⟩:=(Ep hS).1 ht
 have hN:=CL (GU hS)
 unfold CR
 split
 ·rename_i hb
  rw[Bool.and_eq_true]at hb
  have hlen:=hd.len
  dsimp only at hlen
  by_cases hx:(t.getD v 0).toNat=x
  ·exfalso
   have hf:BG (C0 d v x) V t:=λu hu=>by
    have h1:=hw u hu
    unfold d2 C0
    rw[Ao]
    split
    ·rename_i hc
     obtain⟨rfl,_⟩:=hc
     obtain⟨_,h2⟩:=EO h1
     rw[Ab (by rw[List.length_mapIdx];exact h2),List.getElem_mapIdx]
     exact decide_eq_true hx
    ·exact h1
   have h2:=Gi hS ht 40 (C0 d v x,[]) hf
   have h3:=(C2 hN (Gg (v:=v) (x:=x) hd)).1.len
   dsimp only at h3
   have h4:=G6 (d:=(Bc ((V:Int),((n:Int),cs)) (C0 d v x)).1) (by omega) h2
   rw[h4]at hb;simp at hb
  ·intro u hu
   have h1:=hw u hu
   by_cases hu':u=v
   ·subst hu'
    rw[Fb hx];exact h1
   ·unfold d2 at h1
    unfold d2 CM
    rw[Ao,if_neg (λe=>hu' e.1.symm)];exact h1
 ·exact hw
theorem F5 (hS:SrchOk V n cs) (ht:t∈Bu V n cs (List.replicate V (-1))): ∀(k:Nat) (d:Dom),DomOk ((V:Int),((n:Int),cs)) d->BG d V t->BG (Ce ((V:Int),((n:Int),cs)) k d) V t:=by
 have hpass: ∀d:Dom,DomOk ((V:Int),((n:Int),cs)) d->BG d V t->DomOk ((V:Int),((n:Int),cs)) (Dk ((V:Int),((n:Int),cs)) d)/\BG (Dk ((V:Int),((n:Int),cs)) d) V t:=λd hd hw=>by
  unfold Dk
  refine BO (P:=λd:Dom=>DomOk ((V:Int),((n:Int),cs)) d/\BG d V t) _ (λs v hv hs=>?_) d ⟨hd,hw⟩
  have hv:v<V:=List.mem_range.1 hv
  unfold EY
  exact BO (P:=λd:Dom=>DomOk ((V:Int),((n:Int),cs)) d/\BG d V t) _ (λs x _ hs=>⟨HF hs.1,Hg hS ht hv hs.1 hs.2⟩) s hs
 intro k
 induction k with
 |zero=>intro d _ hw;exact hw
 |succ k ih=>
  intro d hd hw
  obtain⟨q1,q2⟩:=hpass d hd hw
  simp only[Ce]
  split
  ·exact ih _ q1 q2
  ·exact q2
end
end T
open Go Go.Va
namespace T
section
variable {a:Net} {n V:Nat} {cs:List Con} {d:Dom} {tr:List Tr}
theorem Gj {u:Tr}: ∀k,k<=tr.length->F7 a (tr++ [u]) k=F7 a tr k
 |0,_=>rfl
 |k+1,h=>by
  have e:(tr++ [u]).getD k (0,0,0)=tr.getD k (0,0,0):=by
   rw[Ab (by simp;omega),Ab (by omega),List.getElem_append_left (by omega)]
  simp only[F7,e,Gj k (by omega)]
structure TInv (a:Net) (st:ASt):Prop where
 dom:st.1=F7 a st.2 st.2.length
 ok:GH a st.2=true
 off: ∀t∈st.2,(0<=t.1/\t.1<a.2.2.length)/\(0<=t.2.1/\t.2.1<(a.2.2.getD t.1.toNat Dz).1.length)/\0<=t.2.2/\d2 st.1 (g0 (a.2.2.getD t.1.toNat Dz).1 t.2.1.toNat).toNat t.2.2.toNat=false
theorem JT {st:ASt} {i p x:Nat} (hi:i<a.2.2.length) (hp:p<(a.2.2.getD i Dz).1.length) (hx:x<a.2.1.toNat) (h:TInv a st):TInv a (B1 (a.2.2.getD i Dz) i p st x):=by
 unfold B1
 split
 ·rename_i hb
  rw[Bool.and_eq_true]at hb
  obtain⟨d,l⟩:=st
  have h1:=h.dom
  have h2:=h.ok
  have h3:=h.off
  dsimp only at h1 h2 h3 hb
  simp only[EJ]
  have eg:(l++ [((i:Int),((p:Int),(x:Int)))]).getD l.length (0,0,0)=((i:Int),((p:Int),(x:Int))):=by
   rw[Ab (by simp),List.getElem_append_right (Nat.le_refl _)];simp
  refine⟨?_,?_,λt ht=>?_⟩
  ·dsimp only
   rw[List.length_append,List.length_singleton]
   simp only[F7,eg,Gj l.length (Nat.le_refl _),←h1,Int.toNat_natCast]
  ·unfold GH at h2⊢
   rw[List.all_eq_true]at h2⊢
   intro k hk
   have hk:=List.mem_range.1 hk
   dsimp only at hk⊢
   rw[List.length_append,List.length_singleton]at hk
   rw[Gj k (by omega)]
   by_cases hk':k<l.length
   ·have e:(l++ [((i:Int),((p:Int),(x:Int)))]).getD k (0,0,0)=l.getD k (0,0,0):=by
     rw[Ab (by simp;omega),Ab hk',List.getElem_append_left hk']
    rw[e]
    exact h2 k (List.mem_range.2 hk')
   ·obtain rfl:k=l.length:=by omega
    rw[eg,←h1]
    unfold okT
    simp only[Int.toNat_natCast,Bool.and_eq_true,decide_eq_true_eq]
    exact⟨⟨⟨by omega,by omega⟩,by omega⟩,hb.1,hb.2⟩
  ·dsimp only at ht⊢
   rcases List.mem_append.1 ht with ht|ht
   ·obtain⟨q1,q2,q3,q4⟩:=h3 t ht
    refine⟨q1,q2,q3,?_⟩
    cases hz:d2 (CM d (g0 (a.2.2.getD i Dz).1 p).toNat x) (g0 (a.2.2.getD t.1.toNat Dz).1 t.2.1.toNat).toNat t.2.2.toNat with
    |false=>rfl
    |true=>rw[He _ _ hz]at q4;cases q4
   ·rw[List.mem_singleton.1 ht]
    simp only[Int.toNat_natCast]
    exact⟨by omega,by omega,by omega,HC hb.1⟩
 ·exact h
theorem Kw (a:Net):TInv a (Bc a (AC a)):=
 Gh (P:=TInv a) (λ_ _ _ _ hi hp hx hs=>JT hi hp hx hs) 40 (AC a,[]) ⟨rfl,rfl,λt ht=>by simp at ht⟩
theorem Ja (r:List Bool):(mk r).length=r.countP id:=by
 have:r=(List.range r.length).map λi=>r.getD i false:=by
  refine List.ext_getElem (by simp) λi h1 h2=>?_
  simp[h1]
 have e1:(mk r).length=((List.range r.length).filter λi=>r.getD i false).length:=by unfold mk;rw[List.length_map]
 rw[e1]
 conv=>rhs;rw[this]
 rw[List.countP_map,List.countP_eq_length_filter];rfl
theorem JE (d:Dom):EX d=mu d:=by
 unfold EX mu
 congr 1
 exact List.map_congr_left λr _=>Ja r
theorem JK (hN:NetOk a):(mu (AC a):Int)=a.1*a.2.1:=by
 have h1:=hN.hv
 have h2:=hN.hn
 have e:mu (AC a)=a.1.toNat*a.2.1.toNat:=by
  unfold mu AC
  rw[List.map_replicate,List.sum_replicate_nat]
  simp[List.countP_replicate]
 rw[e]
 push_cast
 rw[Int.toNat_of_nonneg (by omega),Int.toNat_of_nonneg (by omega)]
theorem Il (hN:NetOk a):((EX (Bc a (AC a)).1:Nat):Int)+((Bc a (AC a)).2.length:Int)=a.1*a.2.1:=by
 have hi:AInv a (mu (AC a)) (AC a,[]):=⟨Cq hN,by simp⟩
 have h1:=(FF 40 hi).sum
 have h2:=JK hN
 rw[JE]
 have h3:(Bc a (AC a)).2.length+mu (Bc a (AC a)).1=mu (AC a):=h1
 omega
theorem H5 (hd:DomOk ((V:Int),((n:Int),cs)) d):d=B2 V n (d2 d):=by
 have hl:=hd.len
 dsimp only at hl
 unfold B2
 refine List.ext_getElem (by simp;omega) λv h1 h2=>?_
 have hr:=hd.row _ (List.getElem_mem h1)
 dsimp only at hr
 rw[List.getElem_map,List.getElem_range]
 refine List.ext_getElem (by simp;omega) λx h3 h4=>?_
 rw[List.getElem_map,List.getElem_range]
 unfold d2
 rw[Ab h1,Ab h3]
theorem Ip {p q:Nat->Bool} (h: ∀x,q x=true->p x=true) (l:List Nat):(l.filter q).length<=(l.filter p).length:=by
 induction l with
 |nil=>simp
 |cons x l ih=>
  rw[List.filter_cons,List.filter_cons]
  cases hq:q x with
  |true=>rw[h x hq];simpa using ih
  |false=>
   cases p x with
   |true=>simp only[Bool.false_eq_true,if_false,if_true,List.length_cons];omega
   |false=>simpa using ih
theorem Gt {p q:Nat->Nat->Bool} (h: ∀u,u<V-> ∀y,q u y=true->p u y=true):EF V n p<=EF V n q:=by
 unfold EF
 have key: ∀l:List Nat,(∀u∈l,u<V)->(l.map λu=>((List.range n).filter λy=>!p u y).length).sum<=(l.map λu=>((List.range n).filter λy=>!q u y).length).sum:=by
  intro l
  induction l with
  |nil=>intro _;simp
  |cons u l ih=>
   intro hl
   have h1:=ih λw hw=>hl w (List.mem_cons_of_mem _ hw)
   have h2:=Ip (p:=λy=>!q u y) (q:=λy=>!p u y) (λy hy=>by
    cases hq:q u y with
    |false=>rfl
    |true=>rw[h u (hl u (List.mem_cons_self ..)) y hq]at hy;exact hy) (List.range n)
   rw[List.map_cons,List.map_cons,List.sum_cons,List.sum_cons]
   omega
 exact key _ λu hu=>List.mem_range.1 hu
theorem Io (hS:SrchOk V n cs):DL (Bc ((V:Int),((n:Int),cs)) (AC ((V:Int),((n:Int),cs)))).1<=DL (Ce ((V:Int),((n:Int),cs)) 40 (AC ((V:Int),((n:Int),cs))))/\DL (Ce ((V:Int),((n:Int),cs)) 40 (AC ((V:Int),((n:Int),cs))))<=EF V n (qS V n cs):=by
 have hN:=CL (GU hS)
 have hF:=Cq hN
 have hA:=(C2 hN hF).1
 have hG:=DM 40 hF
 have h1:=G1 hN
 have h2: ∀u,u<V-> ∀y,qS V n cs u y=true->d2 (Ce ((V:Int),((n:Int),cs)) 40 (AC ((V:Int),((n:Int),cs)))) u y=true:=λu hu y hq=>by
  unfold qS at hq
  rw[List.any_eq_true]at hq
  obtain⟨t,ht,e⟩:=hq
  have e:=of_decide_eq_true e
  obtain⟨t1,t2,_⟩:=(Ep hS).1 ht
  have:=F5 hS ht 40 _ hF (ER t1 t2) u hu
  rw[e,Int.toNat_natCast]at this
  exact this
 generalize (Bc ((V:Int),((n:Int),cs)) (AC ((V:Int),((n:Int),cs)))).1=D at*
 generalize Ce ((V:Int),((n:Int),cs)) 40 (AC ((V:Int),((n:Int),cs)))=G at*
 rw[show DL D=EF V n (d2 D) by conv=>lhs;rw[H5 hA];rw[Gs]]
 rw[show DL G=EF V n (d2 G) by conv=>lhs;rw[H5 hG];rw[Gs]]
 exact⟨Gt λu _ y h=>h1 u y h,Gt h2⟩
end
end T
open Go Go.Va
namespace T
theorem Hc {l:List Int} {x:Int} (h:l.length<=1048576):Em l x=some (decide (x∈l)):=by
 unfold Em
 have:=FT l (λf i=>Dq f (l,x,i)) (λy=>!decide (y=x)) (.inr true) (.inl ()) (λf k hk=>?_) (λf=>?_) (n:=Aa) (by unfold Aa;omega)
 ·rw[this]
  by_cases hm:x∈l
  ·rw[if_neg (by rw[List.all_eq_true];intro h;have:=h x hm;simp at this),decide_eq_true hm];rfl
  ·rw[if_pos (by rw[List.all_eq_true];intro y hy;have:y≠x:=λe=>hm (e▸hy);simp[this]),decide_eq_false hm];rfl
 ·simp only[Dq,Af,hk,Ae hk,if_true,Ad (show k<4611686018427387904 by omega)]
  rw[if_pos (by rw[decide_eq_true_eq];omega)]
  by_cases h:l[k]=x<;>simp[h]
 ·simp only[Dq]
  rw[if_neg (by simp)]
theorem HR {a b:List Int} (ha:a.length<=1048576) (hb:b.length<=1048576):Ev a b=some (a.all λx=>decide (x∈b)):=by
 unfold Ev
 have:=FT a (λf i=>Cw f (a,b,i)) (λx=>decide (x∈b)) (.inr false) (.inl ()) (λf k hk=>?_) (λf=>?_) (n:=Aa) (by unfold Aa;omega)
 ·rw[this]
  cases a.all λx=>decide (x∈b)<;>rfl
 ·simp only[Cw,Af,hk,Ae hk,if_true,Hc hb,Option.bind_some,Ad (show k<4611686018427387904 by omega)]
  rw[if_pos (by rw[decide_eq_true_eq];omega)]
  by_cases h:a[k]∈b<;>simp[h]
 ·simp only[Cw]
  rw[if_neg (by simp)]
section
variable {a:Net} {n V:Nat} {cs:List Con} {D S:Dom}
theorem J3 (hN:NetOk a) (hD:DomOk a D) {T:List Tr} (hl:T.length<=1000) (hoff: ∀t∈T,(0<=t.1/\t.1<a.2.2.length)/\(0<=t.2.1/\t.2.1<(a.2.2.getD t.1.toNat Dz).1.length)/\0<=t.2.2/\d2 D (g0 (a.2.2.getD t.1.toNat Dz).1 t.2.1.toNat).toNat t.2.2.toNat=false):
  AE Aa (a,D.map mk,T,T,0,0)=some (.inl (a,D.map mk,T,(T.length:Int))):=by
 have hv:=hN.hv
 have hlen:=hD.len
 have hn:=hN.hn
 have:=Co T.length (λf (o:Int) k=>AE f (a,D.map mk,T,T,o,k)) (λk=>(k:Int)) (r:=some (.inl (a,D.map mk,T,(T.length:Int)))) (λf k hk=>?_) (λf=>?_) (n:=Aa) (by unfold Aa;omega)
 ·exact this
 ·obtain⟨⟨h1,h2⟩,⟨h3,h4⟩,h5,h6⟩:=hoff _ (List.getElem_mem hk)
  generalize hT:T[k]=u at*
  obtain⟨u1,u2,u3⟩:=u
  dsimp only at h1 h2 h3 h4 h5 h6
  obtain⟨i,rfl⟩: ∃i:Nat,u1=(i:Int):=⟨u1.toNat,by omega⟩
  obtain⟨p,rfl⟩: ∃p:Nat,u2=(p:Int):=⟨u2.toNat,by omega⟩
  obtain⟨x,rfl⟩: ∃x:Nat,u3=(x:Int):=⟨u3.toNat,by omega⟩
  simp only[Int.toNat_natCast]at h4 h6
  have hi:i<a.2.2.length:=by omega
  rw[Ab hi]at h4 h6
  have hp:p<a.2.2[i].1.length:=by omega
  have hsv:=(hN.con _ (List.getElem_mem hi)).sv p hp
  have eg:g0 a.2.2[i].1 p=a.2.2[i].1[p]:=by unfold g0;rw[Ab hp]
  rw[eg]at h6
  obtain⟨v,hv'⟩: ∃v:Nat,a.2.2[i].1[p]=(v:Int):=⟨(a.2.2[i].1[p]).toNat,by omega⟩
  have hvD:v<D.length:=by omega
  have hvm:v<(D.map mk).length:=by rw[List.length_map];exact hvD
  rw[hv',Int.toNat_natCast]at h6
  have hrow:=hD.row _ (List.getElem_mem hvD)
  have e:=Hc (l:=mk D[v]) (x:=(x:Int)) (by have:=DD (bs:=D[v]);omega)
  have hnot: ¬(x:Int)∈mk D[v]:=λh=>by
   have:=(Ew.1 h).2
   unfold d2 at h6
   rw[Ab hvD]at h6
   rw[Int.toNat_natCast]at this
   rw[this]at h6;cases h6
  rw[decide_eq_false hnot]at e
  have hgT:gd T (k:Int) (0,(0,0))=((i:Int),((p:Int),(x:Int))):=by rw[Ae hk,hT]
  have hgD:gd (D.map mk) (v:Int) []=mk D[v]:=by rw[Ae hvm,List.getElem_map]
  have w:w64 ((k:Int)+1)=((k+1:Nat):Int):=Ad (by omega)
  simp only[AE,Af,hk,hgT,hi,Ae hi,hp,Ae hp,hv',hvm,hgD,e,Option.bind_some,w,if_true,beq_self_eq_true,Bool.and_true,Bool.not_true,Bool.false_eq_true,if_false]
  rw[if_pos (by rw[decide_eq_true_eq];omega)]
 ·simp only[AE]
  rw[if_neg (by simp)]
theorem J4 (hD:DomOk a D) (hl:D.length<=9) (hr: ∀r∈D,r.length<=4) (T:List Tr) (z:Int):
  AF Aa (a,D.map mk,T,z,0,0)=some (a,D.map mk,T,z,((EX D:Nat):Int)):=by
 have hb: ∀k,((D.take k).map λr=>(mk r).length).sum<=4*9:=λk=>by
  have:=D8 (λr:List Bool=>(mk r).length) 4 (D.take k) (λr h=>by have:=hr r (List.mem_of_mem_take h);have:=DD (bs:=r);omega)
  have h2:(D.take k).length<=9:=by rw[List.length_take];omega
  omega
 have:=Co D.length (λf (o:Int) k=>AF f (a,D.map mk,T,z,o,k)) (λk=>((((D.take k).map λr=>(mk r).length).sum:Nat):Int)) (r:=some (a,D.map mk,T,z,((EX D:Nat):Int))) (λf k hk=>?_) (λf=>?_) (n:=Aa) (by unfold Aa;omega)
 ·simp only[List.take_zero,List.map_nil,List.sum_nil]at this
  exact this
 ·have hkm:k<(D.map mk).length:=by rw[List.length_map];exact hk
  have h1:=hb k
  have h2:=hr _ (List.getElem_mem hk)
  have h3:=DD (bs:=D[k])
  have hs:((D.take (k+1)).map λr=>(mk r).length).sum=((D.take k).map λr=>(mk r).length).sum+(mk D[k]).length:=by
   rw[List.take_succ_eq_append_getElem hk,List.map_append,List.sum_append];simp
  have w:w64 (((((D.take k).map λr=>(mk r).length).sum:Nat):Int)+((mk D[k]).length:Int))=((((D.take k).map λr=>(mk r).length).sum+(mk D[k]).length:Nat):Int):=by
   rw[AP (by omega) (by omega)];push_cast;rfl
  simp only[AF,Af,hkm,Ae hkm,List.getElem_map,if_true,w,hs,Ad (show k<4611686018427387904 by omega)]
  rw[if_pos (by rw[decide_eq_true_eq];omega)]
 ·simp only[AF,List.take_length]
  rw[if_neg (by simp)];rfl
theorem J5 {V:Nat} {n:Int} (hV:V<=9) (hDl:D.length=V) (hSl:S.length=V) (hDr: ∀r∈D,r.length<=4) (hSr: ∀r∈S,r.length<=4) (hle:dle S D) (b:Bool):
  AG Aa (((V:Int),(n,cs)),D.map mk,S.map mk,b,[],0)=some (.inl (((V:Int),(n,cs)),S.map mk,b,List.replicate V (-1))):=by
 have:=Co V (λf (o:List Int) k=>AG f (((V:Int),(n,cs)),D.map mk,S.map mk,b,o,k)) (λk=>List.replicate k (-1)) (r:=some (.inl (((V:Int),(n,cs)),S.map mk,b,List.replicate V (-1)))) (λf k hk=>?_) (λf=>?_) (n:=Aa) (by unfold Aa;omega)
 ·exact this
 ·have h1:k<D.length:=by omega
  have h2:k<S.length:=by omega
  have h1m:k<(D.map mk).length:=by rw[List.length_map];exact h1
  have h2m:k<(S.map mk).length:=by rw[List.length_map];exact h2
  have e:=HR (a:=mk S[k]) (b:=mk D[k]) (by have:=DD (bs:=S[k]);have:=hSr _ (List.getElem_mem h2);omega) (by have:=DD (bs:=D[k]);have:=hDr _ (List.getElem_mem h1);omega)
  have hall:((mk S[k]).all λx=>decide (x∈mk D[k]))=true:=by
   rw[List.all_eq_true]
   intro x hx
   obtain⟨x0,x1⟩:=Ew.1 hx
   have:=hle k x.toNat (by unfold d2;rw[Ab h2];exact x1)
   unfold d2 at this
   rw[Ab h1]at this
   exact decide_eq_true (Ew.2 ⟨x0,this⟩)
  rw[hall]at e
  simp only[AG,Af,h1m,h2m,Ae h1m,Ae h2m,List.getElem_map,if_true,e,Option.bind_some,Bool.not_true,Bool.false_eq_true,if_false,List.replicate_succ',Ad (show k<4611686018427387904 by omega)]
  rw[if_pos (by rw[decide_eq_true_eq];omega),if_pos (by simp;unfold lim;omega)]
 ·simp only[AG]
  rw[if_neg (by simp)]
theorem II {V:Nat} {x:List Int} (hV:V<=9) (hSl:S.length=V) (hSr: ∀r∈S,r.length<=4) (hx:x= []∨x.length=V/\(∀u,u<V->0<=x.getD u 0)/\BG S V x):
  Av Aa (S.map mk,x,0)=some (.inl ()):=by
 have hxl:x.length<=V:=by
  rcases hx with rfl|hx
  ·simp
  ·omega
 have:=Co x.length (λf (_:Unit) k=>Av f (S.map mk,x,k)) (λ_=>()) (r:=some (.inl ())) (λf k hk=>?_) (λf=>?_) (n:=Aa) (by unfold Aa;omega)
 ·exact this
 ·rcases hx with rfl|⟨x1,x2,x3⟩
  ·simp at hk
  ·have h2:k<S.length:=by omega
   have h2m:k<(S.map mk).length:=by rw[List.length_map];exact h2
   have e:=Hc (l:=mk S[k]) (x:=x[k]) (by have:=DD (bs:=S[k]);have:=hSr _ (List.getElem_mem h2);omega)
   have h3:=x3 k (by omega)
   have h4:=x2 k (by omega)
   unfold d2 at h3
   rw[Ab h2,Ab hk]at h3
   rw[Ab hk]at h4
   rw[decide_eq_true (Ew.2 ⟨h4,h3⟩)]at e
   simp only[Av,Af,hk,h2m,Ae hk,Ae h2m,List.getElem_map,if_true,e,Option.bind_some,Bool.not_true,Bool.false_eq_true,if_false,Ad (show k<4611686018427387904 by omega)]
   rw[if_pos (by rw[decide_eq_true_eq];omega)]
 ·simp only[Av]
  rw[if_neg (by simp)]
end
theorem FnArcConsistency_law {code:List Int} (h:wfT (.slice (.num .u8)) code):Dx code=some true:=by
 unfold Dx GT
 simp only[Option.bind_some]
 by_cases hb:(code.length:Int)>65536
 ·rw[if_pos (decide_eq_true hb)]
 ·rw[if_neg (by simpa using hb)]
  have h1:code.length<=65536:=by omega
  have h2: ∀x∈code,0<=x/\x<256:=λx hx=>by
   have:IntKind.u8.min<=x/\x<=IntKind.u8.max:=h.2 x hx
   have e1:IntKind.u8.min=0:=by decide
   have e2:IntKind.u8.max=255:=by decide
   omega
  obtain⟨c1,a,e1,_,hDr⟩:=HP (k:=0) (c:=(code,(0,0))) ⟨h1,h2,by simp,by simp⟩ (by omega)
  have e2:CY code=some a:=by
   unfold CY D5
   rw[e1];rfl
  have hS:=Kk hDr
  have r1:C3 (a.1,(a.2.1,a.2.2))=_:=Fs hS
  have r2:C4 (a.1,(a.2.1,a.2.2))=_:=Fy hS
  have hbd:=HJ (a:=a)
  have r3:=GY (a:=(CF a).1) (b:=(CF a).1) (by omega) (λt ht=>by have:=hbd.2 t ht;omega)
  have r4:DE (a.1,(a.2.1,a.2.2))=_:=FU hS
  have r5:DG (a.1,(a.2.1,a.2.2))=_:=FX hS
  have hok:(Dj a).2=(CF a).2:=by unfold Dj CF;cases BH a<;>rfl
  simp only[e2,r1,r2,r3,r4,r5,hok,Option.bind_some,bne_self_eq_false,decide_true,Bool.not_true,Bool.false_eq_true,if_false]
  cases hb:BH a with
  |false=>unfold CF;rw[hb];simp
  |true=>
   obtain⟨V,n,cs,rfl,hO⟩:=Hf hb
   have hN:=CL hb
   have hF:=Cq hN
   have hA:=(C2 hN hF).1
   have hAl:=(C2 hN hF).2
   have hG:=DM 40 hF
   have hT:=Kw ((V:Int),((n:Int),cs))
   have hcnt:=Il hN
   have hle:=G1 hN
   have hV:=hO.hv
   have hn:=hO.hn
   have hDl:(Bc ((V:Int),((n:Int),cs)) (AC ((V:Int),((n:Int),cs)))).1.length=V:=by have:=hA.len;dsimp only at this;omega
   have hSl:(Ce ((V:Int),((n:Int),cs)) 40 (AC ((V:Int),((n:Int),cs)))).length=V:=by have:=hG.len;dsimp only at this;omega
   have hDr4: ∀r∈(Bc ((V:Int),((n:Int),cs)) (AC ((V:Int),((n:Int),cs)))).1,r.length<=4:=λr hr=>by have:=hA.row r hr;dsimp only at this;omega
   have hSr4: ∀r∈(Ce ((V:Int),((n:Int),cs)) 40 (AC ((V:Int),((n:Int),cs)))),r.length<=4:=λr hr=>by have:=hG.row r hr;dsimp only at this;omega
   have hd1:CF ((V:Int),((n:Int),cs))=((Bc ((V:Int),((n:Int),cs)) (AC ((V:Int),((n:Int),cs)))).1.map mk,true):=by unfold CF;rw[hb];rfl
   have hd2:Dj ((V:Int),((n:Int),cs))=((Bc ((V:Int),((n:Int),cs)) (AC ((V:Int),((n:Int),cs)))).2,true):=by unfold Dj;rw[hb];rfl
   have hd3:E0 ((V:Int),((n:Int),cs))=((Ce ((V:Int),((n:Int),cs)) 40 (AC ((V:Int),((n:Int),cs)))).map mk,true):=by unfold E0;rw[hb];rfl
   have q1:=Fu hS (Bc ((V:Int),((n:Int),cs)) (AC ((V:Int),((n:Int),cs)))).2
   have hq1:Ia ((V:Int),((n:Int),cs)) (Bc ((V:Int),((n:Int),cs)) (AC ((V:Int),((n:Int),cs)))).2=(true,true):=by
    unfold Ia
    rw[hb,decide_eq_true (show(Bc ((V:Int),((n:Int),cs)) (AC ((V:Int),((n:Int),cs)))).2.length<=40 by omega),hT.ok];rfl
   rw[hq1]at q1
   have q2:=EI hS
   have q3:=EL hS
   have hbd2:=Jk (a:=((V:Int),((n:Int),cs)))
   have q4:=GY (a:=(E0 ((V:Int),((n:Int),cs))).1) (b:=(E0 ((V:Int),((n:Int),cs))).1) (by omega) (λt ht=>by have:=hbd2.2 t ht;omega)
   rw[hd3]at q2 q3 q4
   have q5:=Ft hS
   have hq5:Gf ((V:Int),((n:Int),cs))=(Bd (Bc ((V:Int),((n:Int),cs)) (AC ((V:Int),((n:Int),cs)))).1,true):=by unfold Gf;rw[hb];rfl
   rw[hq5]at q5
   obtain⟨q6,q7⟩:=FR hS
   have hq6:rcR ((V:Int),((n:Int),cs))=(((DL (Bc ((V:Int),((n:Int),cs)) (AC ((V:Int),((n:Int),cs)))).1:Nat):Int),((DL (Ce ((V:Int),((n:Int),cs)) 40 (AC ((V:Int),((n:Int),cs)))):Nat):Int),((EF V n (qS V n cs):Nat):Int),true):=by unfold rcR;rw[hb];rfl
   rw[hq6]at q6 q7
   have hkm:=FW hA
   obtain⟨k1,k2⟩:=Io hO
   have q8:=EG hS (p:=List.replicate V (-1)) (by simp;omega)
   have q9:=EK hS (p:=List.replicate V (-1)) (by simp;omega)
   have hpf:=Iy hb
   have hfs:fsV ((V:Int),((n:Int),cs)) (List.replicate V (-1))=match Bu V n cs (List.replicate V (-1))with| []=>([],false)|t::_=>(t,true):=by
    unfold fsV
    simp only[Int.toNat_natCast]at hpf
    rw[hb,hpf];rfl
   rw[hfs]at q8 q9
   have l16:=J3 hN hA (by omega) hT.off
   have l26:=J4 hA (by omega) hDr4 (Bc ((V:Int),((n:Int),cs)) (AC ((V:Int),((n:Int),cs)))).2 ((Bc ((V:Int),((n:Int),cs)) (AC ((V:Int),((n:Int),cs)))).2.length:Int)
   have l43:=J5 (cs:=cs) (n:=(n:Int)) hV hDl hSl hDr4 hSr4 hle (Bd (Bc ((V:Int),((n:Int),cs)) (AC ((V:Int),((n:Int),cs)))).1)
   have hsolA: ∀t∈Bu V n cs (List.replicate V (-1)),Bd (Bc ((V:Int),((n:Int),cs)) (AC ((V:Int),((n:Int),cs)))).1=false:=λt ht=>by
    obtain⟨t1,t2,_⟩:=(Ep hO).1 ht
    exact G6 hDl (Gi hO ht 40 _ (ER t1 t2))
   have hsolS: ∀t∈Bu V n cs (List.replicate V (-1)),BG (Ce ((V:Int),((n:Int),cs)) 40 (AC ((V:Int),((n:Int),cs)))) V t:=λt ht=>by
    obtain⟨t1,t2,_⟩:=(Ep hO).1 ht
    exact F5 hO ht 40 _ hF (ER t1 t2)
   rw[hd1,hd2]
   generalize Bc ((V:Int),((n:Int),cs)) (AC ((V:Int),((n:Int),cs)))=A at*
   generalize Ce ((V:Int),((n:Int),cs)) 40 (AC ((V:Int),((n:Int),cs)))=G at*
   have hw:w64 (((EX A.1:Nat):Int)+(A.2.length:Int))=w64 ((V:Int)*(n:Int)):=by rw[hcnt]
   have hm:((DL A.1:Nat):Int)=(A.2.length:Int):=by dsimp only at hkm hcnt;omega
   dsimp only at l16 l26 q1 q2 q3 q4 q5 q6 q7 hm⊢
   simp only[l16,l26,q1,q2,q3,q4,q5,q6,q7,hw,hm,Option.bind_some,bne_self_eq_false,decide_true,Bool.not_true,Bool.false_eq_true,if_false]
   rw[if_neg (by rw[decide_eq_true_eq];omega),if_neg (by rw[decide_eq_true_eq];omega)]
   simp only[l43,q8,q9,Option.bind_some]
   cases hs:Bu V n cs (List.replicate V (-1))with
   |nil=>
    have r24:=Gw (a:= []) (b:= []) (by simp)
    have l53:=II (x:= []) hV hSl hSr4 (.inl rfl)
    simp only[r24,l53,Option.bind_some,bne_self_eq_false,decide_true,Bool.not_true,Bool.false_eq_true,if_false]
    cases Bd A.1<;>rfl
   |cons t l=>
    have ht:t∈Bu V n cs (List.replicate V (-1)):=by rw[hs];exact List.mem_cons_self ..
    obtain⟨t1,t2,_⟩:=(Ep hO).1 ht
    have r24:=Gw (a:=t) (b:=t) (by omega)
    have l53:=II (x:=t) hV hSl hSr4 (.inr ⟨t1,λu hu=>(t2 u hu).1,hsolS t ht⟩)
    simp only[r24,l53,hsolA t ht,Option.bind_some,bne_self_eq_false,decide_true,Bool.not_true,Bool.false_eq_true,if_false]
end T
open Go Go.Va
namespace T
section
variable {a:Net} {n s:Nat} {t:T4} {u:T3}
def Kv (a:Net) (i j k x y z:Nat):Prop:= ∀c∈a.2.2,(∀v∈c.1,v=(i:Int)∨v=(j:Int)∨v=(k:Int))-> ∀vs:List Int,DX vs (i:Int)=(x:Int)->DX vs (j:Int)=(y:Int)->DX vs (k:Int)=(z:Int)->Ei vs c=true
structure Fam (a:Net) (n s:Nat) (S:Nat->Nat->Nat->Nat->Prop):Prop where
 sym: ∀i j x y,S i j x y->S j i y x
 first: ∀i j x y,i<j->j<n->x<s->y<s->S i j x y->fB a n i j x y=true
 path: ∀i j k x y,i<n->j<n->k<n->i≠j->k≠i->k≠j->x<s->y<s->S i j x y-> ∃z,z<s/\S i k x z/\S j k y z/\Kv a i j k x y z
structure MinP (a:Net) (n s:Nat) (t:T4) (u:T3):Prop where
 rel:Rel34 n s t u
 sym: ∀i j x y,i<n->j<n->i≠j->x<s->y<s->r4 t i j x y=r4 t j i y x
 first: ∀i j x y,i<n->j<n->i≠j->x<s->y<s->r4 t i j x y=true->fB a n i j x y=true
 path: ∀i j k x y,i<n->j<n->k<n->i≠j->k≠i->k≠j->x<s->y<s->r4 t i j x y=true-> ∃z,z<s/\r4 t i k x z=true/\r4 t j k y z=true/\Kv a i j k x y z
 all: ∀S,Fam a n s S-> ∀i j x y,i<n->j<n->i≠j->x<s->y<s->S i j x y->r4 t i j x y=true
end
end T
open Go Go.Va
namespace T
section
variable {a:Net} {n s:Nat} {t:T4} {u:T3} {F:Nat->Nat->Nat->Nat}
theorem J2 (hM:MinP a n s t u) {w w' v x y:Nat} (hw:w<n) (hw':w'<n) (hv:v<n) (h1:w≠w') (h2:w≠v) (h3:w'≠v) (hx:x<s) (hy:y<s) (h:r4 t w' v y x=true): ∃z,z<s/\r4 t w v z x=true:=by
 obtain⟨z,hz,_,q,_⟩:=hM.path w' v w y x hw' hv hw h3 h1 h2 hy hx h
 exact⟨z,hz,by rw[hM.sym w v z x hw hv h2 hz hx];exact q⟩
theorem KK (p q:Nat): ∃w,w<3/\w≠p/\w≠q:=by
 by_cases h0:0≠p/\0≠q
 ·exact⟨0,by omega,h0.1,h0.2⟩
 ·by_cases h1:1≠p/\1≠q
  ·exact⟨1,by omega,h1.1,h1.2⟩
  ·exact⟨2,by omega,by omega,by omega⟩
end
end T
open Go Go.Va
namespace T
def IJ (n k:Nat) (T:List Int) (x y z:List Int):List Int:=(List.range k).map λj=>T.getD (((x.getD j 0).toNat*n+(y.getD j 0).toNat)*n+(z.getD j 0).toNat) 0
structure T3Ok (n k:Nat) (T:List Int):Prop where
 hn:1<=n/\n<=8
 hk:1<=k/\k<=4
 tl:T.length=n*n*n
 tv: ∀x∈T,0<=x/\x<(n:Int)
def TpOk (n k:Nat) (t:List Int):Prop:=t.length=k/\ ∀x∈t,0<=x/\x<(n:Int)
inductive Clo (n k:Nat) (T:List Int) (gens:List (List Int)):List Int->Prop
 |gen {t:List Int}:t∈gens->Clo n k T gens t
 |app {x y z:List Int}:Clo n k T gens x->Clo n k T gens y->Clo n k T gens z->Clo n k T gens (IJ n k T x y z)
section
variable {n k:Nat} {T:List Int} {gens:List (List Int)}
theorem TpOk.get {t:List Int} (h:TpOk n k t) {j:Nat} (hj:j<k):(t.getD j 0).toNat<n/\t.getD j 0=(((t.getD j 0).toNat:Nat):Int)/\j<t.length:=by
 have h1:j<t.length:=by have:=h.1;omega
 have:=h.2 _ (List.getElem_mem h1)
 rw[Ab h1]
 exact⟨by omega,by omega,h1⟩
theorem Kx {a b c:Nat} (ha:a<n) (hb:b<n) (hc:c<n):(a*n+b)*n+c<n*n*n:=by
 have h1:(a+1)*n<=n*n:=Nat.mul_le_mul_right _ ha
 have h2:(a*n+b+1)*n<=n*n*n:=Nat.mul_le_mul_right _ (by rw[Nat.succ_mul]at h1;omega)
 rw[Nat.succ_mul]at h2;omega
theorem Jr (h:T3Ok n k T) {x y z:List Int} (hx:TpOk n k x) (hy:TpOk n k y) (hz:TpOk n k z):TpOk n k (IJ n k T x y z):=by
 refine⟨by simp[IJ],λv hv=>?_⟩
 obtain⟨j,hj,rfl⟩:=List.mem_map.1 hv
 have hj:=List.mem_range.1 hj
 have:=Kx (hx.get hj).1 (hy.get hj).1 (hz.get hj).1
 rw[←h.tl]at this
 rw[Ab this]
 exact h.tv _ (List.getElem_mem _)
theorem Clo.ok (h:T3Ok n k T) (hg: ∀t∈gens,TpOk n k t) {t:List Int} (c:Clo n k T gens t):TpOk n k t:=by
 induction c with
 |gen h=>exact hg _ h
 |app _ _ _ i1 i2 i3=>exact Jr h i1 i2 i3
def Closd (n k:Nat) (T:List Int) (L:List (List Int)):Prop:= ∀x∈L,∀y∈L,∀z∈L,IJ n k T x y z∈L
theorem Closd.mem {L:List (List Int)} (hg: ∀t∈gens,t∈L) (hc:Closd n k T L) {t:List Int} (c:Clo n k T gens t):t∈L:=by
 induction c with
 |gen h=>exact hg _ h
 |app _ _ _ i1 i2 i3=>exact hc _ i1 _ i2 _ i3
end
end T
open Go Go.Va
namespace T
section
variable {n k:Nat} {T:List Int} {gens:List (List Int)}
def KP (n k:Nat) (T:List Int) (p:List (List Int)):List Int:=IJ n k T (p.getD 0 []) (p.getD 1 []) (p.getD 2 [])
def Need (n k:Nat) (T:List Int) (L0:List (List Int)) (old many:Nat):Nat->List (List Int)->Bool->List (List Int)->Prop
 |0,p,fr,M=>fr=true->KP n k T p∈M
 |r+1,p,fr,M=> ∀i,i<many->Need n k T L0 old many r (p++ [L0.getD i []]) (fr||decide (old<=i)) M
theorem Need.mono {L0:List (List Int)} {old many:Nat}: ∀(r:Nat) (p:List (List Int)) (fr:Bool) {M M':List (List Int)},(∀t∈M,t∈M')->Need n k T L0 old many r p fr M->Need n k T L0 old many r p fr M'
 |0,p,fr,M,M',hs,h=>λe=>hs _ (h e)
 |r+1,p,fr,M,M',hs,h=>λi hi=>Need.mono r _ _ hs (h i hi)
end
end T
open Go Go.Va
namespace T
section
variable {p:Int} {V W N k:Nat} {ts:List (List Int)} {f:Nat->Int} {A:List (List Int)}
def TpI (p:Int) (V:Nat) (x:List Int):Prop:=x.length=V/\ ∀y∈x,0<=y/\y<p
theorem TpI.get {x:List Int} (h:TpI p V x) {i:Nat} (hi:i<V):0<=x.getD i 0/\x.getD i 0<p:=by
 have h1:i<x.length:=by have:=h.1;omega
 rw[Ab h1];exact h.2 _ (List.getElem_mem h1)
end
end T
open Go Go.Va
namespace T
section
variable {n:Int} {k:Nat} {ts W:List (List Int)}
def WitOf (ts:List (List Int)) (k:Nat) (W:List (List Int)):Prop:= ∀w,w∈W↔ ∃(i:Nat) (x y:Int) (p q:Nat),i<k/\Jf ts i x y=some (p,q)/\(w=ts.getD p []∨w=ts.getD q [])
theorem WitOf.sub (h:WitOf ts k W) {w:List Int} (hw:w∈W):w∈ts:=by
 obtain⟨i,x,y,p,q,_,h2,h3⟩:=(h w).1 hw
 obtain⟨g1,g2,_⟩:=HQ h2
 rcases h3 with rfl|rfl
 ·exact FH g1
 ·exact FH g2
theorem WitOf.set {N:Int} {kk:Int} (h:WitOf ts kk.toNat W) (hs:Kq N kk ts=true) (hi:De W=true):Kq N kk W=true:=by
 unfold Kq at hs⊢
 simp only[Bool.and_eq_true,List.all_eq_true]at hs⊢
 exact⟨⟨hs.1.1,λw hw=>hs.1.2 w (h.sub hw)⟩,hi⟩
end
end T
