/- Plain lemmas on the typed functions of the program, and the plain law of FnSolutionsKept; no conditions. -/
import Derived.Test.YtbfbcfnbcbdgjabGreatV1
import Derived.Test.YtbfbcfnbcbdgjabGreatV5
import Derived.KernelRfl
import Derived.Test.YtbfbcfnbcbdgjabGreatOFnSolutionsKept
set_option linter.all false
open Go Go.Va
namespace T
section
variable {V n:Nat} {cs:List Con} {given:List Int}
abbrev FZ (V n:Nat) (cs:List Con):NS:=(true,((n:Int),(AW cs V,CF cs V)))
theorem Kt (h:SrchOk V n cs) (hg:given.length=V) {σ:Type} (cb:List Int->σ->Option (σ×Bool)): ∀(m d at':Nat) (tab:List Int) (s:σ),at'+m=V->m<d->tab.length=V->(∀x∈tab,0<=x/\x<256)->
    ∀s' b,AF cb (Cq n given (okN cs) m (tab.take at')) s=some (s',b)->
    ∃tab':List Int,tab'.length=V/\(∀x∈tab',0<=x/\x<256)/\tab'.take at'=tab.take at'/\hF cb d ((at':Int),tab,s,FZ V n cs,given,())=some (tab',s',FZ V n cs,given,b):=by
  have hn:=h.hn
  have hV:=h.hv
  intro m
  induction m with
  |zero=>
    intro d a tab s ha hd ht hv s' b hf
    obtain⟨d,rfl⟩: ∃z,d=z+1:=⟨d-1,by omega⟩
    have e:tab.take a=tab:=List.take_of_length_le (by omega)
    rw[e]at hf
    simp only[Cq,AF]at hf
    refine⟨tab,ht,hv,rfl,?_⟩
    simp only[hF,HF]
    rw[if_pos (by simp;omega)]
    cases hc:cb tab s with
    |none=>rw[hc]at hf;exact absurd hf (by simp)
    |some q=>
      obtain⟨s1,b1⟩:=q
      rw[hc]at hf
      have:s1=s'/\b1=b:=by cases b1<;>simpa using hf
      obtain⟨rfl,rfl⟩:=this
      rfl
  |succ m ih=>
    intro d a tab s ha hd ht hv s' b hf
    obtain⟨d,rfl⟩: ∃z,d=z+1:=⟨d-1,by omega⟩
    have hat:a<V:=by omega
    have key: ∀(c x f:Nat) (tab1:List Int) (s1:σ),x+c=n->c<f->tab1.length=V->(∀x∈tab1,0<=x/\x<256)->tab1.take a=tab.take a-> ∀s' b,
        AF cb ((List.range' x c).flatMap λx=>if C4 given (tab.take a).length x&&okN cs (tab.take a++ [(x:Int)])then Cq n given (okN cs) m (tab.take a++ [(x:Int)])else []) s1=some (s',b)->
        ∃tab':List Int,tab'.length=V/\(∀x∈tab',0<=x/\x<256)/\tab'.take a=tab.take a/\hL (hF cb d) f ((a:Int),tab1,s1,FZ V n cs,given,(),(x:Int))=some (if b then .inl (tab',s',FZ V n cs,given,())else .inr (tab',s',FZ V n cs,given,(),false)):=by
      intro c
      induction c with
      |zero=>
        intro x f tab1 s1 hx hf1 ht1 hv1 htk s' b hf2
        obtain⟨f,rfl⟩: ∃z,f=z+1:=⟨f-1,by omega⟩
        have:s1=s'/\true=b:=by simpa[AF]using hf2
        obtain⟨rfl,rfl⟩:=this
        refine⟨tab1,ht1,hv1,htk,?_⟩
        simp only[hL]
        rw[if_pos trivial,if_neg (by simp;omega)];rfl
      |succ c ihc=>
        intro x f tab1 s1 hx hf1 ht1 hv1 htk s' b hf2
        obtain⟨f,rfl⟩: ∃z,f=z+1:=⟨f-1,by omega⟩
        have hlen:(tab.take a).length=a:=by rw[List.length_take];omega
        have hag:a<given.length:=by omega
        have hat1:a<tab1.length:=by omega
        have hsc:a<(AW cs V).length:=by rw[(EU (cs:=cs) hat).1];exact hat
        rw[List.range'_succ,List.flatMap_cons,Do,hlen]at hf2
        rw[hlen]at ihc
        have hset:(tab1.set a (x:Int)).take (a+1)=tab.take a++ [(x:Int)]:=by
          rw[List.take_succ_eq_append_getElem (by simp;omega),List.take_set_of_le (Nat.le_refl _),List.getElem_set_self,htk]
        have hsl:(tab1.set a (x:Int)).length=V:=by simp[ht1]
        have hsv: ∀y∈tab1.set a (x:Int),0<=y/\y<256:=λy hy=>by
          rcases List.mem_or_eq_of_mem_set hy with h1|h1
          · exact hv1 y h1
          · subst h1;omega
        have hst:(tab1.set a (x:Int)).take a=tab.take a:=by rw[List.take_set_of_le (Nat.le_refl _),htk]
        have hfit:=Le (given:=given) h hat hsl hsv s1 (x:Int)
        rw[hset]at hfit
        have hw:w64 ((x:Int)+1)=((x+1:Nat):Int):=Ac (by omega)
        have hwa:w64 ((a:Int)+1)=((a+1:Nat):Int):=Ac (by omega)
        have step : C4 given a x = true → ∀ R, R = (hM Aa ((a : Int), tab1.set a (x : Int), s1, FZ V n cs, given, (), (x : Int), true, gd (AW cs V) (a : Int) [], ((gd (AW cs V) (a : Int) []).length : Int), 0)).bind (fun s4 =>
                if s4.2.2.2.2.2.2.2 then
                  (hF cb d (w64 (s4.1+1),s4.2.1,s4.2.2.1,s4.2.2.2.1,s4.2.2.2.2.1,())).bind λr5=>
                    if !r5.2.2.2.2 then
                      some (.inr (r5.1,r5.2.1,r5.2.2.1,r5.2.2.2.1,(),false))
                    else
                      hL (hF cb d) f (s4.1,r5.1,r5.2.1,r5.2.2.1,r5.2.2.2.1,(),w64 (s4.2.2.2.2.2.2.1+1))
                else
                  hL (hF cb d) f (s4.1,s4.2.1,s4.2.2.1,s4.2.2.2.1,s4.2.2.2.2.1,(),w64 (s4.2.2.2.2.2.2.1+1)))->
            ∃tab':List Int,tab'.length=V/\(∀x∈tab',0<=x/\x<256)/\tab'.take a=tab.take a/\R=some (if b then .inl (tab',s',FZ V n cs,given,())else .inr (tab',s',FZ V n cs,given,(),false)):=by
          intro hm R hR
          rw[hfit]at hR
          simp only[Option.bind_some]at hR
          rw[hm]at hf2
          cases hfi:okN cs (tab.take a++ [(x:Int)])with
          |false=>
            rw[hfi]at hf2 hR
            simp only[Bool.and_false,Bool.false_eq_true,if_false,AF]at hf2 hR
            rw[hw]at hR
            rw[hR]
            exact ihc (x+1) f _ s1 (by omega) (by omega) hsl hsv hst s' b hf2
          |true=>
            rw[hfi]at hf2 hR
            simp only[Bool.and_true,if_true]at hf2 hR
            rw[hwa]at hR
            cases hq:AF cb (Cq n given (okN cs) m (tab.take a++ [(x:Int)])) s1 with
            |none=>rw[hq]at hf2;exact absurd hf2 (by simp)
            |some q=>
              obtain⟨s2,b2⟩:=q
              rw[hq]at hf2
              rw[←hset]at hq
              obtain⟨tab2,h1,h2,h3,h4⟩:=ih d (a+1) _ s1 (by omega) (by omega) hsl hsv s2 b2 hq
              have h3':tab2.take a=tab.take a:=by
                have:=congrArg (List.take a) h3
                rw[List.take_take,List.take_take,Nat.min_eq_left (by omega)]at this
                rw[this,hst]
              rw[h4]at hR
              simp only[Option.bind_some]at hR
              cases b2 with
              |false=>
                have:s2=s'/\false=b:=by simpa using hf2
                obtain⟨rfl,rfl⟩:=this
                refine⟨tab2,h1,h2,h3',?_⟩
                rw[hR];rfl
              |true=>
                simp only[Bool.not_true,Bool.false_eq_true,if_false,hw]at hR
                rw[hR]
                exact ihc (x+1) f tab2 s2 (by omega) (by omega) h1 h2 h3' s' b hf2
        simp only[hL,Dg,Ae,hag,hat1,hsc,if_true]
        rw[if_pos (by simp;omega)]
        by_cases hc1:gd given (a:Int) 0≥0
        · rw[if_pos (decide_eq_true hc1)]
          by_cases hc2:gd given (a:Int) 0=(x:Int)
          · rw[if_neg (by simpa using hc2)]
            exact step (by unfold C4;rw[show given.getD a 0=(x:Int) from hc2];simp) _ rfl
          · rw[if_pos (by simpa using hc2),hw]
            have hm:C4 given a x=false:=by
              unfold C4
              rw[decide_eq_true (show given.getD a 0≥0 from hc1)]
              simp only[Bool.true_and,Bool.not_eq_false',bne_iff_ne];exact hc2
            rw[hm]at hf2
            simp only[Bool.false_and,Bool.false_eq_true,if_false,AF]at hf2
            exact ihc (x+1) f tab1 s1 (by omega) (by omega) ht1 hv1 htk s' b hf2
        · rw[if_neg (by simpa using hc1)]
          exact step (by unfold C4;rw[decide_eq_false (show¬given.getD a 0≥0 from hc1)];rfl) _ rfl
    simp only[Cq]at hf
    rw[List.range_eq_range']at hf
    obtain⟨tab',h1,h2,h3,h4⟩:=key n 0 Aa tab s (by omega) (by unfold Aa;omega) ht hv rfl s' b hf
    refine⟨tab',h1,h2,h3,?_⟩
    simp only[hF,HF]
    rw[if_neg (by simp;omega)]
    have h4:hL (hF cb d) Aa ((a:Int),tab,s,FZ V n cs,given,(),0)=_:=h4
    rw[h4]
    cases b<;>rfl
def BH (V n:Nat) (cs:List Con) (given:List Int):List (List Int):=Cq n given (okN cs) V []
theorem J9 {a b:Nat} {x:Int} (hx:x=(b:Int)):Yiv (a:Int) x=((max a b:Nat):Int):=by
 subst hx;unfold Yiv;split<;>omega
theorem G6 (h:SrchOk V n cs):CO ((V:Int),((n:Int),cs))=some (FZ V n cs):=by
 have hV:=h.hv
 have hc:=h.hc
 unfold CO
 have h3:=CD cs.length (λf (o:Int×(List (List (List Int))×List (List (List ByteArray)))) i=>Bt f (o,cs,(cs.length:Int),i)) (λk=>((n:Int),(AW (cs.take k) V,CF (cs.take k) V))) (r:=some ((n:Int),(AW cs V,CF cs V))) (λf k hk=>?_) (λf=>?_) (n:=Aa) (by unfold Aa;omega)
 ·have e1:AW (cs.take 0) V=List.replicate V []:=by
   unfold AW Ax;simp[List.map_const']
  have e2:CF (cs.take 0) V=List.replicate V []:=by
   unfold CF Ax;simp[List.map_const']
  rw[e1,e2]at h3
  have h3:Bt Aa (((n:Int),(List.replicate (Int.toNat (V:Int)) ([]:List (List Int)),List.replicate (Int.toNat (V:Int)) ([]:List (List ByteArray)))),cs,(cs.length:Int),0)=_:=h3
  rw[if_pos (by unfold lim;omega),if_pos (by unfold lim;omega),h3];rfl
 ·have hcon:=h.con _ (List.getElem_mem hk)
  have hsl:=hcon.sl
  have har:=hcon.ar
  have hmany:=hcon.many
  have h7:=CD cs[k].1.length (λf (o:Int) i=>Bu f (((n:Int),(AW (cs.take k) V,CF (cs.take k) V)),cs[k],o,cs,(cs.length:Int),(k:Int),cs[k].1,(cs[k].1.length:Int),i)) (λj=>(((cs[k].1.take j).foldl (λm v=>max m v.toNat) 0:Nat):Int)) (r:=some (((n:Int),(AW (cs.take k) V,CF (cs.take k) V)),cs[k],(BM cs[k]:Int),cs,(cs.length:Int),(k:Int))) (λf j hj=>?_) (λf=>?_) (n:=Aa) (by unfold Aa;omega)
  ·have hm:BM cs[k]<V:=(Eo h (Es.2 ⟨List.getElem_mem hk,rfl⟩)).2
   have h7:Bu Aa (((n:Int),(AW (cs.take k) V,CF (cs.take k) V)),(cs[k].1,(cs[k].2.1,cs[k].2.2)),0,cs,(cs.length:Int),(k:Int),cs[k].1,(cs[k].1.length:Int),0)=_:=h7
   obtain⟨l1,e1⟩:=EU (cs:=cs.take k) hm
   obtain⟨l2,e2⟩:=Hb (cs:=cs.take k) hm
   have hi1:inb (BM cs[k]:Int) (AW (cs.take k) V):=by unfold inb;omega
   have hi2:inb (BM cs[k]:Int) (CF (cs.take k) V):=by unfold inb;omega
   have g1:gd (AW (cs.take k) V) (BM cs[k]:Int) []=(Ax (cs.take k) (BM cs[k])).map (·.1):=e1
   have g2:gd (CF (cs.take k) V) (BM cs[k]:Int) []=(Ax (cs.take k) (BM cs[k])).map λc=>Dm c.2.2:=e2
   have hts:=Er (r:=(cs[k].2.1,cs[k].2.2)) (show cs[k].2.2.length<=1048576 by omega) (λt ht=>⟨by have:=hcon.tl t ht;omega,λy hy=>by
    obtain⟨i,hi,rfl⟩:=List.mem_iff_getElem.1 hy
    have:=hcon.tv t ht i hi
    have:=h.hn
    omega⟩)
   have hcl:(Ax (cs.take k) (BM cs[k])).length<=40:=Nat.le_trans (List.length_filter_le _ _) (by rw[List.length_take];omega)
   have hca: ∀v,Ax (cs.take (k+1)) v=Ax (cs.take k) v++(if BM cs[k]=v then [cs[k]]else []):=λv=>by
    unfold Ax
    rw[List.take_succ_eq_append_getElem hk,List.filter_append]
    congr 1
    by_cases e:BM cs[k]=v<;>simp[e]
   have s1:(AW (cs.take k) V).set (BM cs[k]) ((Ax (cs.take k) (BM cs[k])).map (·.1)++ [cs[k].1])=AW (cs.take (k+1)) V:=by
    apply List.ext_getElem
    ·simp[AW]
    ·intro v h1 h2
     rw[List.getElem_set]
     simp only[AW,List.getElem_map,List.getElem_range,hca,List.map_append]
     by_cases e:BM cs[k]=v
     ·rw[if_pos e,if_pos e,←e];rfl
     ·rw[if_neg e,if_neg e];simp
   have s2:(CF (cs.take k) V).set (BM cs[k]) ((Ax (cs.take k) (BM cs[k])).map (λc=>Dm c.2.2)++ [Dm cs[k].2.2])=CF (cs.take (k+1)) V:=by
    apply List.ext_getElem
    ·simp[CF]
    ·intro v h1 h2
     rw[List.getElem_set]
     simp only[CF,List.getElem_map,List.getElem_range,hca,List.map_append]
     by_cases e:BM cs[k]=v
     ·rw[if_pos e,if_pos e,←e];rfl
     ·rw[if_neg e,if_neg e];simp
   simp only[Bt,Ae,hk,Aj hk,h7,Option.bind_some,if_true,Ae.1 hi1,Ae.1 hi2,g1,g2,hts,Dg,s1,s2,Ac (show k<4611686018427387904 by omega)]
   rw[if_pos (by simp;omega),if_pos (by simp;unfold lim;omega),if_pos (by simp;unfold lim;omega)]
  ·have hj':=hcon.sv j hj
   have e:=J9 (a:=(cs[k].1.take j).foldl (λm v=>max m v.toNat) 0) (b:=(cs[k].1[j]).toNat) (x:=cs[k].1[j]) (by omega)
   have e2:(cs[k].1.take (j+1)).foldl (λm v=>max m v.toNat) 0=max ((cs[k].1.take j).foldl (λm v=>max m v.toNat) 0) (cs[k].1[j]).toNat:=by
    rw[List.take_succ_eq_append_getElem hj,List.foldl_append];rfl
   simp only[Bu,Ae,hj,Aj hj,e,e2,if_true,Ac (show j<4611686018427387904 by omega)]
   rw[if_pos (by simp;omega)]
  ·simp only[Bu,List.take_length]
   rw[if_neg (by simp)];rfl
 ·simp only[Bt,List.take_length]
  rw[if_neg (by simp)]
def Ia (t:List Int) (s:Bool×List Int):Option ((Bool×List Int)×Bool):=(B7 t (s.1,s.2)).bind λr=>some ((r.1.1,r.1.2),r.2)
theorem HA (rec): ∀f x,Ak rec f x=hM f x
 |0,_=>rfl
 |f+1,(a,b,c,d,e,g,x,y,z,u,v)=>by simp only[Ak,hM,HA rec f]
theorem Hz (rec): ∀f x,Af rec f x=hL rec f x
 |0,_=>rfl
 |f+1,(a,b,c,d,e,g,x)=>by simp only[Af,hL,Hz rec f,HA]
theorem Jj: ∀d x,Am d x=hF Ia d x
 |0,_=>rfl
 |d+1,(a,t,(s1,s2),ps,g,u)=>by
  have e:Am d=hF Ia d:=funext λx=>Jj d x
  simp only[Am,hF,HF,A8,Hz,e]
  split
  ·unfold Ia;cases B7 t (s1,s2)<;>rfl
  ·congr 1;funext z;cases z<;>rfl
def Hh (l:List (List Int)):Bool×List Int:=match l with| []=>(false,[])|t::_=>(true,t)
theorem HD (h:SrchOk V n cs) (hg:given.length=V):Dh ((V:Int),((n:Int),cs)) given=some (Hh (BH V n cs given)):=by
 have hV:=h.hv
 unfold Dh
 have e1:=G6 h
 have hcb: ∀t s,t.length<=1048576->Ia t s=some ((true,t),false):=λt s ht=>by
  unfold Ia B7 Fm
  rw[if_pos (by simp;unfold lim;omega)];rfl
 have hfold:AF Ia (BH V n cs given) (false,[])=some (Hh (BH V n cs given),match BH V n cs given with| []=>true|_=>false):=by
  cases hs:BH V n cs given with
  |nil=>rfl
  |cons t l=>
   have ht:=(F8 (n:=n) (given:=given) (ok:=okN cs) V [] t (by unfold BH at hs;rw[hs];exact List.mem_cons_self ..)).1
   simp only[AF]
   rw[hcb t _ (by simp at ht;omega)];rfl
 obtain⟨tab',_,_,_,h4⟩:=Kt h hg Ia V Aa 0 (List.replicate V 0) (false,[]) (by omega) (by unfold Aa;omega) (by simp) (λx hx=>by rw[List.eq_of_mem_replicate hx];omega) _ _ (by simpa[BH]using hfold)
 have h4:Am Aa (0,List.replicate V 0,(false,[]),FZ V n cs,given,())=_:=(Jj Aa _).trans h4
 simp only[e1,Option.bind_some]
 unfold By
 rw[if_pos (by unfold lim;omega)]
 have hr:List.replicate (Int.toNat (given.length:Int)) (0:Int)=List.replicate V 0:=by rw[hg];rfl
 rw[hr,h4];rfl
end
end T
open Go Go.Va
namespace T
abbrev S19:=List (List Int)×Int×Int×Bool
def Eh (s:S19):Bool:=s.2.2.2&&decide (s.2.1>0)
def GQ (t:List Int) (s:S19):Option (S19×Bool):=
 let s':S19:=(if decide ((s.1.length:Int)<s.2.2.1)then s.1++ [t]else s.1,s.2.1+1,s.2.2.1,s.2.2.2)
 some (s',!Eh s')
theorem GX: ∀(l:List (List Int)) (s s':S19) (b:Bool),AF GQ l s=some (s',b)->s.2.1<=s'.2.1/\s'.2.1<=s.2.1+l.length/\s'.1.length<=s.1.length+l.length/\s'.2.2=s.2.2/\(Eh s=false->b=!Eh s')
 | [],s,s',b,h=>by
  have:s=s'/\true=b:=by simpa[AF]using h
  obtain⟨rfl,rfl⟩:=this
  exact⟨by omega,by simp,by simp,rfl,λh=>by simp[h]⟩
 |t::l,s,s',b,h=>by
  simp only[AF,GQ]at h
  generalize hs1:((if decide ((s.1.length:Int)<s.2.2.1)then s.1++ [t]else s.1,s.2.1+1,s.2.2.1,s.2.2.2):S19)=s1 at h
  have h1:s1.2.1=s.2.1+1:=by rw[←hs1]
  have h2:s1.1.length<=s.1.length+1:=by
   rw[←hs1]
   show(if decide ((s.1.length:Int)<s.2.2.1)then s.1++ [t]else s.1).length<=_
   split<;>simp
  have h3:s1.2.2=s.2.2:=by rw[←hs1]
  cases hb:Eh s1 with
  |true=>
   rw[hb]at h
   have:s1=s'/\false=b:=by simpa using h
   obtain⟨rfl,rfl⟩:=this
   rw[List.length_cons]
   exact⟨by omega,by omega,by omega,h3,λ_=>by rw[hb];rfl⟩
  |false=>
   rw[hb]at h
   obtain⟨g1,g2,g3,g4,g5⟩:=GX l s1 s' b h
   rw[List.length_cons]
   exact⟨by omega,by push_cast;omega,by omega,g4.trans h3,λ_=>g5 hb⟩
theorem GY: ∀(l:List (List Int)) (s:S19),∃q,AF GQ l s=some q
 | [],s=>⟨_,rfl⟩
 |t::l,s=>by
  simp only[AF,GQ]
  generalize ((if decide ((s.1.length:Int)<s.2.2.1)then s.1++ [t]else s.1,s.2.1+1,s.2.2.1,s.2.2.2):S19)=s1
  cases hb:Eh s1 with
  |true=>exact⟨_,rfl⟩
  |false=>exact GY l s1
section
variable {V n:Nat} {cs:List Con} {given:List Int}
def atN (cs:List Con) (V:Nat):List (List Con):=(List.range V).map (Ax cs)
theorem Io {v:Nat} (hv:v<V):(atN cs V).length=V/\(atN cs V).getD v []=Ax cs v:=by
 refine⟨by simp[atN],?_⟩
 rw[Ai (by simp[atN];exact hv)];simp[atN]
theorem Ka (h:SrchOk V n cs):EB (V:Int) cs=some (atN cs V):=by
 have hV:=h.hv
 have hc:=h.hc
 unfold EB
 rw[if_pos (by unfold lim;omega)]
 have h3:=CD cs.length (λf (o:List (List Con)) i=>Cd f (cs,o,i)) (λk=>atN (cs.take k) V) (r:=some (atN cs V)) (λf k hk=>?_) (λf=>?_) (n:=Aa) (by unfold Aa;omega)
 ·have e1:atN (cs.take 0) V=List.replicate V []:=by
   unfold atN
   have:Ax (cs.take 0)=λ_=> []:=by funext v;simp[Ax]
   rw[this];simp[List.map_const']
  rw[e1]at h3
  have h3:Cd Aa (cs,List.replicate (Int.toNat (V:Int)) ([]:List Con),0)=_:=h3
  rw[h3];rfl
 ·have hcon:=h.con _ (List.getElem_mem hk)
  have hsl:=hcon.sl
  have har:=hcon.ar
  have h7:=CD cs[k].1.length (λf (o:Int) i=>Ce f (cs,atN (cs.take k) V,(k:Int),o,i)) (λj=>(((cs[k].1.take j).foldl (λm v=>max m v.toNat) 0:Nat):Int)) (r:=some (cs,atN (cs.take k) V,(k:Int),(BM cs[k]:Int))) (λf j hj=>?_) (λf=>?_) (n:=Aa) (by unfold Aa;omega)
  ·have hm:BM cs[k]<V:=(Eo h (Es.2 ⟨List.getElem_mem hk,rfl⟩)).2
   have h7:Ce Aa (cs,atN (cs.take k) V,(k:Int),0,0)=_:=h7
   obtain⟨l1,e1⟩:=Io (cs:=cs.take k) hm
   have hi1:inb (BM cs[k]:Int) (atN (cs.take k) V):=by unfold inb;omega
   have g1:gd (atN (cs.take k) V) (BM cs[k]:Int) []=Ax (cs.take k) (BM cs[k]):=e1
   have hcl:(Ax (cs.take k) (BM cs[k])).length<=40:=Nat.le_trans (List.length_filter_le _ _) (by rw[List.length_take];omega)
   have hca: ∀v,Ax (cs.take (k+1)) v=Ax (cs.take k) v++(if BM cs[k]=v then [cs[k]]else []):=λv=>by
    unfold Ax
    rw[List.take_succ_eq_append_getElem hk,List.filter_append]
    congr 1
    by_cases e:BM cs[k]=v<;>simp[e]
   have s1:(atN (cs.take k) V).set (BM cs[k]) (Ax (cs.take k) (BM cs[k])++ [cs[k]])=atN (cs.take (k+1)) V:=by
    apply List.ext_getElem
    ·simp[atN]
    ·intro v h1 h2
     rw[List.getElem_set]
     simp only[atN,List.getElem_map,List.getElem_range,hca]
     by_cases e:BM cs[k]=v
     ·rw[if_pos e,if_pos e,←e]
     ·rw[if_neg e,if_neg e];simp
   simp only[Cd,Ae,hk,Aj hk,h7,Option.bind_some,if_true,Ae.1 hi1,g1,Dg,s1,Ac (show k<4611686018427387904 by omega)]
   rw[if_pos (by simp;omega),if_pos (by simp;unfold lim;omega)]
  ·have hj':=hcon.sv j hj
   have hjx:cs[k].1[j]=(((cs[k].1[j]).toNat:Nat):Int):=by omega
   have e2:(cs[k].1.take (j+1)).foldl (λm v=>max m v.toNat) 0=max ((cs[k].1.take j).foldl (λm v=>max m v.toNat) 0) (cs[k].1[j]).toNat:=by
    rw[List.take_succ_eq_append_getElem hj,List.foldl_append];rfl
   have e:Cl (((cs[k].1.take j).foldl (λm v=>max m v.toNat) 0:Nat):Int) cs[k].1[j]=some ((max ((cs[k].1.take j).foldl (λm v=>max m v.toNat) 0) (cs[k].1[j]).toNat:Nat):Int):=by
    rw[hjx];exact EH _ _
   simp only[Ce,Ae,hk,Aj hk,hj,Aj hj,e,e2,if_true,Option.bind_some,Ac (show j<4611686018427387904 by omega)]
   rw[if_pos (by simp;omega)]
  ·simp only[Ce,Ae,hk,Aj hk,List.take_length,if_true]
   rw[if_neg (by simp)];rfl
 ·simp only[Cd,List.take_length]
  rw[if_neg (by simp)]
theorem J6 (h:SrchOk V n cs) (rec:Int×List (List Con)×List Int×List Int×S19->Option S19) {v:Nat} (hv:v<V) {next:List Int} (hl:next.length=v+1) {pre:List Int} {s s0:S19} {x:Int}:
  AI rec Aa ((n:Int),atN cs V,given,pre,s,s0,(v:Int),x,next,true,0)=some ((n:Int),atN cs V,given,pre,s,s0,(v:Int),x,next,okN cs next):=by
 obtain⟨l1,e1⟩:=Io (cs:=cs) hv
 have hiv:inb (v:Int) (atN cs V):=by unfold inb;omega
 have hg:gd (atN cs V) (v:Int) []=Ax cs v:=e1
 have hcl:(Ax cs v).length<=40:=Nat.le_trans (List.length_filter_le _ _) h.hc
 have key: ∀(d k f:Nat) (g:Bool),k+d=(Ax cs v).length->d<f->AI rec f ((n:Int),atN cs V,given,pre,s,s0,(v:Int),x,next,g,(k:Int))=some ((n:Int),atN cs V,given,pre,s,s0,(v:Int),x,next,g&&((Ax cs v).drop k).all (Dn next)):=by
  intro d
  induction d with
  |zero=>
   intro k f g hk hf
   obtain⟨f,rfl⟩: ∃z,f=z+1:=⟨f-1,by omega⟩
   have:k=(Ax cs v).length:=by omega
   subst this
   simp only[AI,hiv,hg,if_true,List.drop_length]
   rw[if_neg (by simp)];simp
  |succ d ih=>
   intro k f g hk hf
   obtain⟨f,rfl⟩: ∃z,f=z+1:=⟨f-1,by omega⟩
   have hkl:k<(Ax cs v).length:=by omega
   simp only[AI,hiv,hg,if_true]
   rw[if_pos (by simp;omega)]
   cases g with
   |false=>simp
   |true=>
    have hcon:=(Eo h (List.getElem_mem hkl)).1
    have hs:=DN hcon (vs:=next) (by omega)
    rw[List.drop_eq_getElem_cons hkl,List.all_cons]
    simp only[if_true,Ae,hkl,Aj hkl,hs,Option.bind_some,Ac (show k<4611686018427387904 by omega)]
    rw[ih (k+1) f _ (by omega) (by omega),Bool.true_and]
 have:=key (Ax cs v).length 0 Aa true (by omega) (by unfold Aa;omega)
 have e2:okN cs next=(Ax cs v).all (Dn next):=by unfold okN;rw[hl];rfl
 rw[e2]
 simpa using this
theorem J5 (h:SrchOk V n cs) (hg:given.length=V): ∀(m d:Nat) (pre:List Int) (s:S19),pre.length+m=V->m<d->Eh s=false->0<=s.2.1->s.2.2.1<=1000000->s.2.1+(Cq n given (okN cs) m pre).length<=4611686018427387904->
    ∀s' b,AF GQ (Cq n given (okN cs) m pre) s=some (s',b)->Av d ((n:Int),atN cs V,given,pre,s)=some s':=by
  have hn:=h.hn
  have hV:=h.hv
  intro m
  induction m with
  |zero=>
    intro d pre s hpre hd hst h0 hr1 hr2 s' b hf
    obtain⟨d,rfl⟩: ∃z,d=z+1:=⟨d-1,by omega⟩
    have hlN:(atN cs V).length=V:=by simp[atN]
    simp only[Cq,AF,GQ]at hf
    simp only[Av,DS]
    simp only[Cq,List.length_singleton]at hr2
    have hs':s'=(if decide ((s.1.length:Int)<s.2.2.1)then s.1++ [pre]else s.1,s.2.1+1,s.2.2.1,s.2.2.2):=by
      cases hb:Eh ((if decide ((s.1.length:Int)<s.2.2.1)then s.1++ [pre]else s.1,s.2.1+1,s.2.2.1,s.2.2.2):S19)<;>rw[hb]at hf<;>simp at hf<;>rw[←hf.1]<;>simp
    have hw:w64 (s.2.1+1)=s.2.1+1:=AE (by omega) (by omega)
    rw[if_pos (by simp;omega),hs',hw,BU (by omega)]
    by_cases hc:(s.1.length:Int)<s.2.2.1
    · rw[if_pos (decide_eq_true hc),if_pos (decide_eq_true hc)]
      simp only[Option.bind_some]
      rw[if_pos (by rw[List.length_singleton];unfold lim;omega)]
    · rw[if_neg (by simpa using hc),if_neg (by simpa using hc)]
  |succ m ih=>
    intro d pre s hpre hd hst h0 hr1 hr2 s' b hf
    obtain⟨d,rfl⟩: ∃z,d=z+1:=⟨d-1,by omega⟩
    have hat:pre.length<V:=by omega
    have key: ∀(c x f:Nat) (s1:S19),x+c=n->c<f->Eh s1=false->0<=s1.2.1->
        s1.2.2.1<=1000000->
        s1.2.1+((List.range' x c).flatMap λx=>if C4 given pre.length x&&okN cs (pre++ [(x:Int)])then Cq n given (okN cs) m (pre++ [(x:Int)])else []).length<=4611686018427387904-> ∀s' b,
        AF GQ ((List.range' x c).flatMap λx=>if C4 given pre.length x&&okN cs (pre++ [(x:Int)])then Cq n given (okN cs) m (pre++ [(x:Int)])else []) s1=some (s',b)->
        Ao (Av d) f ((n:Int),atN cs V,given,pre,s1,([],(0,(0,false))),(pre.length:Int),(x:Int))=some (s',([],(0,(0,false)))):=by
      intro c
      induction c with
      |zero=>
        intro x f s1 hx hf1 hst1 h01 hr1 hr2 s' b hf2
        obtain⟨f,rfl⟩: ∃z,f=z+1:=⟨f-1,by omega⟩
        have:s1=s'/\true=b:=by simpa[AF]using hf2
        obtain⟨rfl,rfl⟩:=this
        simp only[Ao]
        rw[if_neg (by simp;omega)]
      |succ c ihc=>
        intro x f s1 hx hf1 hst1 h01 hr1 hr2 s' b hf2
        obtain⟨f,rfl⟩: ∃z,f=z+1:=⟨f-1,by omega⟩
        have hag:pre.length<given.length:=by omega
        rw[List.range'_succ,List.flatMap_cons,Do]at hf2
        rw[List.range'_succ,List.flatMap_cons,List.length_append]at hr2
        have hol:=J6 (given:=given) (pre:=pre) (s:=s1) (s0:=([],(0,(0,false)))) (x:=(x:Int)) h (Av d) hat (next:=pre++ [(x:Int)]) (by simp)
        have hw:w64 ((x:Int)+1)=((x+1:Nat):Int):=Ac (by omega)
        have hover: ∀(z:S19) (f' y:Nat),0<f'->Eh z=true->Ao (Av d) f' ((n:Int),atN cs V,given,pre,z,([],(0,(0,false))),(pre.length:Int),(y:Int))=some (z,([],(0,(0,false)))):=λz f' y hf' hz=>by
          obtain⟨f',rfl⟩: ∃q,f'=q+1:=⟨f'-1,by omega⟩
          unfold Eh at hz
          rw[Bool.and_eq_true]at hz
          simp only[Ao,hz.1,hz.2,if_true,Bool.not_true,Bool.false_eq_true,if_false]
          split<;>(obtain⟨z1,z2,z3,z4⟩:=z;dsimp only at hz⊢;rw[hz.1])
        have step : C4 given pre.length x = true → ∀ R, R = (AI (Av d) Aa ((n : Int), atN cs V, given, pre, (s1.1, (s1.2.1, (s1.2.2.1, s1.2.2.2))), ([], (0, (0, false))), (pre.length : Int), (x : Int), pre ++ [(x : Int)], true, 0)).bind (fun s6 =>
                  if s6.2.2.2.2.2.2.2.2.2 then
                    (Av d (s6.1,s6.2.1,s6.2.2.1,s6.2.2.2.2.2.2.2.2.1,(s6.2.2.2.2.1.1,(s6.2.2.2.2.1.2.1,(s6.2.2.2.2.1.2.2.1,s6.2.2.2.2.1.2.2.2))))).bind λr7=>
                      Ao (Av d) f (s6.1,s6.2.1,s6.2.2.1,s6.2.2.2.1,(r7.1,(r7.2.1,(r7.2.2.1,r7.2.2.2))),(s6.2.2.2.2.2.1.1,(s6.2.2.2.2.2.1.2.1,(s6.2.2.2.2.2.1.2.2.1,s6.2.2.2.2.2.1.2.2.2))),s6.2.2.2.2.2.2.1,w64 (s6.2.2.2.2.2.2.2.1+1))
                  else
                    Ao (Av d) f (s6.1,s6.2.1,s6.2.2.1,s6.2.2.2.1,(s6.2.2.2.2.1.1,(s6.2.2.2.2.1.2.1,(s6.2.2.2.2.1.2.2.1,s6.2.2.2.2.1.2.2.2))),(s6.2.2.2.2.2.1.1,(s6.2.2.2.2.2.1.2.1,(s6.2.2.2.2.2.1.2.2.1,s6.2.2.2.2.2.1.2.2.2))),s6.2.2.2.2.2.2.1,w64 (s6.2.2.2.2.2.2.2.1+1)))->
            R=some (s',([],(0,(0,false)))):=by
          intro hm R hR
          have hol:AI (Av d) Aa ((n:Int),atN cs V,given,pre,(s1.1,(s1.2.1,(s1.2.2.1,s1.2.2.2))),([],(0,(0,false))),(pre.length:Int),(x:Int),pre++ [(x:Int)],true,0)=_:=hol
          rw[hol]at hR
          simp only[Option.bind_some,hw]at hR
          rw[hm]at hf2 hr2
          cases hfi:okN cs (pre++ [(x:Int)])with
          |false=>
            rw[hfi]at hf2 hr2 hR
            simp only[Bool.and_false,Bool.false_eq_true,if_false,AF,List.length_nil,Nat.zero_add]at hf2 hr2 hR
            rw[hR]
            exact ihc (x+1) f s1 (by omega) (by omega) hst1 h01 hr1 hr2 s' b hf2
          |true=>
            rw[hfi]at hf2 hr2 hR
            simp only[Bool.and_true,if_true]at hf2 hr2 hR
            obtain⟨⟨s2,b2⟩,hq⟩:=GY (Cq n given (okN cs) m (pre++ [(x:Int)])) s1
            obtain⟨g1,g2,g3,g4,g5⟩:=GX _ _ _ _ hq
            have g5:=g5 hst1
            rw[hq]at hf2
            have hrec:=ih d (pre++ [(x:Int)]) s1 (by simp;omega) (by omega) hst1 h01 (by omega) (by push_cast at hr2;omega) s2 b2 hq
            have hrec:Av d ((n:Int),atN cs V,given,pre++ [(x:Int)],(s1.1,(s1.2.1,(s1.2.2.1,s1.2.2.2))))=some s2:=hrec
            rw[hrec]at hR
            simp only[Option.bind_some]at hR
            cases hb2:Eh s2 with
            |true=>
              rw[hb2]at g5
              subst g5
              have:s2=s'/\false=b:=by simpa using hf2
              obtain⟨rfl,rfl⟩:=this
              rw[hR]
              exact hover s2 f (x+1) (by omega) hb2
            |false=>
              rw[hb2]at g5
              subst g5
              rw[hR]
              exact ihc (x+1) f s2 (by omega) (by omega) hb2 (by omega) (by rw[g4];exact hr1) (by push_cast at hr2;omega) s' b hf2
        have hlim:pre.length+ [(x:Int)].length<=lim:=by rw[List.length_singleton];unfold lim;omega
        have body: ∀R,R=(if inb (pre.length:Int) given then
            if decide ((gd given (pre.length:Int) 0)≥0)then
              if inb (pre.length:Int) given then
                if(gd given (pre.length:Int) 0) !=(x:Int)then
                  Ao (Av d) f ((n:Int),atN cs V,given,pre,(s1.1,(s1.2.1,(s1.2.2.1,s1.2.2.2))),([],(0,(0,false))),(pre.length:Int),w64 ((x:Int)+1))
                else
                  (Bh pre).bind λr2=>
                    if r2.length+ [(x:Int)].length<=lim then
                      (AI (Av d) Aa ((n:Int),atN cs V,given,pre,(s1.1,(s1.2.1,(s1.2.2.1,s1.2.2.2))),([],(0,(0,false))),(pre.length:Int),(x:Int),r2++ [(x:Int)],true,0)).bind (λs6=>
                        if s6.2.2.2.2.2.2.2.2.2 then
                          (Av d (s6.1,s6.2.1,s6.2.2.1,s6.2.2.2.2.2.2.2.2.1,(s6.2.2.2.2.1.1,(s6.2.2.2.2.1.2.1,(s6.2.2.2.2.1.2.2.1,s6.2.2.2.2.1.2.2.2))))).bind λr7=>
                            Ao (Av d) f (s6.1,s6.2.1,s6.2.2.1,s6.2.2.2.1,(r7.1,(r7.2.1,(r7.2.2.1,r7.2.2.2))),(s6.2.2.2.2.2.1.1,(s6.2.2.2.2.2.1.2.1,(s6.2.2.2.2.2.1.2.2.1,s6.2.2.2.2.2.1.2.2.2))),s6.2.2.2.2.2.2.1,w64 (s6.2.2.2.2.2.2.2.1+1))
                        else
                          Ao (Av d) f (s6.1,s6.2.1,s6.2.2.1,s6.2.2.2.1,(s6.2.2.2.2.1.1,(s6.2.2.2.2.1.2.1,(s6.2.2.2.2.1.2.2.1,s6.2.2.2.2.1.2.2.2))),(s6.2.2.2.2.2.1.1,(s6.2.2.2.2.2.1.2.1,(s6.2.2.2.2.2.1.2.2.1,s6.2.2.2.2.2.1.2.2.2))),s6.2.2.2.2.2.2.1,w64 (s6.2.2.2.2.2.2.2.1+1)))
                    else none
              else none
            else
              (Bh pre).bind λr2=>
                if r2.length+ [(x:Int)].length<=lim then
                  (AI (Av d) Aa ((n:Int),atN cs V,given,pre,(s1.1,(s1.2.1,(s1.2.2.1,s1.2.2.2))),([],(0,(0,false))),(pre.length:Int),(x:Int),r2++ [(x:Int)],true,0)).bind (λs6=>
                    if s6.2.2.2.2.2.2.2.2.2 then
                      (Av d (s6.1,s6.2.1,s6.2.2.1,s6.2.2.2.2.2.2.2.2.1,(s6.2.2.2.2.1.1,(s6.2.2.2.2.1.2.1,(s6.2.2.2.2.1.2.2.1,s6.2.2.2.2.1.2.2.2))))).bind λr7=>
                        Ao (Av d) f (s6.1,s6.2.1,s6.2.2.1,s6.2.2.2.1,(r7.1,(r7.2.1,(r7.2.2.1,r7.2.2.2))),(s6.2.2.2.2.2.1.1,(s6.2.2.2.2.2.1.2.1,(s6.2.2.2.2.2.1.2.2.1,s6.2.2.2.2.2.1.2.2.2))),s6.2.2.2.2.2.2.1,w64 (s6.2.2.2.2.2.2.2.1+1))
                    else
                      Ao (Av d) f (s6.1,s6.2.1,s6.2.2.1,s6.2.2.2.1,(s6.2.2.2.2.1.1,(s6.2.2.2.2.1.2.1,(s6.2.2.2.2.1.2.2.1,s6.2.2.2.2.1.2.2.2))),(s6.2.2.2.2.2.1.1,(s6.2.2.2.2.2.1.2.1,(s6.2.2.2.2.2.1.2.2.1,s6.2.2.2.2.2.1.2.2.2))),s6.2.2.2.2.2.2.1,w64 (s6.2.2.2.2.2.2.2.1+1)))
                else none
          else none)->R=some (s',([],(0,(0,false)))):=by
          intro R hR
          rw[BU (show pre.length<=1099511627775 by omega)]at hR
          simp only[Ae,hag,if_true,Option.bind_some]at hR
          rw[if_pos hlim]at hR
          by_cases hc1:gd given (pre.length:Int) 0≥0
          · rw[if_pos (decide_eq_true hc1)]at hR
            by_cases hc2:gd given (pre.length:Int) 0=(x:Int)
            · rw[if_neg (by simpa using hc2)]at hR
              exact step (by unfold C4;rw[show given.getD pre.length 0=(x:Int) from hc2];simp) R hR
            · rw[if_pos (by simpa using hc2),hw]at hR
              have hm:C4 given pre.length x=false:=by
                unfold C4
                rw[decide_eq_true (show given.getD pre.length 0≥0 from hc1)]
                simp only[Bool.true_and,Bool.not_eq_false',bne_iff_ne];exact hc2
              rw[hm]at hf2 hr2
              simp only[Bool.false_and,Bool.false_eq_true,if_false,AF,List.length_nil,Nat.zero_add]at hf2 hr2
              rw[hR]
              exact ihc (x+1) f s1 (by omega) (by omega) hst1 h01 hr1 hr2 s' b hf2
          · rw[if_neg (by simpa using hc1)]at hR
            exact step (by unfold C4;rw[decide_eq_false (show¬given.getD pre.length 0≥0 from hc1)];rfl) R hR
        simp only[Ao]
        rw[if_pos (by simp;omega)]
        cases hone:s1.2.2.2 with
        |true=>
          have hcnt:decide (s1.2.1>0)=false:=by unfold Eh at hst1;rw[hone]at hst1;simpa using hst1
          rw[hcnt]
          simp only[if_true,Bool.not_false]
          refine body _ ?_
          rw[hone]
        |false=>
          simp only[Bool.false_eq_true,if_false,Bool.not_false,if_true]
          refine body _ ?_
          rw[hone]
    simp only[Cq]at hf hr2
    rw[List.range_eq_range']at hf hr2
    have h4:=key n 0 Aa s (by omega) (by unfold Aa;omega) hst h0 hr1 hr2 s' b hf
    have hlN:(atN cs V).length=V:=by simp[atN]
    simp only[Av,DS]
    rw[if_neg (by simp;omega)]
    have h4:Ao (Av d) Aa ((n:Int),atN cs V,given,pre,(s.1,(s.2.1,(s.2.2.1,s.2.2.2))),([],(0,(0,false))),(pre.length:Int),0)=_:=h4
    rw[h4];rfl
theorem IM (h:SrchOk V n cs) (hg:given.length=V) {cs0:List Con} {most:Int} {one:Bool} (hm:most<=1000000) {s':S19} {b:Bool} (hf:AF GQ (BH V n cs given) ([],0,most,one)=some (s',b)):
  EA ((V:Int),((n:Int),cs0)) cs given most one=some s':=by
 have hV:=h.hv
 have hn:=h.hn
 unfold EA
 have hl:(BH V n cs given).length<=4^9:=by
  refine Nat.le_trans (Hg (n:=n) (given:=given) V []) ?_
  exact Nat.le_trans (Nat.pow_le_pow_left hn.2 V) (Nat.pow_le_pow_right (by omega) hV)
 have:=J5 h hg V Aa [] ([],0,most,one) (by simp) (by unfold Aa;omega) (by simp[Eh]) (by simp) hm (by
  have:(4:Nat)^9=262144:=by decide
  rw[this]at hl
  have:(Cq n given (okN cs) V []).length=(BH V n cs given).length:=rfl
  dsimp only;omega) s' b hf
 simp only[Ka h,Option.bind_some,this]
end
end T
set_option linter.unusedVariables false
open Go Go.Va
namespace T
def Cf (c:(List Int)×Int×Int):Option (((List Int)×Int×Int)×Int):=
 if decide (c.2.1<(c.1.length:Int))then
 if inb c.2.1 c.1 then
 if decide ((w64 (c.2.1+1))<=(c.1.length:Int))then
 some ((c.1,(w64 (c.2.1+1),IntKind.wrap .u64 ((IntKind.wrap .u64 ((IntKind.wrap .u64 (c.2.2*6364136223846793005))+(IntKind.wrap .u64 (w64 (gd c.1 c.2.1 0)))))+550289))),w64 (gd c.1 c.2.1 0))
 else
 if(0:Int)<=40 then
 some ((c.1,(w64 (c.2.1+1),IntKind.wrap .u64 ((IntKind.wrap .u64 ((IntKind.wrap .u64 (c.2.2*6364136223846793005))+(IntKind.wrap .u64 (w64 (gd c.1 c.2.1 0)))))+550289))),w64 (Yil .u64 (YiD .u64 (IntKind.wrap .u64 ((IntKind.wrap .u64 ((IntKind.wrap .u64 (c.2.2*6364136223846793005))+(IntKind.wrap .u64 (w64 (gd c.1 c.2.1 0)))))+550289)) 40) 255))
 else none
 else none
 else
 if decide ((w64 (c.2.1+1))<=(c.1.length:Int))then
 some ((c.1,(w64 (c.2.1+1),IntKind.wrap .u64 ((IntKind.wrap .u64 ((IntKind.wrap .u64 (c.2.2*6364136223846793005))+(IntKind.wrap .u64 (0))))+550289))),0)
 else
 if(0:Int)<=40 then
 some ((c.1,(w64 (c.2.1+1),IntKind.wrap .u64 ((IntKind.wrap .u64 ((IntKind.wrap .u64 (c.2.2*6364136223846793005))+(IntKind.wrap .u64 (0))))+550289))),w64 (Yil .u64 (YiD .u64 (IntKind.wrap .u64 ((IntKind.wrap .u64 ((IntKind.wrap .u64 (c.2.2*6364136223846793005))+(IntKind.wrap .u64 (0))))+550289)) 40) 255))
 else none
def Ad (c:(List Int)×Int×Int) (n_:Int):Option (((List Int)×Int×Int)×Int):=
 if decide (n_<=1)then
 some ((c.1,(c.2.1,c.2.2)),0)
 else
 (Cf (c.1,(c.2.1,c.2.2))).bind λr1=>
 if decide (n_>200)then
 (Cf (r1.1.1,(r1.1.2.1,r1.1.2.2))).bind λr2=>
 if n_≠0 then
 some ((r2.1.1,(r2.1.2.1,r2.1.2.2)),Int.tmod (w64 ((w64 (r1.2*256))+r2.2)) n_)
 else none
 else
 if n_≠0 then
 some ((r1.1.1,(r1.1.2.1,r1.1.2.2)),Int.tmod r1.2 n_)
 else none
def Ab (c:(List Int)×Int×Int) (list:List Int):Option (((List Int)×Int×Int)×Int):=
 (Ad (c.1,(c.2.1,c.2.2)) (list.length:Int)).bind λr1=>
 if inb r1.2 list then
 some ((r1.1.1,(r1.1.2.1,r1.1.2.2)),gd list r1.2 0)
 else none
def Az (c:(List Int)×Int×Int) (n_:Int):Option (((List Int)×Int×Int)×Bool):=
 (Ad (c.1,(c.2.1,c.2.2)) n_).bind λr1=>
 some ((r1.1.1,(r1.1.2.1,r1.1.2.2)),r1.2==0)
end T
open Go Go.Va
namespace T
abbrev Dy:=List Int×Int×Int
def Cur (k:Nat) (c:Dy):Prop:=c.1.length<=65536/\(∀x∈c.1,0<=x/\x<256)/\0<=c.2.1/\c.2.1<=(k:Int)
theorem Kz (x:Int):0<=w64 (Yil .u64 x 255)/\w64 (Yil .u64 x 255)<256:=by
 have h1:(BitVec.ofInt 64 x&&&BitVec.ofInt 64 255).toNat<=255:=by
  rw[BitVec.toNat_and]
  have:(BitVec.ofInt 64 255).toNat=255:=by decide
  rw[this]
  exact Nat.and_le_right
 have h2:Yil .u64 x 255=((BitVec.ofInt 64 x&&&BitVec.ofInt 64 255).toNat:Int):=by
  unfold Yil
  have e: ∀n:Nat,n<=255->IntKind.wrap .u64 (n:Int)=(n:Int):=λn hn=>by
   simp[IntKind.wrap,IntKind.bits,IntKind.signed]
   omega
  exact e _ h1
 rw[h2,AE (by omega) (by omega)]
 omega
theorem Iw {k:Nat} {c:Dy} (h:Cur k c) (hk:k<=1000000000): ∃c' x,Cf c=some (c',x)/\Cur (k+1) c'/\0<=x/\x<256:=by
 obtain⟨code,at',seed⟩:=c
 obtain⟨h1,h2,h3,h4⟩:=h
 dsimp only at h1 h2 h3 h4
 have hw:w64 (at'+1)=at'+1:=AE (by omega) (by omega)
 have hC: ∀s,Cur (k+1) (code,(at'+1,s)):=λs=>⟨h1,h2,by dsimp only;omega,by dsimp only;omega⟩
 unfold Cf
 simp only[hw]
 by_cases hc:at'<(code.length:Int)
 ·have hin:inb at' code:=⟨h3,hc⟩
  have hle:at'+1<=(code.length:Int):=by omega
  have hb:0<=gd code at' 0/\gd code at' 0<256:=by
   have:gd code at' 0=code.getD at'.toNat 0:=rfl
   rw[this,Ai (by omega)]
   exact h2 _ (List.getElem_mem _)
  rw[if_pos (decide_eq_true hc),if_pos hin,if_pos (decide_eq_true hle)]
  exact⟨_,_,rfl,hC _,by rw[AE (by omega) (by omega)];exact hb⟩
 ·have hle: ¬at'+1<=(code.length:Int):=by omega
  rw[if_neg (by simpa using hc),if_neg (by simpa using hle),if_pos (by decide)]
  exact⟨_,_,rfl,hC _,Kz _⟩
theorem Dd {k:Nat} {c:Dy} (h:Cur k c) (hk:k<=100000000) (n:Int) (hn:n<=1000000): ∃c' x,Ad c n=some (c',x)/\Cur (k+2) c'/\0<=x/\(1<=n->x<n)/\(n<=1->x=0):=by
 have mono: ∀ {c:Dy} {i j:Nat},i<=j->Cur i c->Cur j c:=λhij ⟨a,b,d,e⟩=>⟨a,b,d,by omega⟩
 unfold Ad
 by_cases h1:n<=1
 ·rw[if_pos (decide_eq_true h1)]
  exact⟨_,_,rfl,mono (by omega) h,by omega,λ_=>by omega,λ_=>rfl⟩
 ·rw[if_neg (by simpa using h1)]
  obtain⟨c1,x1,e1,g1,a1,b1⟩:=Iw h (by omega)
  have e1:Cf (c.1,(c.2.1,c.2.2))=_:=e1
  simp only[e1,Option.bind_some]
  by_cases h2:n>200
  ·obtain⟨c2,x2,e2,g2,a2,b2⟩:=Iw g1 (by omega)
   have e2:Cf (c1.1,(c1.2.1,c1.2.2))=_:=e2
   rw[if_pos (decide_eq_true h2)]
   simp only[e2,Option.bind_some]
   rw[if_pos (by omega)]
   have w1:w64 (x1*256)=x1*256:=AE (by omega) (by omega)
   have w2:w64 (x1*256+x2)=x1*256+x2:=AE (by omega) (by omega)
   refine⟨_,_,rfl,g2,?_,λ_=>?_,λh=>absurd h h1⟩
   ·rw[w1,w2,Int.tmod_eq_emod_of_nonneg (by omega)];exact Int.emod_nonneg _ (by omega)
   ·rw[w1,w2,Int.tmod_eq_emod_of_nonneg (by omega)];exact Int.emod_lt_of_pos _ (by omega)
  ·rw[if_neg (by simpa using h2),if_pos (by omega)]
   refine⟨_,_,rfl,mono (by omega) g1,?_,λ_=>?_,λh=>absurd h h1⟩
   ·rw[Int.tmod_eq_emod_of_nonneg a1];exact Int.emod_nonneg _ (by omega)
   ·rw[Int.tmod_eq_emod_of_nonneg a1];exact Int.emod_lt_of_pos _ (by omega)
theorem C8 {k:Nat} {c:Dy} (h:Cur k c) (hk:k<=100000000) {l:List Int} (h0:0<l.length) (hl:l.length<=1000): ∃c' x,Ab c l=some (c',x)/\Cur (k+2) c'/\x∈l:=by
 obtain⟨c1,x1,e1,g1,a1,b1,_⟩:=Dd h hk (l.length:Int) (by omega)
 have b1:=b1 (by omega)
 unfold Ab
 have e1:Ad (c.1,(c.2.1,c.2.2)) (l.length:Int)=_:=e1
 simp only[e1,Option.bind_some]
 have hin:inb x1 l:=⟨a1,b1⟩
 rw[if_pos hin]
 refine⟨_,_,rfl,g1,?_⟩
 have:gd l x1 0=l.getD x1.toNat 0:=rfl
 rw[this]
 exact Fl (by omega)
theorem Gw {k:Nat} {c:Dy} (h:Cur k c) (hk:k<=100000000) (n:Int) (hn:n<=1000000): ∃c' x,Az c n=some (c',x)/\Cur (k+2) c':=by
 obtain⟨c1,x1,e1,g1,_⟩:=Dd h hk n hn
 unfold Az
 have e1:Ad (c.1,(c.2.1,c.2.2)) n=_:=e1
 simp only[e1,Option.bind_some]
 exact⟨_,_,rfl,g1⟩
theorem Cur.mono {c:Dy} {i j:Nat} (hij:i<=j):Cur i c->Cur j c:=λ⟨a,b,d,e⟩=>⟨a,b,d,by omega⟩
end T
set_option linter.unusedVariables false
open Go Go.Va
namespace T
def Fk (list:List (List Int)) (t:List Int):Option ((List (List Int))):=
 (DO list t).bind λr1=>
 if r1.2 then
 some list
 else
 if(0:Int)<=0/\0<=r1.1/\r1.1<=(list.length:Int)then
 if([]:List (List Int)).length+((list.take (Int.toNat r1.1)).drop (Int.toNat 0)).length<=lim then
 if([]++((list.take (Int.toNat r1.1)).drop (Int.toNat 0))).length+ [t].length<=lim then
 if(0:Int)<=r1.1/\r1.1<=(list.length:Int)/\(list.length:Int)<=(list.length:Int)then
 if(([]++((list.take (Int.toNat r1.1)).drop (Int.toNat 0)))++ [t]).length+((list.take (Int.toNat (list.length:Int))).drop (Int.toNat r1.1)).length<=lim then
 some ((([]++((list.take (Int.toNat r1.1)).drop (Int.toNat 0)))++ [t])++((list.take (Int.toNat (list.length:Int))).drop (Int.toNat r1.1)))
 else none
 else none
 else none
 else none
 else none
end T
open Go Go.Va
namespace T
def Zn (cmp:List Int->List Int->Int) (rows:List (List Int)):List (List Int):=rows.mergeSort (λx y=>!decide (cmp y x<0))
def cmpT (s t:List Int):Int:=if s.length<t.length then-1 else if t.length<s.length then 1 else cmpL s t
theorem cmpT_refl (s:List Int):cmpT s s=0:=by unfold cmpT;rw[if_neg (by omega),if_neg (by omega),cmpL_refl]
theorem cmpT_symm (s t:List Int):cmpT t s= -cmpT s t:=by
 unfold cmpT
 by_cases h1:s.length<t.length
 ·rw[if_neg (by omega),if_pos h1,if_pos h1];rfl
 ·by_cases h2:t.length<s.length
  ·rw[if_pos h2,if_neg h1,if_pos h2]
  ·rw[if_neg h2,if_neg h1,if_neg h1,if_neg h2,cmpL_symm]
theorem cmpT_eq {s t:List Int} (h:cmpT s t=0):s=t:=by
 unfold cmpT at h
 by_cases h1:s.length<t.length
 ·rw[if_pos h1]at h;exact absurd h (by decide)
 ·rw[if_neg h1]at h
  by_cases h2:t.length<s.length
  ·rw[if_pos h2]at h;exact absurd h (by decide)
  ·rw[if_neg h2]at h;exact cmpL_eq.1 h
theorem cmpT_trans {s t u:List Int} (h1:cmpT s t<0) (h2:cmpT t u<0):cmpT s u<0:=by
 unfold cmpT at*
 by_cases a1:s.length<u.length
 ·rw[if_pos a1];decide
 ·rw[if_neg a1]
  by_cases b1:s.length<t.length
  ·have b2:u.length<t.length:=by omega
   rw[if_neg (by omega),if_pos b2]at h2;exact absurd h2 (by decide)
  ·rw[if_neg b1]at h1
   by_cases b3:t.length<s.length
   ·rw[if_pos b3]at h1;exact absurd h1 (by decide)
   ·rw[if_neg b3]at h1
    by_cases c1:t.length<u.length
    ·omega
    ·rw[if_neg c1]at h2
     by_cases c2:u.length<t.length
     ·rw[if_pos c2]at h2;exact absurd h2 (by decide)
     ·rw[if_neg c2]at h2
      rw[if_neg (by omega)]
      exact cmpL_trans h1 h2
end T
open Go Go.Va
namespace T
theorem D0 {l:List (List Int)}:CL l=true↔l.Pairwise (λa b=>cmpL a b<0):=by
 constructor
 ·intro h
  rw[List.pairwise_iff_getElem]
  exact λi j hi hj hij=>Ea h i j hij hj
 ·intro h
  rw[HG]
  rw[List.pairwise_iff_getElem]at h
  exact λi hi=>h i (i+1) (by omega) hi (by omega)
theorem GS {list:List (List Int)} {t:List Int} {k:Nat} (hl:list.length<=1000000) (hk:k<=1000000) (hv: ∀u∈list,u.length=k) (ht:t.length=k) (hi:CL list=true):
  ∃out,Fk list t=some out/\CL out=true/\(∀u,u∈out↔u=t∨u∈list)/\(t∉list->out.Perm (t::list)):=by
 obtain⟨c,e,k1,k2,k3⟩:=D6 (by omega) (by omega) hv ht hi
 unfold Fk
 rw[e]
 simp only[Option.bind_some]
 by_cases hm:t∈list
 ·rw[decide_eq_true hm,if_pos rfl]
  exact⟨list,rfl,hi,λu=>⟨Or.inr,λh=>h.elim (λh=>h▸hm) id⟩,λh=>absurd hm h⟩
 ·rw[decide_eq_false hm,if_neg (by simp)]
  have e1:(list.take (Int.toNat (c:Int))).drop (Int.toNat 0)=list.take c:=by simp
  have e2:(list.take (Int.toNat (list.length:Int))).drop (Int.toNat (c:Int))=list.drop c:=by simp
  have hlim:lim=1099511627776:=rfl
  have t1:(list.take c).length=c:=by rw[List.length_take];omega
  rw[e1,e2,if_pos (by omega),if_pos (by simp;omega),if_pos (by simp;omega),if_pos (by omega),if_pos (by simp;omega)]
  refine⟨_,rfl,?_,λu=>?_,λ_=>?_⟩
  ·rw[D0]at hi⊢
   simp only[List.nil_append]
   have hsp:list=list.take c++list.drop c:=(List.take_append_drop c list).symm
   rw[hsp,List.pairwise_append]at hi
   have h4: ∀u∈list.take c,cmpL u t<0:=λu hu=>by
    obtain⟨i,hi',rfl⟩:=List.mem_iff_getElem.1 hu
    rw[List.getElem_take]
    exact k2 i _ (by omega)
   have h5: ∀u∈list.drop c,cmpL t u<0:=λu hu=>by
    obtain⟨i,hi',rfl⟩:=List.mem_iff_getElem.1 hu
    rw[List.length_drop]at hi'
    rw[List.getElem_drop]
    have h6:=k3 (c+i) (by omega) (by omega)
    have h7:=cmpL_symm (list[c+i]'(by omega)) t
    have h8:cmpL (list[c+i]'(by omega)) t≠0:=λh=>hm (by rw[←cmpL_eq.1 h];exact List.getElem_mem _)
    omega
   rw[List.pairwise_append,List.pairwise_append]
   refine⟨⟨hi.1,List.pairwise_singleton _ _,λa ha b hb=>by rw[List.mem_singleton.1 hb];exact h4 a ha⟩,hi.2.1,λa ha b hb=>?_⟩
   rcases List.mem_append.1 ha with ha|ha
   ·exact hi.2.2 a ha b hb
   ·rw[List.mem_singleton.1 ha];exact h5 b hb
  ·have hsp:u∈list↔u∈list.take c∨u∈list.drop c:=by rw[←List.mem_append,List.take_append_drop]
   simp only[List.nil_append,List.mem_append,List.mem_singleton,hsp]
   constructor
   ·rintro ((h|h)|h)
    ·exact Or.inr (Or.inl h)
    ·exact Or.inl h
    ·exact Or.inr (Or.inr h)
   ·rintro (h|h|h)
    ·exact Or.inl (Or.inr h)
    ·exact Or.inl (Or.inl h)
    ·exact Or.inr h
  ·simp only[List.nil_append]
   refine(List.Perm.append_right _ (List.perm_append_comm)).trans ?_
   rw[List.append_assoc,List.take_append_drop]
   exact List.Perm.refl _
theorem IJ {x y:List Int} (h1: ¬cmpL y x<0) (h2: ¬cmpL x y<0):x=y:=by
 have:=cmpL_symm x y
 exact cmpL_eq.1 (by omega)
theorem EV {out l:List (List Int)} (hi:CL out=true) (hp:out.Perm l):Zn cmpL l=out:=by
 have hs:(Zn cmpL l).Pairwise λx y=>(!decide (cmpL y x<0))=true:=by
  unfold Zn
  refine List.pairwise_mergeSort (λa b c h1 h2=>?_) (λa b=>?_) l
  ·simp only[Bool.not_eq_true',decide_eq_false_iff_not]at*
   intro h3
   have q1:=cmpL_symm a b
   have q2:=cmpL_symm b c
   by_cases e:cmpL a b=0
   ·rw[cmpL_eq.1 e]at h3;exact h2 h3
   ·exact h2 (cmpL_trans h3 (by omega))
  ·simp only[Bool.or_eq_true,Bool.not_eq_true',decide_eq_false_iff_not]
   have q1:=cmpL_symm a b
   omega
 have ho:out.Pairwise λx y=>(!decide (cmpL y x<0))=true:=by
  refine(D0.1 hi).imp ?_
  intro a b h
  simp only[Bool.not_eq_true',decide_eq_false_iff_not]
  have q1:=cmpL_symm a b
  omega
 have hpp:(Zn cmpL l).Perm out:=(List.mergeSort_perm l _).trans hp.symm
 refine List.Perm.eq_of_pairwise (λa b _ _ h1 h2=>?_) hs ho hpp
 simp only[Bool.not_eq_true',decide_eq_false_iff_not]at h1 h2
 exact IJ h1 h2
end T
set_option linter.unusedVariables false
open Go Go.Va
namespace T
def Bz (a0:List (List Int)) (a1:Unit):Option (List (List Int)):=
 if List.length a0<=lim/\List.all a0 (λx=>decide (List.length x<=lim))=true then some (Zn cmpL a0)else none
end T
open Go Go.Va
namespace T
section
variable {p:Int} {W N V:Nat}
def coG (p:Int) (s:ES) (u:Nat) (f:Int):Int:=if F4 s.2.1 u<0 then(if f=(u:Int)then 1 else 0)else p-(s.1.getD (F4 s.2.1 u).toNat []).getD f.toNat 0
def K5 (p:Int) (V:Nat) (s:ES) (F x:List Int) (u:Nat):Nat->Int
 |0=>JK V s u
 |k+1=>K5 p V s F x u k+coG p s u (F.getD k 0)*x.getD k 0
def Lm (p:Int) (V:Nat) (s:ES) (F x:List Int) (k:Nat):List Int:=(List.range V).map λu=>K5 p V s F x u k%p
structure GenOk (p:Int) (W N V:Nat) (s:ES) (F x:List Int):Prop where
 hp:pr4 p
 hs:ESok p W N V s
 hV:V<W
 hW:W<=1000
 hN:N<=100000
 hF:F=Lb V s.2.1
 hx:x.length=F.length
 xb: ∀v∈x,0<=v/\v<p
variable {s:ES} {F x:List Int}
theorem GenOk.pb (g:GenOk p W N V s F x):2<=p/\p<=7:=by have:=g.hp;unfold pr4 at this;omega
theorem GenOk.row (g:GenOk p W N V s F x) {u:Nat} (hu: ¬F4 s.2.1 u<0):(F4 s.2.1 u).toNat<s.1.length/\Ix p W (s.1.getD (F4 s.2.1 u).toNat []):=by
 have hm:(u:Int)∈s.2.1:=by
  rcases Decidable.em ((u:Int)∈s.2.1)with h|h
  ·exact h
  ·exact absurd (JE.2 h) hu
 obtain⟨i,hi,g1,_⟩:=Iy hm
 rw[g1,Int.toNat_natCast]
 have:=g.hs.bl
 exact⟨by omega,by rw[Ai (by omega)];exact g.hs.t _ (List.getElem_mem _)⟩
theorem GenOk.base (g:GenOk p W N V s F x) (u:Nat):0<=JK V s u/\JK V s u<p:=by
 have:=g.pb
 unfold JK
 split
 ·omega
 ·rename_i h
  exact KO (g.row h).2 g.hV
end
end T
open Go Go.Va
namespace T
section
variable {p:Int} {W N V:Nat} {s:ES} {F x:List Int}
theorem GenOk.zero (g:GenOk p W N V s F x):Lm p V s F x 0=Lk V s:=by
 unfold Lm Lk
 refine List.map_congr_left λu _=>?_
 have:=g.base u
 simp only[K5]
 exact Int.emod_eq_of_lt this.1 this.2
end
end T
open Go Go.Va
namespace T
section
variable {a:Lin} {p:Int} {W N V:Nat} {s:ES} {F:List Int}
theorem Ik (l:List (List Int)):(Zn cmpL l).Perm l:=List.mergeSort_perm l _
end
end T
open Go Go.Va
namespace T
def Zm (xs:List (List Int)):List Nat:=(List.range xs.length).filter λi=>i==0||xs.getD (i-1) [] !=xs.getD i []
def Zx (xs:List (List Int)):List (List Int):=(Zm xs).map λi=>xs.getD i []
def dgP:List Int->List (List Int)->List (List Int)
 |_,[]=> []
 |p,x::l=>if p=x then dgP x l else x::dgP x l
theorem GW: ∀(l pre:List (List Int)) (p:List Int),((List.range' (pre++ [p]).length l.length).filter λi=>i==0||(pre++ [p]++l).getD (i-1) [] !=(pre++ [p]++l).getD i []).map (λi=>(pre++ [p]++l).getD i [])=dgP p l
 | [],_,_=>rfl
 |x::l,pre,p=>by
  have ih:=GW l (pre++ [p]) x
  have e:pre++ [p]++ [x]++l=pre++ [p]++(x::l):=by simp
  rw[e]at ih
  have e2:(pre++ [p]++ [x]).length=(pre++ [p]).length+1:=by simp
  rw[e2]at ih
  have g1:(pre++ [p]++(x::l)).getD ((pre++ [p]).length-1) []=p:=by
   rw[List.getD_eq_getElem?_getD,List.getElem?_append_left (by simp),List.length_append,List.length_singleton,Nat.add_sub_cancel,List.getElem?_append_right (Nat.le_refl _),Nat.sub_self];rfl
  have g2:(pre++ [p]++(x::l)).getD (pre++ [p]).length []=x:=by
   rw[List.getD_eq_getElem?_getD,List.getElem?_append_right (Nat.le_refl _),Nat.sub_self];rfl
  have g3:((pre++ [p]).length==0)=false:=by simp
  rw[List.length_cons,List.range'_succ,List.filter_cons,g1,g2,g3,dgP]
  by_cases h:p=x
  ·rw[if_neg (by simp[h]),if_pos h];exact ih
  ·rw[if_pos (by simp[h]),if_neg h,List.map_cons,g2];exact congrArg _ ih
theorem Gd {x:List Int} {l:List (List Int)}:Zx (x::l)=x::dgP x l:=by
 have h:=GW l [] x
 unfold Zx Zm
 rw[List.range_eq_range',List.length_cons,List.range'_succ,List.filter_cons,if_pos (by simp),List.map_cons]
 exact congrArg _ h
theorem Ir: ∀ {l:List (List Int)} {p u:List Int},(u∈dgP p l∨u=p)↔(u∈l∨u=p)
 | [],_,_=>Iff.rfl
 |x::l,p,u=>by
  have ih:=Ir (l:=l) (p:=x) (u:=u)
  unfold dgP
  by_cases h:p=x
  ·subst h
   rw[if_pos rfl,ih,List.mem_cons]
   exact⟨λh=>h.elim (λh=>Or.inl (Or.inr h)) Or.inr,λh=>h.elim (λh=>h.elim Or.inr Or.inl) Or.inr⟩
  ·rw[if_neg h,List.mem_cons,List.mem_cons]
   constructor
   ·rintro ((h|h)|h)
    ·exact Or.inl (Or.inl h)
    ·exact Or.inl ((ih.1 (Or.inl h)).elim Or.inr Or.inl)
    ·exact Or.inr h
   ·rintro ((h|h)|h)
    ·exact Or.inl (Or.inl h)
    ·exact Or.inl ((ih.2 (Or.inl h)).elim Or.inr Or.inl)
    ·exact Or.inr h
theorem IL {l:List (List Int)} {u:List Int}:u∈Zx l↔u∈l:=by
 cases l with
 |nil=>exact Iff.rfl
 |cons x l=>
  rw[Gd,List.mem_cons,List.mem_cons]
  have:=Ir (l:=l) (p:=x) (u:=u)
  exact⟨λh=>(this.1 h.symm).symm,λh=>(this.2 h.symm).symm⟩
theorem Iq: ∀ {l:List (List Int)} {p:List Int},(p::l).Pairwise (λa b=> ¬cmpL b a<0)->(p::dgP p l).Pairwise λa b=>cmpL a b<0
 | [],_,_=>List.pairwise_singleton _ _
 |x::l,p,h=>by
  have h1:=List.pairwise_cons.1 h
  have ih:=Iq (l:=l) (p:=x) h1.2
  unfold dgP
  by_cases e:p=x
  ·subst e;rw[if_pos rfl];exact ih
  ·rw[if_neg e]
   refine List.pairwise_cons.2 ⟨λb hb=>?_,ih⟩
   have hlt:cmpL p x<0:=by
    have h2:=h1.1 x (List.mem_cons_self ..)
    have h3:=cmpL_symm p x
    have h4:cmpL p x≠0:=λh=>e (cmpL_eq.1 h)
    omega
   rcases List.mem_cons.1 hb with rfl|hb
   ·exact hlt
   ·exact cmpL_trans hlt ((List.pairwise_cons.1 ih).1 b hb)
theorem JL (l:List (List Int)):(Zn cmpL l).Pairwise λa b=> ¬cmpL b a<0:=by
 have hs:(Zn cmpL l).Pairwise λx y=>(!decide (cmpL y x<0))=true:=by
  unfold Zn
  refine List.pairwise_mergeSort (λa b c h1 h2=>?_) (λa b=>?_) l
  ·simp only[Bool.not_eq_true',decide_eq_false_iff_not]at*
   intro h3
   have q1:=cmpL_symm a b
   have q2:=cmpL_symm b c
   by_cases e:cmpL a b=0
   ·rw[cmpL_eq.1 e]at h3;exact h2 h3
   ·exact h2 (cmpL_trans h3 (by omega))
  ·simp only[Bool.or_eq_true,Bool.not_eq_true',decide_eq_false_iff_not]
   have q1:=cmpL_symm a b
   omega
 exact hs.imp fun {a b} h=>by simpa using h
def Ey (l:List (List Int)):List (List Int):=Zx (Zn cmpL l)
theorem setL_mem {l:List (List Int)} {u:List Int}:u∈Ey l↔u∈l:=by
 unfold Ey;rw[IL];exact(List.mergeSort_perm l _).mem_iff
theorem GD (l:List (List Int)):CL (Ey l)=true:=by
 rw[D0]
 unfold Ey
 have h:=JL l
 generalize Zn cmpL l=s at h
 cases s with
 |nil=>exact List.Pairwise.nil
 |cons x s=>rw[Gd];exact Iq h
theorem HH: ∀ {a b:List (List Int)},CL a=true->CL b=true->(∀u,u∈a↔u∈b)->a=b:=by
 intro a b ha hb h
 have pa:=D0.1 ha
 have pb:=D0.1 hb
 have na:a.Nodup:=pa.imp fun {x y} h e=>by rw[e,cmpL_refl]at h;omega
 have nb:b.Nodup:=pb.imp fun {x y} h e=>by rw[e,cmpL_refl]at h;omega
 have hp:a.Perm b:=(List.perm_ext_iff_of_nodup na nb).2 h
 rw[←EV ha (List.Perm.refl _),←EV hb (List.Perm.refl _)]
 have h1:=EV ha hp
 have h2:=EV hb (List.Perm.refl b)
 have h3:=EV ha (List.Perm.refl a)
 rw[h2,h3,←h1,h2]
theorem IF {out l:List (List Int)} (hi:CL out=true) (hm: ∀u,u∈out↔u∈l):Ey l=out:=
 HH (GD l) hi λu=>setL_mem.trans (hm u).symm
theorem Jh (l:List (List Int)):(Zx l).length<=l.length:=by
 unfold Zx Zm
 rw[List.length_map]
 exact Nat.le_trans (List.length_filter_le _ _) (by rw[List.length_range];exact Nat.le_refl _)
theorem IE (l:List (List Int)):(Ey l).length<=l.length:=by
 unfold Ey
 have:=Jh (Zn cmpL l)
 rwa [show(Zn cmpL l).length=l.length from(List.mergeSort_perm l _).length_eq]at this
end T
set_option linter.unusedVariables false
open Go Go.Va
namespace T
def D3 (a0:List (List Int)):Option (List (List Int)):=
 if List.length a0<=lim/\List.all a0 (λx=>decide (List.length x<=lim))=true then some (Zx a0)else none
end T
open Go Go.Va
namespace T
section
variable {n:Int} {k:Nat} {ts:List (List Int)}
def Kg (ts:List (List Int)) (i j:Nat):List Int:=(ts.getD j []).take i
def Kp (ts:List (List Int)) (i j:Nat):Int:=(ts.getD j []).getD i 0
end
end T
open Go Go.Va
namespace T
theorem FV {α β:Type} {p:α->Bool} {g:α->β}: ∀ {l:List α},l.findSome? (λa=>if p a then some (g a)else none)=(l.find? p).map g
 | []=>rfl
 |a::l=>by
  rw[List.findSome?_cons,List.find?_cons]
  cases h:p a with
  |true=>rfl
  |false=>exact FV
section
variable {n:Int} {k:Nat} {ts:List (List Int)}
def Kr (ts:List (List Int)) (i:Nat) (x y:Int) (a b:Nat):Bool:=Kp ts i a==x&&(Kp ts i b==y&&decide (Kg ts i a=Kg ts i b))
def bO (ts:List (List Int)) (i:Nat) (x y:Int) (a:Nat):Option Nat:=(List.range ts.length).find? (Kr ts i x y a)
def JC (ts:List (List Int)) (i:Nat) (x y:Int):Option (Nat×Nat):=(List.range ts.length).findSome? λa=>(bO ts i x y a).map λb=>(a,b)
theorem Ie {i:Nat} {x y:Int} {a b:Nat} (h:JC ts i x y=some (a,b)):a<ts.length/\b<ts.length/\Kp ts i a=x/\Kp ts i b=y/\Kg ts i a=Kg ts i b:=by
 unfold JC at h
 obtain⟨a',ha,h⟩:=List.exists_of_findSome?_eq_some h
 obtain⟨b',hb,h⟩:=Option.map_eq_some_iff.1 h
 obtain⟨rfl,rfl⟩:=Prod.mk.inj h
 have h1:=List.find?_some hb
 have h2:=List.mem_of_find?_eq_some hb
 unfold Kr at h1
 simp only[Bool.and_eq_true,beq_iff_eq,decide_eq_true_eq]at h1
 exact⟨List.mem_range.1 ha,List.mem_range.1 h2,h1.1,h1.2.1,h1.2.2⟩
theorem Kh {out list:List (List Int)} {t:List Int} (h1:CL out=true) (h0:CL list=true) (h2: ∀u,u∈out↔u=t∨u∈list) (h3:t∉list->out.Perm (t::list)):out.length<=list.length+1:=by
 by_cases hm:t∈list
 ·have:out=list:=HH h1 h0 λu=>(h2 u).trans ⟨λh=>h.elim (λh=>h▸hm) id,Or.inr⟩
  rw[this];omega
 ·rw[(h3 hm).length_eq];simp
end
end T
set_option linter.unusedVariables false
open Go Go.Va
namespace T
def Cc:Nat->((List ((List Int)×Int×(List (List Int))))×(List ((List Int)×Int×(List (List Int))))×Int×((List Int)×(Int×(List (List Int))))×Int)->Option ((List ((List Int)×Int×(List (List Int))))×(List ((List Int)×Int×(List (List Int))))×Int×((List Int)×(Int×(List (List Int)))))
 |0,_=>none
 |n+1,(list,out,i,c,k)=>
 if inb i list then
 if decide (k<((((gd list i ([],(0,[]))).2).2).length:Int))then
 if inb i list then
 if inb k (((gd list i ([],(0,[]))).2).2)then
 (Bh (gd (((gd list i ([],(0,[]))).2).2) k [])).bind λr2=>
 if c.2.2.length+ [r2].length<=lim then
 Cc n (list,out,i,(c.1,(c.2.1,c.2.2++ [r2])),w64 (k+1))
 else none
 else none
 else none
 else
 some (list,out,i,(c.1,(c.2.1,c.2.2)))
 else none
def Cb:Nat->((List ((List Int)×Int×(List (List Int))))×(List ((List Int)×Int×(List (List Int))))×Int)->Option ((List ((List Int)×Int×(List (List Int)))))
 |0,_=>none
 |n+1,(list,out,i)=>
 if decide (i<(list.length:Int))then
 if inb i list then
 (Bh ((gd list i ([],(0,[]))).1)).bind λr1=>
 if inb i list then
 (Cc Aa (list,out,i,(r1,(((gd list i ([],(0,[]))).2).1,[])),0)).bind λs2=>
 if s2.2.1.length+ [(s2.2.2.2.1,(s2.2.2.2.2.1,s2.2.2.2.2.2))].length<=lim then
 Cb n (s2.1,s2.2.1++ [(s2.2.2.2.1,(s2.2.2.2.2.1,s2.2.2.2.2.2))],w64 (s2.2.2.1+1))
 else none
 else none
 else none
 else
 some out
def Ez (list:List ((List Int)×Int×(List (List Int)))):Option ((List ((List Int)×Int×(List (List Int))))):=
 (Cb Aa (list,[],0)).bind λs1=>
 some s1
def BV:Nat->((List (List Int))×(List Int)×Int)->Option ((Unit)⊕(Int))
 |0,_=>none
 |n+1,(tables,t,i)=>
 if decide (i<(tables.length:Int))then
 if inb i tables then
 (Ee (gd tables i []) t).bind λr1=>
 if r1 then
 some (.inr i)
 else
 BV n (tables,t,w64 (i+1))
 else none
 else
 some (.inl ())
def DG (tables:List (List Int)) (t:List Int):Option (Int):=
 (BV Aa (tables,t,0)).bind λs1=>
  match s1 with
  | .inl s2=>
   some (-1)
  | .inr s3=>
   some s3
def C1:Nat->((List Int)×(List Int)×Int)->Option ((Unit)⊕(Bool))
 |0,_=>none
 |n+1,(a,b,i)=>
 if decide (i<(a.length:Int))then
 if inb i a then
 if inb i b then
 if(gd a i 0) !=(gd b i 0)then
 if inb i a then
 if inb i b then
 some (.inr (decide ((gd a i 0)<(gd b i 0))))
 else none
 else none
 else
 C1 n (a,b,w64 (i+1))
 else none
 else none
 else
 some (.inl ())
def FX (a:List Int) (b:List Int):Option (Bool):=
 (C1 Aa (a,b,0)).bind λs1=>
  match s1 with
  | .inl s2=>
   some false
  | .inr s3=>
   some s3
def Cy:Nat->((List (List Int))×(List Int)×Int)->Option ((List (List Int))×(List Int)×Int)
 |0,_=>none
 |n+1,(lists,l,k)=>
 if decide (k>0)then
 if inb (w64 (k-1)) lists then
 if decide ((l.length:Int)<((gd lists (w64 (k-1)) []).length:Int))then
 Cy n (lists,l,w64 (k-1))
 else
 if inb (w64 (k-1)) lists then
 if(l.length:Int)==((gd lists (w64 (k-1)) []).length:Int)then
 if inb (w64 (k-1)) lists then
 (FX l (gd lists (w64 (k-1)) [])).bind λr1=>
 if r1 then
 Cy n (lists,l,w64 (k-1))
 else
 some (lists,l,k)
 else none
 else
 some (lists,l,k)
 else none
 else none
 else
 some (lists,l,k)
def Eg (lists:List (List Int)) (l:List Int):Option ((List (List Int))):=
 (Cy Aa (lists,l,(lists.length:Int))).bind λs1=>
 if(0:Int)<=0/\0<=s1.2.2/\s1.2.2<=(s1.1.length:Int)then
 if([]:List (List Int)).length+((s1.1.take (Int.toNat s1.2.2)).drop (Int.toNat 0)).length<=lim then
 if([]++((s1.1.take (Int.toNat s1.2.2)).drop (Int.toNat 0))).length+ [s1.2.1].length<=lim then
 if(0:Int)<=s1.2.2/\s1.2.2<=(s1.1.length:Int)/\(s1.1.length:Int)<=(s1.1.length:Int)then
 if(([]++((s1.1.take (Int.toNat s1.2.2)).drop (Int.toNat 0)))++ [s1.2.1]).length+((s1.1.take (Int.toNat (s1.1.length:Int))).drop (Int.toNat s1.2.2)).length<=lim then
 some ((([]++((s1.1.take (Int.toNat s1.2.2)).drop (Int.toNat 0)))++ [s1.2.1])++((s1.1.take (Int.toNat (s1.1.length:Int))).drop (Int.toNat s1.2.2)))
 else none
 else none
 else none
 else none
 else none
def AY:Nat->((Int×(List Int))×(Int×(Int×(List ((List Int)×Int×(List (List Int))))))×(Int×(Int×(List ((List Int)×Int×(List (List Int))))))×Int×(List (List Int))×Int×(List Int)×Int)->Option ((Int×(List Int))×(Int×(Int×(List ((List Int)×Int×(List (List Int))))))×(Int×(Int×(List ((List Int)×Int×(List (List Int))))))×Int×(List (List Int))×Int×(List Int))
 |0,_=>none
 |n+1,(t3,t4,t6,t7,t8,t9,t10,t11)=>
 if inb t7 t6.2.2 then
 if inb t9 (((gd t6.2.2 t7 ([],(0,[]))).2).2)then
 if decide (t11<((gd (((gd t6.2.2 t7 ([],(0,[]))).2).2) t9 []).length:Int))then
 if inb t7 t6.2.2 then
 if inb t9 (((gd t6.2.2 t7 ([],(0,[]))).2).2)then
 if inb t11 (gd (((gd t6.2.2 t7 ([],(0,[]))).2).2) t9 [])then
 if inb (gd (gd (((gd t6.2.2 t7 ([],(0,[]))).2).2) t9 []) t11 0) t3.2 then
 if t10.length+ [gd t3.2 (gd (gd (((gd t6.2.2 t7 ([],(0,[]))).2).2) t9 []) t11 0) 0].length<=lim then
 AY n ((t3.1,t3.2),(t4.1,(t4.2.1,t4.2.2)),(t6.1,(t6.2.1,t6.2.2)),t7,t8,t9,t10++ [gd t3.2 (gd (gd (((gd t6.2.2 t7 ([],(0,[]))).2).2) t9 []) t11 0) 0],w64 (t11+1))
 else none
 else none
 else none
 else none
 else none
 else
 some ((t3.1,t3.2),(t4.1,(t4.2.1,t4.2.2)),(t6.1,(t6.2.1,t6.2.2)),t7,t8,t9,t10)
 else none
 else none
def AM:Nat->((Int×(List Int))×(Int×(Int×(List ((List Int)×Int×(List (List Int))))))×(Int×(Int×(List ((List Int)×Int×(List (List Int))))))×Int×(List (List Int))×Int)->Option ((Int×(List Int))×(Int×(Int×(List ((List Int)×Int×(List (List Int))))))×(Int×(Int×(List ((List Int)×Int×(List (List Int))))))×Int×(List (List Int)))
 |0,_=>none
 |n+1,(t3,t4,t6,t7,t8,t9)=>
 if inb t7 t6.2.2 then
 if decide (t9<((((gd t6.2.2 t7 ([],(0,[]))).2).2).length:Int))then
 (AY Aa ((t3.1,t3.2),(t4.1,(t4.2.1,t4.2.2)),(t6.1,(t6.2.1,t6.2.2)),t7,t8,t9,[],0)).bind λs4=>
 (DG s4.2.2.2.2.1 s4.2.2.2.2.2.2).bind λr5=>
 if decide (r5<0)then
 (Eg s4.2.2.2.2.1 s4.2.2.2.2.2.2).bind λr6=>
 AM n ((s4.1.1,s4.1.2),(s4.2.1.1,(s4.2.1.2.1,s4.2.1.2.2)),(s4.2.2.1.1,(s4.2.2.1.2.1,s4.2.2.1.2.2)),s4.2.2.2.1,r6,w64 (s4.2.2.2.2.2.1+1))
 else
 AM n ((s4.1.1,s4.1.2),(s4.2.1.1,(s4.2.1.2.1,s4.2.1.2.2)),(s4.2.2.1.1,(s4.2.2.1.2.1,s4.2.2.1.2.2)),s4.2.2.2.1,s4.2.2.2.2.1,w64 (s4.2.2.2.2.2.1+1))
 else
 some ((t3.1,t3.2),(t4.1,(t4.2.1,t4.2.2)),(t6.1,(t6.2.1,t6.2.2)),t7,t8)
 else none
def Bb:Nat->((Int×(List Int))×(Int×(Int×(List ((List Int)×Int×(List (List Int))))))×(Int×(Int×(List ((List Int)×Int×(List (List Int))))))×Int)->Option ((Int×(Int×(List ((List Int)×Int×(List (List Int))))))×(Int×(Int×(List ((List Int)×Int×(List (List Int)))))))
 |0,_=>none
 |n+1,(t3,t4,t6,t7)=>
 if decide (t7<(t6.2.2.length:Int))then
 (AM Aa ((t3.1,t3.2),(t4.1,(t4.2.1,t4.2.2)),(t6.1,(t6.2.1,t6.2.2)),t7,[],0)).bind λs4=>
 if inb s4.2.2.2.1 s4.2.2.1.2.2 then
 Bb n ((s4.1.1,s4.1.2),(s4.2.1.1,(s4.2.1.2.1,s4.2.1.2.2)),(s4.2.2.1.1,(s4.2.2.1.2.1,stt s4.2.2.1.2.2 s4.2.2.2.1 ((gd s4.2.2.1.2.2 s4.2.2.2.1 ([],(0,[]))).1,(((gd s4.2.2.1.2.2 s4.2.2.2.1 ([],(0,[]))).2).1,s4.2.2.2.2)))),w64 (s4.2.2.2.1+1))
 else none
 else
 some ((t4.1,(t4.2.1,t4.2.2)),(t6.1,(t6.2.1,t6.2.2)))
def AT (t0:Int×Int×(List ((List Int)×Int×(List (List Int))))) (t1:Int×(List Int)):Option ((Int×(Int×(List ((List Int)×Int×(List (List Int))))))×Bool):=
 (C6 (t0.1,(t0.2.1,t0.2.2))).bind λr1=>
 if !r1 then
 some ((0,(0,[])),false)
 else
 if t1.1 !=1 then
 some ((0,(0,[])),false)
 else
 (FT t0.2.1 (t1.1,t1.2)).bind λr2=>
 if !r2 then
 some ((0,(0,[])),false)
 else
 (Ez t0.2.2).bind λr3=>
 (Bb Aa ((t1.1,t1.2),(0,(0,[])),(t0.1,(t0.2.1,r3)),0)).bind λs4=>
 some ((s4.2.1,(s4.2.2.1,s4.2.2.2)),true)
def Dv (list:List (List Int)):Option ((List (List Int))):=
 (D2 list).bind λr1=>
 (Bz r1 ()).bind λr2=>
 some r2
def Dt (arity:Int) (tuples:List (List Int)):Option ((Int×(List (List Int)))):=
 (Dv tuples).bind λr1=>
 (D3 r1).bind λr2=>
 some (arity,r2)
def Bj:Nat->((List Int)×(Int×(List (List Int)))×(Int×(List (List Int)))×(List (List Int))×(List (List Int))×Int×Int)->Option ((Int×(List (List Int)))×(Int×(List (List Int)))×(List (List Int)))
 |0,_=>none
 |n+1,(f,r,t4,tuples,t10,t11,t12)=>
 if decide (t12<t11)then
 if inb t12 t10 then
 (BR (gd t10 t12 []) f).bind λr1=>
 if tuples.length+ [r1].length<=lim then
 Bj n (f,(r.1,r.2),(t4.1,t4.2),tuples++ [r1],t10,t11,w64 (t12+1))
 else none
 else none
 else
 some ((r.1,r.2),(t4.1,t4.2),tuples)
def CA (r:Int×(List (List Int))) (f:List Int):Option ((Int×(List (List Int)))):=
 (Bj Aa (f,(r.1,r.2),(0,[]),[],r.2,(r.2.length:Int),0)).bind λs1=>
 (Dt s1.1.1 s1.2.2).bind λr2=>
 some (r2.1,r2.2)
def DJ (net:Int×Int×(List ((List Int)×Int×(List (List Int))))) (list:List ((List Int)×Int×(List (List Int)))):Option ((Int×(Int×(List ((List Int)×Int×(List (List Int))))))×Bool):=
 if decide ((list.length:Int)>40)then
 some ((0,(0,[])),false)
 else
 some ((net.1,(net.2.1,list)),true)
def AK:Nat->((Int×Int×(List ((List Int)×Int×(List (List Int)))))×(Int×(List Int))×(Int×(Int×(List ((List Int)×Int×(List (List Int))))))×(List ((List Int)×Int×(List (List Int))))×(List ((List Int)×Int×(List (List Int))))×Int×Int)->Option ((Int×Int×(List ((List Int)×Int×(List (List Int)))))×(Int×(Int×(List ((List Int)×Int×(List (List Int))))))×(List ((List Int)×Int×(List (List Int)))))
 |0,_=>none
 |n+1,(net,f,t4,list,t27,t28,t29)=>
 if decide (t29<t28)then
 if inb t29 t27 then
 (B3 ((gd t27 t29 ([],(0,[]))).1)).bind λr3=>
 (CA (((gd t27 t29 ([],(0,[]))).2).1,((gd t27 t29 ([],(0,[]))).2).2) f.2).bind λr4=>
 if list.length+ [(r3,(r4.1,r4.2))].length<=lim then
 AK n ((net.1,(net.2.1,net.2.2)),(f.1,f.2),(t4.1,(t4.2.1,t4.2.2)),list++ [(r3,(r4.1,r4.2))],t27,t28,w64 (t29+1))
 else none
 else none
 else
 some ((net.1,(net.2.1,net.2.2)),(t4.1,(t4.2.1,t4.2.2)),list)
def AS (net:Int×Int×(List ((List Int)×Int×(List (List Int))))) (f:Int×(List Int)):Option ((Int×(Int×(List ((List Int)×Int×(List (List Int))))))×Bool):=
 (B2 (net.1,(net.2.1,net.2.2))).bind λr1=>
 if !r1 then
 some ((0,(0,[])),false)
 else
 if f.1 !=1 then
 some ((0,(0,[])),false)
 else
 (FD (f.1,f.2) net.2.1).bind λr2=>
 if !r2 then
 some ((0,(0,[])),false)
 else
 (AK Aa ((net.1,(net.2.1,net.2.2)),(f.1,f.2),(0,(0,[])),[],net.2.2,(net.2.2.length:Int),0)).bind λs3=>
 (DJ (s3.1.1,(s3.1.2.1,s3.1.2.2)) s3.2.2).bind λr4=>
 some ((r4.1.1,(r4.1.2.1,r4.1.2.2)),r4.2)
end T
open Go Go.Va
namespace T
theorem GI {s t:List Int} (hs:s.length<=1099511627775) (hl:s.length=t.length):FX s t=some (decide (cmpL s t<0)):=by
 have key: ∀(n k:Nat),k<=s.length->s.length-k<n->(C1 n (s,t,(k:Int))).bind (λs1=>match s1 with| .inl _=>some false| .inr s3=>some s3)=some (decide (cmpL (s.drop k) (t.drop k)<0)):=by
  intro n
  induction n with
  |zero=>intro k _ h;omega
  |succ n ih=>
   intro k h1 hn
   by_cases k1:k<s.length
   ·have k2:k<t.length:=by omega
    rw[List.drop_eq_getElem_cons k1,List.drop_eq_getElem_cons k2]
    simp only[C1,Ae,Aj k1,Aj k2,Ac (show k<4611686018427387904 by omega),cmpL]
    by_cases he:s[k]=t[k]
    ·have:=ih (k+1) k1 (by omega)
     simp[k1,k2,he]
     simpa using this
    ·by_cases hl:s[k]<t[k]<;>simp[k1,k2,he,hl]
   ·rw[List.drop_of_length_le (show s.length<=k by omega),List.drop_of_length_le (show t.length<=k by omega)]
    simp[C1,k1,cmpL]
 have:=key Aa 0 (Nat.zero_le _) (by unfold Aa;omega)
 rw[List.drop_zero,List.drop_zero]at this
 exact this
theorem FN {ts:List (List Int)} {t:List Int} (hl:ts.length<=1000000) (hr: ∀r∈ts,r.length<=1000000): ∃r,DG ts t=some r/\(r<0↔t∉ts):=by
 have:=Lp ts.length (λf (_:Unit) i=>BV f (ts,t,i)) (λ_=>()) (λi=>if decide (ts.getD i []=t)then some (some (.inr (i:Int)))else none) (e:=some (.inl ())) (λf i hi _=>?_) (λf=>?_) (n:=Aa) (by unfold Aa;omega)
 ·have this:BV Aa (ts,t,0)=_:=this
  unfold DG
  rw[this,FV]
  cases h:(List.range ts.length).find? (λi=>decide (ts.getD i []=t))with
  |none=>
   refine⟨-1,rfl,λ_ hm=>?_,λ_=>by decide⟩
   rw[List.find?_eq_none]at h
   obtain⟨i,hi,e⟩:=List.mem_iff_getElem.1 hm
   have:=h i (List.mem_range.2 hi)
   rw[Ai hi]at this
   simp[e]at this
  |some i=>
   have h1:=List.find?_some h
   have h2:=List.mem_range.1 (List.mem_of_find?_eq_some h)
   simp only[decide_eq_true_eq]at h1
   refine⟨(i:Int),rfl,λh=>by omega,λhm=>?_⟩
   rw[Ai h2]at h1
   exact(hm (h1▸List.getElem_mem h2)).elim
 ·have e:=EX (a:=ts[i]) (b:=t) (by have:=hr _ (List.getElem_mem hi);omega)
  simp only[BV,Ae,hi,Aj hi,if_true,e,Option.bind_some]
  rw[if_pos (by simp;omega),Ai hi]
  by_cases h:ts[i]=t
  ·simp[h]
  ·rw[if_neg (by simpa using h),if_neg (by simpa using h),Ac (show i<4611686018427387904 by omega)]
 ·simp only[BV]
  rw[if_neg (by simp)]
theorem GJ {list:List (List Int)} {t:List Int} {m:Nat} (hl:list.length<=1000000) (hm:m<=1000000) (hv: ∀u∈list,u.length=m) (ht:t.length=m) (hi:CL list=true) (hn:t∉list):
  ∃out,Eg list t=some out/\CL out=true/\(∀u,u∈out↔u=t∨u∈list)/\out.length=list.length+1:=by
 have hlim:lim=1099511627776:=rfl
 have key: ∀(k f:Nat),k<f->k<=list.length->(∀j (hj:j<list.length),k<=j->cmpL t list[j]<0)-> ∃c:Nat,Cy f (list,t,(k:Int))=some (list,t,(c:Int))/\c<=list.length/\(∀j (hj:j<list.length),c<=j->cmpL t list[j]<0)/\(∀j (hj:j<list.length),j<c->cmpL list[j] t<0):=by
  intro k
  induction k with
  |zero=>
   intro f hf hk h
   obtain⟨f,rfl⟩: ∃z,f=z+1:=⟨f-1,by omega⟩
   refine⟨0,?_,by omega,h,λj hj h=>by omega⟩
   simp only[Cy]
   rw[if_neg (by simp)]
  |succ k ih=>
   intro f hf hk h
   obtain⟨f,rfl⟩: ∃z,f=z+1:=⟨f-1,by omega⟩
   have hk1:k<list.length:=by omega
   have lk:=hv _ (List.getElem_mem hk1)
   have e:=GI (s:=t) (t:=list[k]) (by omega) (by omega)
   have ew:w64 (((k+1:Nat):Int)-1)=(k:Int):=by rw[AE (by omega) (by omega)];omega
   simp only[Cy,ew,Ae,hk1,Aj hk1,if_true,e,Option.bind_some]
   rw[if_pos (by simp),if_neg (by simp;omega),if_pos (by simp;omega)]
   by_cases hlt:cmpL t list[k]<0
   ·rw[if_pos (by simpa using hlt)]
    refine ih f (by omega) (by omega) λj hj hkj=>?_
    rcases Nat.lt_or_ge k j with h1|h1
    ·exact h j hj (by omega)
    ·have:j=k:=by omega
     subst this;exact hlt
   ·rw[if_neg (by simpa using hlt)]
    refine⟨k+1,rfl,hk,h,λj hj hjk=>?_⟩
    have hne:t≠list[k]:=λe=>hn (e▸List.getElem_mem hk1)
    have h1:=cmpL_symm t list[k]
    have h2:cmpL t list[k]≠0:=λe=>hne (cmpL_eq.1 e)
    have h3:cmpL list[k] t<0:=by omega
    rcases Nat.lt_or_ge j k with h4|h4
    ·exact cmpL_trans (Ea hi j k h4 hk1) h3
    ·have:j=k:=by omega
     subst this;exact h3
 obtain⟨c,e,hc,h1,h2⟩:=key list.length Aa (by unfold Aa;omega) (Nat.le_refl _) (λj hj h=>by omega)
 have e1:(list.take (Int.toNat (c:Int))).drop (Int.toNat 0)=list.take c:=by simp
 have e2:(list.take (Int.toNat (list.length:Int))).drop (Int.toNat (c:Int))=list.drop c:=by simp
 have t1:(list.take c).length=c:=by rw[List.length_take];omega
 unfold Eg
 rw[e]
 simp only[Option.bind_some,e1,e2]
 rw[if_pos (by omega),if_pos (by simp;omega),if_pos (by simp;omega),if_pos (by omega),if_pos (by simp;omega)]
 refine⟨_,rfl,?_,λu=>?_,by simp;omega⟩
 ·rw[D0]at hi⊢
  simp only[List.nil_append]
  have hsp:list=list.take c++list.drop c:=(List.take_append_drop c list).symm
  rw[hsp,List.pairwise_append]at hi
  have h4: ∀u∈list.take c,cmpL u t<0:=λu hu=>by
   obtain⟨i,hi',rfl⟩:=List.mem_iff_getElem.1 hu
   rw[List.getElem_take]
   exact h2 i _ (by omega)
  have h5: ∀u∈list.drop c,cmpL t u<0:=λu hu=>by
   obtain⟨i,hi',rfl⟩:=List.mem_iff_getElem.1 hu
   rw[List.length_drop]at hi'
   rw[List.getElem_drop]
   exact h1 _ _ (by omega)
  rw[List.pairwise_append,List.pairwise_append]
  refine⟨⟨hi.1,List.pairwise_singleton _ _,λa ha b hb=>by rw[List.mem_singleton.1 hb];exact h4 a ha⟩,hi.2.1,λa ha b hb=>?_⟩
  rcases List.mem_append.1 ha with ha|ha
  ·exact hi.2.2 a ha b hb
  ·rw[List.mem_singleton.1 ha];exact h5 b hb
 ·have hsp:u∈list↔u∈list.take c∨u∈list.drop c:=by rw[←List.mem_append,List.take_append_drop]
  simp only[List.nil_append,List.mem_append,List.mem_singleton,hsp]
  constructor
  ·rintro ((h|h)|h)
   ·exact Or.inr (Or.inl h)
   ·exact Or.inl h
   ·exact Or.inr (Or.inr h)
  ·rintro (h|h|h)
   ·exact Or.inl (Or.inr h)
   ·exact Or.inl (Or.inl h)
   ·exact Or.inr h
theorem Ki {list l:List (List Int)} {t:List Int} {m:Nat} (hl:list.length<=100000) (hm:m<=1000000) (hv: ∀u∈l,u.length=m) (ht:t.length=m) (hi:Ey l=list):
  ∃r,DG list t=some r/\((r<0/\Eg list t=some (Ey (l++ [t])))∨(¬r<0/\Ey (l++ [t])=list)):=by
 have hv': ∀u∈list,u.length=m:=λu hu=>hv u (setL_mem.1 (hi▸hu))
 have hinc:CL list=true:=hi▸GD l
 obtain⟨r,e,hr⟩:=FN (t:=t) (show list.length<=1000000 by omega) λu hu=>by rw[hv' u hu];exact hm
 refine⟨r,e,?_⟩
 by_cases h:r<0
 ·obtain⟨out,e2,g1,g2,_⟩:=GJ (by omega) hm hv' ht hinc (hr.1 h)
  refine Or.inl ⟨h,?_⟩
  rw[e2]
  refine congrArg some (IF g1 λu=>?_).symm
  rw[g2,List.mem_append,List.mem_singleton,←hi,setL_mem]
  exact⟨λh=>h.symm,λh=>h.symm⟩
 ·refine Or.inr ⟨h,IF hinc λu=>?_⟩
  have hm:t∈list:=by
   by_cases hm:t∈list
   ·exact hm
   ·exact absurd (hr.2 hm) h
  rw[List.mem_append,List.mem_singleton,←hi,setL_mem]
  rw[←hi,setL_mem]at hm
  exact⟨Or.inl,λh=>h.elim id λe=>e▸hm⟩
theorem I5 {l:List (List Int)} (hl:l.length<=100000) (hr: ∀r∈l,r.length<=100000):Dv l=some (Zn cmpL l):=by
 unfold Dv
 rw[He hl hr]
 have:Bz l ()=some (Zn cmpL l):=by
  unfold Bz
  rw[if_pos]
  refine⟨by unfold lim;omega,?_⟩
  rw[List.all_eq_true]
  intro r h
  rw[decide_eq_true_iff]
  have:=hr r h;unfold lim;omega
 simp only[Option.bind_some,this]
theorem Hf {l:List (List Int)} (hl:l.length<=100000) (hr: ∀r∈l,r.length<=100000):D3 l=some (Zx l):=by
 unfold D3
 rw[if_pos]
 refine⟨by unfold lim;omega,?_⟩
 rw[List.all_eq_true]
 intro r h
 rw[decide_eq_true_iff]
 have:=hr r h;unfold lim;omega
theorem Ic {ar:Int} {l:List (List Int)} (hl:l.length<=100000) (hr: ∀r∈l,r.length<=100000):Dt ar l=some (ar,Ey l):=by
 have hp:=Ik l
 unfold Dt
 rw[I5 hl hr]
 simp only[Option.bind_some]
 rw[Hf (by rw[hp.length_eq];exact hl) λr h=>hr r (hp.mem_iff.1 h)]
 rfl
end T
open Go Go.Va
namespace T
section
variable {a:Net} {f:Opn} {n:Int}
def CQ (g:List Int) (t:List Int):List Int:=t.map (Bq g)
def BS (g:List Int) (c:Con):Con:=(c.1,(c.2.1,Ey (c.2.2.map (CQ g))))
def FL (a:Net) (f:Opn):Net×Bool:=if CR a&&(decide (f.1=1)&&opB a.2.1 f)then((a.1,(a.2.1,a.2.2.map (BS f.2))),true)else((0,(0,[])),false)
structure TabC (g:List Int) (c:Con):Prop where
 sl:c.1.length<=1000
 tl: ∀t∈c.2.2,t.length=c.1.length
 tv: ∀t∈c.2.2,∀v∈t,0<=v/\v<g.length
 many:c.2.2.length<=64
theorem D7 {g t:List Int}:(CQ g t).length=t.length:=by simp[CQ]
theorem GN {g:List Int} {c:Con} (h:TabC g c):CA c.2 g=some (BS g c).2:=by
 obtain⟨sc,ar,ts⟩:=c
 have hl:=h.many
 have hsl:=h.sl
 dsimp only at hl hsl
 have:=CD ts.length (λm (o:List (List Int)) i=>Bj m (g,(ar,ts),(0,[]),o,ts,(ts.length:Int),i)) (λk=>(ts.take k).map (CQ g)) (r:=some ((ar,ts),(0,[]),ts.map (CQ g))) (λm k hk=>?_) (λm=>?_) (n:=Aa) (by unfold Aa;omega)
 ·have this:Bj Aa (g,(ar,ts),(0,[]),[],ts,(ts.length:Int),0)=_:=this
  unfold CA BS
  dsimp only
  rw[this]
  simp only[Option.bind_some]
  rw[Ic (by simp;omega) λr hr=>by
   obtain⟨t,ht,rfl⟩:=List.mem_map.1 hr
   have h1:=h.tl t ht
   dsimp only at h1
   rw[D7];omega]
  rfl
 ·have hm:=List.getElem_mem hk
  have h1:=h.tl _ hm
  dsimp only at h1
  have e:=Db (f:=ts[k]) (g:=g) (by omega) (h.tv _ hm)
  simp only[Bj,Ae,hk,Aj hk,if_true,e,Option.bind_some,List.take_succ_eq_append_getElem hk,List.map_append,List.map_cons,List.map_nil,Ac (show k<4611686018427387904 by omega)]
  rw[if_pos (by simp;omega),if_pos (by simp;unfold lim;omega)]
  rfl
 ·simp only[Bj,List.take_length]
  rw[if_neg (by simp)]
theorem Hr {l:List Int} (h:l.length<=1000000):B3 l=some l:=by
 unfold B3
 rw[if_pos (by simp;unfold lim;omega)];simp
theorem GP {g:List Int} (hc: ∀c∈a.2.2,TabC g c) (hl:a.2.2.length<=1000):AK Aa (a,(1,g),(0,(0,[])),[],a.2.2,(a.2.2.length:Int),0)=some (a,(0,(0,[])),a.2.2.map (BS g)):=by
 have:=CD a.2.2.length (λm (o:List Con) i=>AK m (a,(1,g),(0,(0,[])),o,a.2.2,(a.2.2.length:Int),i)) (λk=>(a.2.2.take k).map (BS g)) (r:=some (a,(0,(0,[])),a.2.2.map (BS g))) (λm k hk=>?_) (λm=>?_) (n:=Aa) (by unfold Aa;omega)
 ·exact this
 ·have h:=hc _ (List.getElem_mem hk)
  have e1:=Hr (l:=a.2.2[k].1) (by have:=h.sl;omega)
  have e2:=GN h
  have e2:CA (a.2.2[k].2.1,a.2.2[k].2.2) g=_:=e2
  simp only[AK,Ae,hk,Aj hk,if_true,e1,e2,Option.bind_some,List.take_succ_eq_append_getElem hk,List.map_append,List.map_cons,List.map_nil,Ac (show k<4611686018427387904 by omega)]
  rw[if_pos (by simp;omega),if_pos (by simp;unfold lim;omega)]
  rfl
 ·simp only[AK,List.take_length]
  rw[if_neg (by simp)]
theorem JX {l out:List Con} {i:Nat} (hi:i<l.length) (hr: ∀r∈l[i].2.2,r.length<=1048576) (hl:l[i].2.2.length<=1048576) (s:List Int) (ar:Int):Cc Aa (l,out,(i:Int),(s,(ar,[])),0)=some (l,out,(i:Int),(s,(ar,l[i].2.2))):=by
 have:=CD l[i].2.2.length (λm (o:List (List Int)) k=>Cc m (l,out,(i:Int),(s,(ar,o)),k)) (λk=>l[i].2.2.take k) (r:=some (l,out,(i:Int),(s,(ar,l[i].2.2)))) (λm k hk=>?_) (λm=>?_) (n:=Aa) (by unfold Aa;omega)
 ·exact this
 ·have e:=BU (l:=l[i].2.2[k]) (by have:=hr _ (List.getElem_mem hk);omega)
  simp only[Cc,Ae,hi,Aj hi,hk,Aj hk,if_true,e,Option.bind_some,Ac (show k<4611686018427387904 by omega)]
  rw[if_pos (by simp;omega),if_pos (by simp;unfold lim;omega),List.take_succ_eq_append_getElem hk]
 ·simp only[Cc,Ae,hi,Aj hi,if_true,List.take_length]
  rw[if_neg (by simp)]
theorem F5 {l:List Con} (hl:l.length<=1000000) (hc: ∀c∈l,JW c):Ez l=some l:=by
 have:=CD l.length (λm (o:List Con) i=>Cb m (l,o,i)) (λk=>l.take k) (r:=some l) (λm k hk=>?_) (λm=>?_) (n:=Aa) (by unfold Aa;omega)
 ·have this:Cb Aa (l,[],0)=_:=this
  unfold Ez
  rw[this];rfl
 ·have h:=hc _ (List.getElem_mem hk)
  have e1:=BU (l:=l[k].1) (by have:=h.1;omega)
  have e2:=JX (out:=l.take k) hk (λr hr=>by have:=h.2.2 r hr;omega) (by have:=h.2.1;omega) l[k].1 l[k].2.1
  simp only[Cb,Ae,hk,Aj hk,if_true,e1,e2,Option.bind_some,Ac (show k<4611686018427387904 by omega)]
  rw[if_pos (by simp;omega),if_pos (by simp;unfold lim;omega),List.take_succ_eq_append_getElem hk]
 ·simp only[Cb,List.take_length]
  rw[if_neg (by simp)]
def FJ (h:Con->Con) (l:List Con) (k:Nat):List Con:=(l.take k).map h++l.drop k
theorem Gs {h:Con->Con} {l:List Con} {k:Nat} (hk:k<=l.length):(FJ h l k).length=l.length:=by simp[FJ];omega
theorem HL {h:Con->Con} {l:List Con} {k:Nat} (hk:k<l.length) (d:Con):gd (FJ h l k) (k:Int) d=l[k]:=by
 have hl:=Gs (h:=h) (show k<=l.length by omega)
 rw[Aj (by omega)]
 unfold FJ
 rw[List.getElem_append_right (by simp;omega)]
 simp only[List.length_map,List.length_take,List.getElem_drop]
 congr 1;omega
theorem Jy {h:Con->Con} {l:List Con} {k:Nat} (hk:k<l.length):(FJ h l k).set k (h l[k])=FJ h l (k+1):=by
 unfold FJ
 rw[List.set_append_right _ _ (by simp;omega),List.drop_eq_getElem_cons hk,List.take_succ_eq_append_getElem hk,List.map_append]
 have e:k-((l.take k).map h).length=0:=by simp;omega
 rw[e,List.set_cons_zero,List.append_assoc];rfl
theorem Hp {C:List Con} {g:List Int} {c:Con} (h:TabC g c) {i j:Nat} (hi:i<C.length) (hg:gd C (i:Int) ([],(0,[]))=c) (hj:j<c.2.2.length) (F:Int) (t4:Net) (v n:Int) (T8:List (List Int)):
  AY Aa ((F,g),t4,(v,(n,C)),(i:Int),T8,(j:Int),[],0)=some ((F,g),t4,(v,(n,C)),(i:Int),T8,(j:Int),CQ g c.2.2[j]):=by
 have hsl:=h.sl
 have htl:=h.tl _ (List.getElem_mem hj)
 have:=CD c.2.2[j].length (λm (o:List Int) x=>AY m ((F,g),t4,(v,(n,C)),(i:Int),T8,(j:Int),o,x)) (λk=>CQ g (c.2.2[j].take k)) (r:=some ((F,g),t4,(v,(n,C)),(i:Int),T8,(j:Int),CQ g c.2.2[j])) (λm k hk=>?_) (λm=>?_) (n:=Aa) (by unfold Aa;omega)
 ·exact this
 ·have hv:=h.tv _ (List.getElem_mem hj) _ (List.getElem_mem hk)
  have hin:inb c.2.2[j][k] g:=hv
  have eg:gd g c.2.2[j][k] 0=Bq g c.2.2[j][k]:=rfl
  simp only[AY,Ae,hi,hg,hj,Aj hj,hk,Aj hk,if_true,hin,eg,Ac (show k<4611686018427387904 by omega)]
  rw[if_pos (by simp;omega),if_pos (by simp[CQ];unfold lim;omega),List.take_succ_eq_append_getElem hk]
  simp only[CQ,List.map_append,List.map_cons,List.map_nil]
 ·simp only[AY,Ae,hi,hg,hj,Aj hj,if_true,List.take_length]
  rw[if_neg (by simp)]
theorem HZ {C:List Con} {g:List Int} {c:Con} (h:TabC g c) {i:Nat} (hi:i<C.length) (hg:gd C (i:Int) ([],(0,[]))=c) (F:Int) (t4:Net) (v n:Int):
  AM Aa ((F,g),t4,(v,(n,C)),(i:Int),[],0)=some ((F,g),t4,(v,(n,C)),(i:Int),Ey (c.2.2.map (CQ g))):=by
 have hsl:=h.sl
 have hm:=h.many
 have:=CD c.2.2.length (λm (o:List (List Int)) x=>AM m ((F,g),t4,(v,(n,C)),(i:Int),o,x)) (λk=>Ey ((c.2.2.take k).map (CQ g))) (r:=some ((F,g),t4,(v,(n,C)),(i:Int),Ey (c.2.2.map (CQ g)))) (λm k hk=>?_) (λm=>?_) (n:=Aa) (by unfold Aa;omega)
 ·have e0:Ey ((c.2.2.take 0).map (CQ g))= []:=by rw[List.take_zero,List.map_nil];simp[Ey,Zn,Zx,Zm]
  rw[e0]at this
  exact this
 ·have e1:=Hp h hi hg hk F t4 v n (Ey ((c.2.2.take k).map (CQ g)))
  have hvl: ∀u∈(c.2.2.take k).map (CQ g),u.length=c.1.length:=λu hu=>by
   obtain⟨t,ht,rfl⟩:=List.mem_map.1 hu
   rw[D7];exact h.tl t (List.mem_of_mem_take ht)
  have hle:=IE ((c.2.2.take k).map (CQ g))
  rw[List.length_map,List.length_take]at hle
  obtain⟨r,e2,e3⟩:=Ki (list:=Ey ((c.2.2.take k).map (CQ g))) (l:=(c.2.2.take k).map (CQ g)) (t:=CQ g c.2.2[k]) (m:=c.1.length) (by omega) (by omega) hvl (by rw[D7];exact h.tl _ (List.getElem_mem hk)) rfl
  have e4:(c.2.2.take (k+1)).map (CQ g)=(c.2.2.take k).map (CQ g)++ [CQ g c.2.2[k]]:=by rw[List.take_succ_eq_append_getElem hk,List.map_append];rfl
  simp only[AM,Ae,hi,hg,if_true,e1,e2,Option.bind_some,Ac (show k<4611686018427387904 by omega)]
  rw[if_pos (by simp;omega),e4]
  rcases e3 with ⟨h1,h2⟩|⟨h1,h2⟩
  ·rw[if_pos (by simpa using h1),h2];rfl
  ·rw[if_neg (by simpa using h1),h2]
 ·simp only[AM,Ae,hi,hg,if_true,List.take_length]
  rw[if_neg (by simp)]
theorem HY {l:List Con} {g:List Int} (hc: ∀c∈l,TabC g c) (hl:l.length<=1000) (F:Int) (t4:Net) (v n:Int):
  Bb Aa ((F,g),t4,(v,(n,l)),0)=some (t4,(v,(n,l.map (BS g)))):=by
 have:=CD l.length (λm (o:List Con) x=>Bb m ((F,g),t4,(v,(n,o)),x)) (FJ (BS g) l) (r:=some (t4,(v,(n,l.map (BS g))))) (λm k hk=>?_) (λm=>?_) (n:=Aa) (by unfold Aa;omega)
 ·have e0:FJ (BS g) l 0=l:=by simp[FJ]
  rw[e0]at this
  exact this
 ·have hml:=Gs (h:=BS g) (show k<=l.length by omega)
  have hkm:k<(FJ (BS g) l k).length:=by omega
  have e1:=HZ (hc _ (List.getElem_mem hk)) hkm (HL hk _) F t4 v n
  simp only[Bb,e1,Option.bind_some,Ae,hkm,if_true,HL hk,Dg,Ac (show k<4611686018427387904 by omega)]
  rw[if_pos (by simp;omega),←Jy hk]
  rfl
 ·have hml:=Gs (h:=BS g) (Nat.le_refl l.length)
  simp only[Bb]
  rw[if_neg (by simp;omega)]
  have e0:FJ (BS g) l l.length=l.map (BS g):=by simp[FJ]
  rw[e0]
theorem JM (h:NetOk a) (hf:opB a.2.1 f=true) (h1:f.1=1): ∀c∈a.2.2,TabC f.2 c:=by
 intro c hc
 have hco:=h.con c hc
 unfold opB at hf
 simp only[Bool.and_eq_true,decide_eq_true_eq]at hf
 have hlen:(f.2.length:Int)=a.2.1:=by have:=hf.1.2;rw[h1]at this;rw[this];exact Int.pow_succ a.2.1 0|>.trans (by simp)
 refine⟨by have:=hco.sl;have:=hco.ar;omega,hco.tl,λt ht v hv=>?_,hco.many⟩
 obtain⟨i,hi,rfl⟩:=List.mem_iff_getElem.1 hv
 rw[hlen]
 exact hco.tv t ht i hi
theorem H6 (hs:FY a) (hl:f.2.length<=1048576):AS a f=some (FL a f)/\AT a f=some (FL a f):=by
 obtain⟨v,n,cs⟩:=a
 obtain⟨F,g⟩:=f
 unfold AS AT FL
 dsimp only
 rw[Cj hs,Df hs]
 simp only[Option.bind_some]
 cases hb:CR (v,(n,cs))with
 |false=>exact⟨rfl,rfl⟩
 |true=>
  have hok:=Gt hb
  have hn:=hok.hn
  have hcl:=hok.hc
  dsimp only at hn hcl
  by_cases h1:F=1
  ·subst h1
   have o1:=Hk (n:=n) (f:=(1,g)) (by omega) hl
   have o2:=Hn (n:=n) (f:=(1,g)) (by omega) hl
   simp only[o1,o2,Bool.not_true,Bool.false_eq_true,if_false,Option.bind_some]
   cases ho:opB n (1,g)with
   |false=>exact⟨rfl,rfl⟩
   |true=>
    have ht:=JM hok ho rfl
    have e1:=GP (a:=(v,(n,cs))) ht (by dsimp only;omega)
    have e1:AK Aa ((v,(n,cs)),(1,g),(0,(0,[])),[],cs,(cs.length:Int),0)=_:=e1
    have e2:=F5 (l:=cs) (by omega) hs.2
    have e3:=HY ht (by dsimp only;omega) 1 (0,(0,[])) v n
    simp only[e1,e2,e3,Option.bind_some,bne_self_eq_false,Bool.not_true,Bool.false_eq_true,if_false]
    unfold DJ
    rw[if_neg (by simp;omega)]
    exact⟨rfl,rfl⟩
  ·have hF:(F !=1)=true:=by simpa using h1
   simp only[hF,Bool.not_true,Bool.false_eq_true,if_false,if_true,decide_eq_false h1,Bool.false_and,Bool.and_false]
   exact⟨trivial,trivial⟩
def JJ (a:Net):Prop:=a.2.2.length<=100/\ ∀c∈a.2.2,c.1.length<=100/\c.2.2.length<=1000/\ ∀r∈c.2.2,r.length<=100
theorem Kn {a:Net} (h:JJ a):FY a:=⟨by have:=h.1;omega,λc hc=>⟨by have:=(h.2 c hc).1;omega,by have:=(h.2 c hc).2.1;omega,λr hr=>by have:=(h.2 c hc).2.2 r hr;omega⟩⟩
theorem HS (hs:FY a):JJ (FL a f).1:=by
 unfold FL
 by_cases hb:(CR a&&(decide (f.1=1)&&opB a.2.1 f))=true
 ·rw[if_pos hb]
  simp only[Bool.and_eq_true,decide_eq_true_eq]at hb
  have hok:=Gt hb.1
  have ht:=JM hok hb.2.2 hb.2.1
  refine⟨by dsimp only;rw[List.length_map];have:=hok.hc;omega,λc hc=>?_⟩
  obtain⟨q,hq,rfl⟩:=List.mem_map.1 hc
  have h1:=ht q hq
  have h2:=hok.con q hq
  have h3:=h2.sl;have h4:=h2.ar
  have h5:=IE (q.2.2.map (CQ f.2))
  have h6:=h1.many
  rw[List.length_map]at h5
  refine⟨by unfold BS;dsimp only;omega,by unfold BS;dsimp only;omega,λr hr=>?_⟩
  have hr:=setL_mem.1 hr
  obtain⟨t,ht',rfl⟩:=List.mem_map.1 hr
  rw[D7,h1.tl t ht'];omega
 ·rw[if_neg hb]
  exact⟨by simp,by simp⟩
end
end T
set_option linter.unusedVariables false
open Go Go.Va
namespace T
def G3 (code:List Int):Option (Bool):=
 some (decide ((code.length:Int)>65536))
def DH (t0:Int):Option (Int×(List (Int×(List (List Int))))):=
 if t0==0 then
 some (2,[(2,[[0,0],[0,1],[1,1]])])
 else
 if t0==1 then
 some (2,[(2,[[0,1],[1,0],[1,1]]),(2,[[0,0],[0,1],[1,0]])])
 else
 if t0==2 then
 some (2,[(3,[[0,0,0],[0,1,1],[1,0,1],[1,1,0]])])
 else
 if t0==3 then
 some (2,[(3,[[0,0,1],[0,1,0],[1,0,0]])])
 else
 if t0==4 then
 some (2,[(3,[[0,0,0],[0,0,1],[0,1,0],[0,1,1],[1,0,0],[1,0,1],[1,1,1]]),(1,[[1]])])
 else
 if t0==5 then
 some (3,[(2,[[0,1],[0,2],[1,0],[1,2],[2,0],[2,1]])])
 else
 if t0==6 then
 some (3,[(2,[[0,0],[0,1],[0,2],[1,1],[1,2],[2,2]])])
 else
 if t0==7 then
 some (3,[(2,[[0,1],[1,2],[2,0]])])
 else
 if t0==8 then
 some (2,[(2,[[0,1],[1,0]])])
 else
 if t0==9 then
 some (4,[(2,[[0,1],[1,0],[1,2],[2,1],[2,3],[3,2]])])
 else
 some (2,[])
def AB:Nat->(((List Int)×Int×Int)×Int×(List Int)×Int)->Option (((List Int)×Int×Int)×(List Int))
 |0,_=>none
 |n+1,(c,n_,out,x)=>
 if decide (x<n_)then
 (Ad (c.1,(c.2.1,c.2.2)) (w64 (x+1))).bind λr1=>
 if decide (r1.2<x)then
 if inb r1.2 out then
 if out.length+ [gd out r1.2 0].length<=lim then
 AB n ((r1.1.1,(r1.1.2.1,r1.1.2.2)),n_,out++ [gd out r1.2 0],w64 (x+1))
 else none
 else none
 else
 if out.length+ [r1.2].length<=lim then
 AB n ((r1.1.1,(r1.1.2.1,r1.1.2.2)),n_,out++ [r1.2],w64 (x+1))
 else none
 else
 some ((c.1,(c.2.1,c.2.2)),out)
def BT (c:(List Int)×Int×Int) (n_:Int):Option (((List Int)×Int×Int)×(List Int)):=
 (AB Aa ((c.1,(c.2.1,c.2.2)),n_,[],0)).bind λs1=>
 some ((s1.1.1,(s1.1.2.1,s1.1.2.2)),s1.2)
def AN:Nat->((List Int)×(Int×(List (List Int)))×(Int×(List (List Int)))×Int×Int)->Option ((List Int)×(Int×(List (List Int)))×(Int×(List (List Int)))×Int)
 |0,_=>none
 |n+1,(p,t2,out,x,y)=>
 if decide (y<(p.length:Int))then
 if inb x p then
 if inb y p then
 if(gd p x 0)==(gd p y 0)then
 if out.2.length+ [[x,y]].length<=lim then
 AN n (p,(t2.1,t2.2),(out.1,out.2++ [[x,y]]),x,w64 (y+1))
 else none
 else
 AN n (p,(t2.1,t2.2),(out.1,out.2),x,w64 (y+1))
 else none
 else none
 else
 some (p,(t2.1,t2.2),(out.1,out.2),x)
def Bc:Nat->((List Int)×(Int×(List (List Int)))×(Int×(List (List Int)))×Int)->Option ((Int×(List (List Int)))×(Int×(List (List Int))))
 |0,_=>none
 |n+1,(p,t2,out,x)=>
 if decide (x<(p.length:Int))then
 (AN Aa (p,(t2.1,t2.2),(out.1,out.2),x,0)).bind λs1=>
 Bc n (s1.1,(s1.2.1.1,s1.2.1.2),(s1.2.2.1.1,s1.2.2.1.2),w64 (s1.2.2.2+1))
 else
 some ((t2.1,t2.2),(out.1,out.2))
def C7 (p:List Int):Option ((Int×(List (List Int)))):=
 (Bc Aa (p,(0,[]),(2,[]),0)).bind λs1=>
 some (s1.2.1,s1.2.2)
def B8:Nat->(Int×Int×(Int×(List (List Int)))×(Int×(List (List Int)))×Int)->Option ((Int×(List (List Int)))×(Int×(List (List Int))))
 |0,_=>none
 |n+1,(n_,arity,t4,out,at_)=>
 (BD n_ arity).bind λr1=>
 if decide (at_<r1)then
 (Ef n_ arity at_).bind λr2=>
 if out.2.length+ [r2].length<=lim then
 B8 n (n_,arity,(t4.1,t4.2),(out.1,out.2++ [r2]),w64 (at_+1))
 else none
 else
 some ((t4.1,t4.2),(out.1,out.2))
def C5 (n_:Int) (arity:Int):Option ((Int×(List (List Int)))):=
 (B8 Aa (n_,arity,(0,[]),(arity,[]),0)).bind λs1=>
 some (s1.2.1,s1.2.2)
def Fu (list:List (List Int)) (t:List Int):Option ((List (List Int))):=
 (DO list t).bind λr1=>
 if r1.2 then
 some list
 else
 if(0:Int)<=0/\0<=r1.1/\r1.1<=(list.length:Int)then
 if([]:List (List Int)).length+((list.take (Int.toNat r1.1)).drop (Int.toNat 0)).length<=lim then
 if([]++((list.take (Int.toNat r1.1)).drop (Int.toNat 0))).length+ [t].length<=lim then
 if(0:Int)<=r1.1/\r1.1<=(list.length:Int)/\(list.length:Int)<=(list.length:Int)then
 if(([]++((list.take (Int.toNat r1.1)).drop (Int.toNat 0)))++ [t]).length+((list.take (Int.toNat (list.length:Int))).drop (Int.toNat r1.1)).length<=lim then
 some ((([]++((list.take (Int.toNat r1.1)).drop (Int.toNat 0)))++ [t])++((list.take (Int.toNat (list.length:Int))).drop (Int.toNat r1.1)))
 else none
 else none
 else none
 else none
 else none
def Bf:Nat->(((List Int)×Int×Int)×Int×Int×(Int×(List (List Int)))×(Int×(List (List Int)))×Int×(List Int)×Int)->Option (((List Int)×Int×Int)×Int×Int×(Int×(List (List Int)))×(Int×(List (List Int)))×Int×(List Int))
 |0,_=>none
 |n+1,(t0,t1,t2,t6,t7,t8,t9,t10)=>
 if decide (t10<t2)then
 (Ad (t0.1,(t0.2.1,t0.2.2)) t1).bind λr4=>
 if t9.length+ [r4.2].length<=lim then
 Bf n ((r4.1.1,(r4.1.2.1,r4.1.2.2)),t1,t2,(t6.1,t6.2),(t7.1,t7.2),t8,t9++ [r4.2],w64 (t10+1))
 else none
 else
 some ((t0.1,(t0.2.1,t0.2.2)),t1,t2,(t6.1,t6.2),(t7.1,t7.2),t8,t9)
def Be:Nat->(((List Int)×Int×Int)×Int×Int×(Int×(List (List Int)))×(Int×(List (List Int)))×Int)->Option (((List Int)×Int×Int)×Int×Int×(Int×(List (List Int)))×(Int×(List (List Int))))
 |0,_=>none
 |n+1,(t0,t1,t2,t6,t7,t8)=>
 if decide (t8>0)then
 (Bf Aa ((t0.1,(t0.2.1,t0.2.2)),t1,t2,(t6.1,t6.2),(t7.1,t7.2),t8,[],0)).bind λs4=>
 (Fu s4.2.2.2.2.1.2 s4.2.2.2.2.2.2).bind λr5=>
 Be n ((s4.1.1,(s4.1.2.1,s4.1.2.2)),s4.2.1,s4.2.2.1,(s4.2.2.2.1.1,s4.2.2.2.1.2),(s4.2.2.2.2.1.1,r5),w64 (s4.2.2.2.2.2.1-1))
 else
 some ((t0.1,(t0.2.1,t0.2.2)),t1,t2,(t6.1,t6.2),(t7.1,t7.2))
def Bw (t0:(List Int)×Int×Int) (t1:Int) (t2:Int):Option (((List Int)×Int×Int)×(Int×(List (List Int)))):=
 (E1 t1).bind λr1=>
 if !r1 then
 some ((t0.1,(t0.2.1,t0.2.2)),(t2,[]))
 else
 (Cg t2 1 3).bind λr2=>
 if !r2 then
 some ((t0.1,(t0.2.1,t0.2.2)),(t2,[]))
 else
 (Ab (t0.1,(t0.2.1,t0.2.2)) [0,1,2,3,4,6,9]).bind λr3=>
 (Be Aa ((r3.1.1,(r3.1.2.1,r3.1.2.2)),t1,t2,(0,[]),(t2,[]),r3.2)).bind λs4=>
 if s4.2.2.1==2 then
 (Az (s4.1.1,(s4.1.2.1,s4.1.2.2)) 3).bind λr5=>
 if r5.2 then
 (BT (r5.1.1,(r5.1.2.1,r5.1.2.2)) s4.2.1).bind λr6=>
 (C7 r6.2).bind λr7=>
 (Az (r6.1.1,(r6.1.2.1,r6.1.2.2)) 12).bind λr8=>
 if r8.2 then
 (C5 s4.2.1 s4.2.2.1).bind λr9=>
 (Ad (r8.1.1,(r8.1.2.1,r8.1.2.2)) 40).bind λr10=>
 if r10.2==0 then
 (Ab (r10.1.1,(r10.1.2.1,r10.1.2.2)) [0,4,(-1)]).bind λr11=>
 some ((r11.1.1,(r11.1.2.1,r11.1.2.2)),(r11.2,r9.2))
 else
 if r10.2==1 then
 if 0<=s4.2.2.1/\s4.2.2.1<=s4.2.2.1/\s4.2.2.1<=lim then
 if r9.2.length+ [List.replicate (Int.toNat s4.2.2.1) (0:Int)].length<=lim then
 some ((r10.1.1,(r10.1.2.1,r10.1.2.2)),(r9.1,r9.2++ [List.replicate (Int.toNat s4.2.2.1) (0:Int)]))
 else none
 else none
 else
 if r10.2==2 then
 if decide ((r9.2.length:Int)>0)then
 (Ab (r10.1.1,(r10.1.2.1,r10.1.2.2)) [(-1),s4.2.1,0]).bind λr12=>
 if inb 0 r9.2 then
 some ((r12.1.1,(r12.1.2.1,r12.1.2.2)),(r9.1,stt r9.2 0 [r12.2]))
 else none
 else
 some ((r10.1.1,(r10.1.2.1,r10.1.2.2)),(r9.1,r9.2))
 else
 some ((r10.1.1,(r10.1.2.1,r10.1.2.2)),(r9.1,r9.2))
 else
 (Ad (r8.1.1,(r8.1.2.1,r8.1.2.2)) 40).bind λr13=>
 if r13.2==0 then
 (Ab (r13.1.1,(r13.1.2.1,r13.1.2.2)) [0,4,(-1)]).bind λr14=>
 some ((r14.1.1,(r14.1.2.1,r14.1.2.2)),(r14.2,r7.2))
 else
 if r13.2==1 then
 if 0<=s4.2.2.1/\s4.2.2.1<=s4.2.2.1/\s4.2.2.1<=lim then
 if r7.2.length+ [List.replicate (Int.toNat s4.2.2.1) (0:Int)].length<=lim then
 some ((r13.1.1,(r13.1.2.1,r13.1.2.2)),(r7.1,r7.2++ [List.replicate (Int.toNat s4.2.2.1) (0:Int)]))
 else none
 else none
 else
 if r13.2==2 then
 if decide ((r7.2.length:Int)>0)then
 (Ab (r13.1.1,(r13.1.2.1,r13.1.2.2)) [(-1),s4.2.1,0]).bind λr15=>
 if inb 0 r7.2 then
 some ((r15.1.1,(r15.1.2.1,r15.1.2.2)),(r7.1,stt r7.2 0 [r15.2]))
 else none
 else
 some ((r13.1.1,(r13.1.2.1,r13.1.2.2)),(r7.1,r7.2))
 else
 some ((r13.1.1,(r13.1.2.1,r13.1.2.2)),(r7.1,r7.2))
 else
 (Az (r5.1.1,(r5.1.2.1,r5.1.2.2)) 12).bind λr16=>
 if r16.2 then
 (C5 s4.2.1 s4.2.2.1).bind λr17=>
 (Ad (r16.1.1,(r16.1.2.1,r16.1.2.2)) 40).bind λr18=>
 if r18.2==0 then
 (Ab (r18.1.1,(r18.1.2.1,r18.1.2.2)) [0,4,(-1)]).bind λr19=>
 some ((r19.1.1,(r19.1.2.1,r19.1.2.2)),(r19.2,r17.2))
 else
 if r18.2==1 then
 if 0<=s4.2.2.1/\s4.2.2.1<=s4.2.2.1/\s4.2.2.1<=lim then
 if r17.2.length+ [List.replicate (Int.toNat s4.2.2.1) (0:Int)].length<=lim then
 some ((r18.1.1,(r18.1.2.1,r18.1.2.2)),(r17.1,r17.2++ [List.replicate (Int.toNat s4.2.2.1) (0:Int)]))
 else none
 else none
 else
 if r18.2==2 then
 if decide ((r17.2.length:Int)>0)then
 (Ab (r18.1.1,(r18.1.2.1,r18.1.2.2)) [(-1),s4.2.1,0]).bind λr20=>
 if inb 0 r17.2 then
 some ((r20.1.1,(r20.1.2.1,r20.1.2.2)),(r17.1,stt r17.2 0 [r20.2]))
 else none
 else
 some ((r18.1.1,(r18.1.2.1,r18.1.2.2)),(r17.1,r17.2))
 else
 some ((r18.1.1,(r18.1.2.1,r18.1.2.2)),(r17.1,r17.2))
 else
 (Ad (r16.1.1,(r16.1.2.1,r16.1.2.2)) 40).bind λr21=>
 if r21.2==0 then
 (Ab (r21.1.1,(r21.1.2.1,r21.1.2.2)) [0,4,(-1)]).bind λr22=>
 some ((r22.1.1,(r22.1.2.1,r22.1.2.2)),(r22.2,s4.2.2.2.2.2))
 else
 if r21.2==1 then
 if 0<=s4.2.2.1/\s4.2.2.1<=s4.2.2.1/\s4.2.2.1<=lim then
 if s4.2.2.2.2.2.length+ [List.replicate (Int.toNat s4.2.2.1) (0:Int)].length<=lim then
 some ((r21.1.1,(r21.1.2.1,r21.1.2.2)),(s4.2.2.2.2.1,s4.2.2.2.2.2++ [List.replicate (Int.toNat s4.2.2.1) (0:Int)]))
 else none
 else none
 else
 if r21.2==2 then
 if decide ((s4.2.2.2.2.2.length:Int)>0)then
 (Ab (r21.1.1,(r21.1.2.1,r21.1.2.2)) [(-1),s4.2.1,0]).bind λr23=>
 if inb 0 s4.2.2.2.2.2 then
 some ((r23.1.1,(r23.1.2.1,r23.1.2.2)),(s4.2.2.2.2.1,stt s4.2.2.2.2.2 0 [r23.2]))
 else none
 else
 some ((r21.1.1,(r21.1.2.1,r21.1.2.2)),(s4.2.2.2.2.1,s4.2.2.2.2.2))
 else
 some ((r21.1.1,(r21.1.2.1,r21.1.2.2)),(s4.2.2.2.2.1,s4.2.2.2.2.2))
 else
 (Az (s4.1.1,(s4.1.2.1,s4.1.2.2)) 12).bind λr24=>
 if r24.2 then
 (C5 s4.2.1 s4.2.2.1).bind λr25=>
 (Ad (r24.1.1,(r24.1.2.1,r24.1.2.2)) 40).bind λr26=>
 if r26.2==0 then
 (Ab (r26.1.1,(r26.1.2.1,r26.1.2.2)) [0,4,(-1)]).bind λr27=>
 some ((r27.1.1,(r27.1.2.1,r27.1.2.2)),(r27.2,r25.2))
 else
 if r26.2==1 then
 if 0<=s4.2.2.1/\s4.2.2.1<=s4.2.2.1/\s4.2.2.1<=lim then
 if r25.2.length+ [List.replicate (Int.toNat s4.2.2.1) (0:Int)].length<=lim then
 some ((r26.1.1,(r26.1.2.1,r26.1.2.2)),(r25.1,r25.2++ [List.replicate (Int.toNat s4.2.2.1) (0:Int)]))
 else none
 else none
 else
 if r26.2==2 then
 if decide ((r25.2.length:Int)>0)then
 (Ab (r26.1.1,(r26.1.2.1,r26.1.2.2)) [(-1),s4.2.1,0]).bind λr28=>
 if inb 0 r25.2 then
 some ((r28.1.1,(r28.1.2.1,r28.1.2.2)),(r25.1,stt r25.2 0 [r28.2]))
 else none
 else
 some ((r26.1.1,(r26.1.2.1,r26.1.2.2)),(r25.1,r25.2))
 else
 some ((r26.1.1,(r26.1.2.1,r26.1.2.2)),(r25.1,r25.2))
 else
 (Ad (r24.1.1,(r24.1.2.1,r24.1.2.2)) 40).bind λr29=>
 if r29.2==0 then
 (Ab (r29.1.1,(r29.1.2.1,r29.1.2.2)) [0,4,(-1)]).bind λr30=>
 some ((r30.1.1,(r30.1.2.1,r30.1.2.2)),(r30.2,s4.2.2.2.2.2))
 else
 if r29.2==1 then
 if 0<=s4.2.2.1/\s4.2.2.1<=s4.2.2.1/\s4.2.2.1<=lim then
 if s4.2.2.2.2.2.length+ [List.replicate (Int.toNat s4.2.2.1) (0:Int)].length<=lim then
 some ((r29.1.1,(r29.1.2.1,r29.1.2.2)),(s4.2.2.2.2.1,s4.2.2.2.2.2++ [List.replicate (Int.toNat s4.2.2.1) (0:Int)]))
 else none
 else none
 else
 if r29.2==2 then
 if decide ((s4.2.2.2.2.2.length:Int)>0)then
 (Ab (r29.1.1,(r29.1.2.1,r29.1.2.2)) [(-1),s4.2.1,0]).bind λr31=>
 if inb 0 s4.2.2.2.2.2 then
 some ((r31.1.1,(r31.1.2.1,r31.1.2.2)),(s4.2.2.2.2.1,stt s4.2.2.2.2.2 0 [r31.2]))
 else none
 else
 some ((r29.1.1,(r29.1.2.1,r29.1.2.2)),(s4.2.2.2.2.1,s4.2.2.2.2.2))
 else
 some ((r29.1.1,(r29.1.2.1,r29.1.2.2)),(s4.2.2.2.2.1,s4.2.2.2.2.2))
def AP:Nat->(((List Int)×Int×Int)×Int×(List (Int×(List (List Int))))×(List (Int×(List (List Int))))×Int×(Int×(List (List Int)))×Int)->Option (((List Int)×Int×Int)×Int×(List (Int×(List (List Int))))×(List (Int×(List (List Int))))×Int×(Int×(List (List Int))))
 |0,_=>none
 |n+1,(t0,t4,t5,t6,t7,t8,t9)=>
 if inb t7 t5 then
 if decide (t9<(((gd t5 t7 (0,[])).2).length:Int))then
 if inb t7 t5 then
 if inb t9 ((gd t5 t7 (0,[])).2)then
 (Bh (gd ((gd t5 t7 (0,[])).2) t9 [])).bind λr4=>
 if t8.2.length+ [r4].length<=lim then
 AP n ((t0.1,(t0.2.1,t0.2.2)),t4,t5,t6,t7,(t8.1,t8.2++ [r4]),w64 (t9+1))
 else none
 else none
 else none
 else
 some ((t0.1,(t0.2.1,t0.2.2)),t4,t5,t6,t7,(t8.1,t8.2))
 else none
def AO:Nat->(((List Int)×Int×Int)×Int×(List (Int×(List (List Int))))×(List (Int×(List (List Int))))×Int)->Option (((List Int)×Int×Int)×Int×(List (Int×(List (List Int)))))
 |0,_=>none
 |n+1,(t0,t4,t5,t6,t7)=>
 if decide (t7<(t5.length:Int))then
 if inb t7 t5 then
 (AP Aa ((t0.1,(t0.2.1,t0.2.2)),t4,t5,t6,t7,((gd t5 t7 (0,[])).1,[]),0)).bind λs4=>
 if s4.2.2.2.1.length+ [(s4.2.2.2.2.2.1,s4.2.2.2.2.2.2)].length<=lim then
 AO n ((s4.1.1,(s4.1.2.1,s4.1.2.2)),s4.2.1,s4.2.2.1,s4.2.2.2.1++ [(s4.2.2.2.2.2.1,s4.2.2.2.2.2.2)],w64 (s4.2.2.2.2.1+1))
 else none
 else none
 else
 some ((t0.1,(t0.2.1,t0.2.2)),t4,t6)
def AZ:Nat->(((List Int)×Int×Int)×Int×(List (Int×(List (List Int))))×Int)->Option (((List Int)×Int×Int)×Int×(List (Int×(List (List Int)))))
 |0,_=>none
 |n+1,(t0,t10,t11,t12)=>
 if decide (t12>0)then
 (Ab (t0.1,(t0.2.1,t0.2.2)) [1,2,2,3]).bind λr10=>
 (Bw (r10.1.1,(r10.1.2.1,r10.1.2.2)) t10 r10.2).bind λr11=>
 if t11.length+ [r11.2].length<=lim then
 AZ n ((r11.1.1,(r11.1.2.1,r11.1.2.2)),t10,t11++ [r11.2],w64 (t12-1))
 else none
 else
 some ((t0.1,(t0.2.1,t0.2.2)),t10,t11)
def Cp (t0:(List Int)×Int×Int):Option (((List Int)×Int×Int)×Int×(List (Int×(List (List Int))))):=
 (Az (t0.1,(t0.2.1,t0.2.2)) 3).bind λr1=>
 if !r1.2 then
 (Ad (r1.1.1,(r1.1.2.1,r1.1.2.2)) 11).bind λr2=>
 (DH r2.2).bind λr3=>
 (AO Aa ((r2.1.1,(r2.1.2.1,r2.1.2.2)),r3.1,r3.2,[],0)).bind λs4=>
 some ((s4.1.1,(s4.1.2.1,s4.1.2.2)),s4.2.1,s4.2.2)
 else
 (Ad (r1.1.1,(r1.1.2.1,r1.1.2.2)) 24).bind λr5=>
 if(11:Int)≠0 then
 if(0:Int)<=0/\0<=(w64 (7+(w64 (Int.tdiv r5.2 11))))/\(w64 (7+(w64 (Int.tdiv r5.2 11))))<=([1,2,2,2,3,3,4,0,5].length:Int)then
 (Ab (r5.1.1,(r5.1.2.1,r5.1.2.2)) (([1,2,2,2,3,3,4,0,5].take (Int.toNat (w64 (7+(w64 (Int.tdiv r5.2 11)))))).drop (Int.toNat 0))).bind λr6=>
 (Ad (r6.1.1,(r6.1.2.1,r6.1.2.2)) 24).bind λr7=>
 if(23:Int)≠0 then
 if(0:Int)<=0/\0<=(w64 (5+(w64 (Int.tdiv r7.2 23))))/\(w64 (5+(w64 (Int.tdiv r7.2 23))))<=([0,1,1,2,4,5].length:Int)then
 (Ab (r7.1.1,(r7.1.2.1,r7.1.2.2)) (([0,1,1,2,4,5].take (Int.toNat (w64 (5+(w64 (Int.tdiv r7.2 23)))))).drop (Int.toNat 0))).bind λr8=>
 (AZ Aa ((r8.1.1,(r8.1.2.1,r8.1.2.2)),r6.2,[],r8.2)).bind λs9=>
 some ((s9.1.1,(s9.1.2.1,s9.1.2.2)),s9.2.1,s9.2.2)
 else none
 else none
 else none
 else none
def CK:Nat->((List Int)×(List Int)×Int)->Option ((Unit)⊕(Bool))
 |0,_=>none
 |n+1,(a,b,i)=>
 if decide (i<(a.length:Int))then
 if inb i a then
 if inb i b then
 if(gd a i 0) !=(gd b i 0)then
 some (.inr false)
 else
 CK n (a,b,w64 (i+1))
 else none
 else none
 else
 some (.inl ())
def Ev (a:List Int) (b:List Int):Option (Bool):=
 if(a.length:Int) !=(b.length:Int)then
  some false
 else
  (CK Aa (a,b,0)).bind λs1=>
   match s1 with
   | .inl s2=>
    some true
   | .inr s3=>
    some s3
def Cu:Nat->((List (List Int))×(List (List Int))×Int)->Option ((Unit)⊕(Bool))
 |0,_=>none
 |n+1,(a,b,i)=>
 if decide (i<(a.length:Int))then
 if inb i a then
 if inb i b then
 (Ev (gd a i []) (gd b i [])).bind λr1=>
 if !r1 then
 some (.inr false)
 else
 Cu n (a,b,w64 (i+1))
 else none
 else none
 else
 some (.inl ())
def Eb (a:List (List Int)) (b:List (List Int)):Option (Bool):=
 if(a.length:Int) !=(b.length:Int)then
  some false
 else
  (Cu Aa (a,b,0)).bind λs1=>
   match s1 with
   | .inl s2=>
    some true
   | .inr s3=>
    some s3
def Ch (values:List Int) (t1:List (List Int)):Option ((List (List Int))×Bool):=
 (B3 values).bind λr1=>
 if t1.length+ [r1].length<=lim then
 some (t1++ [r1],decide (((t1++ [r1]).length:Int)<=300))
 else none
def Al (rec:(Int×(List Int)×(List (List Int))×(Bool×Int×(List (List (List Int)))×(List (List (List ByteArray))))×(List Int)×Unit)->Option ((List Int)×(List (List Int))×(Bool×Int×(List (List (List Int)))×(List (List (List ByteArray))))×(List Int)×Bool)):Nat->(Int×(List Int)×(List (List Int))×(Bool×Int×(List (List (List Int)))×(List (List (List ByteArray))))×(List Int)×Unit×Int×Bool×(List (List Int))×Int×Int)->Option (Int×(List Int)×(List (List Int))×(Bool×Int×(List (List (List Int)))×(List (List (List ByteArray))))×(List Int)×Unit×Int×Bool)
 |0,_=>none
 |n+1,(t0,t1,t2,t3,t4,t5,t8,t9,t50,t51,t52)=>
 if decide (t52<t51)then
 if inb t52 t50 then
 if t9 then
 if t3.1=true then
 if inb t0 t3.2.2.2 then
 if inb t52 (gd t3.2.2.2 t0 [])then
 (BR (gd t50 t52 []) t1).bind λr2=>
 (CB r2).bind λr3=>
 Al rec n (t0,t1,t2,t3,t4,(),t8,Xs (gd (gd t3.2.2.2 t0 []) t52 []) r3,t50,t51,w64 (t52+1))
 else none
 else none
 else none
 else
 Al rec n (t0,t1,t2,t3,t4,(),t8,false,t50,t51,w64 (t52+1))
 else none
 else
 some (t0,t1,t2,t3,t4,(),t8,t9)
def Ag (rec:(Int×(List Int)×(List (List Int))×(Bool×Int×(List (List (List Int)))×(List (List (List ByteArray))))×(List Int)×Unit)->Option ((List Int)×(List (List Int))×(Bool×Int×(List (List (List Int)))×(List (List (List ByteArray))))×(List Int)×Bool)):Nat->(Int×(List Int)×(List (List Int))×(Bool×Int×(List (List (List Int)))×(List (List (List ByteArray))))×(List Int)×Unit×Int)->Option (((List Int)×(List (List Int))×(Bool×Int×(List (List (List Int)))×(List (List (List ByteArray))))×(List Int)×Unit)⊕((List Int)×(List (List Int))×(Bool×Int×(List (List (List Int)))×(List (List (List ByteArray))))×(List Int)×Unit×Bool))
 |0,_=>none
 |n+1,(t0,t1,t2,t3,t4,t5,t8)=>
 if t3.1=true then
 if decide (t8<t3.2.1)then
 if inb t0 t4 then
 if decide ((gd t4 t0 0)≥0)then
 if inb t0 t4 then
 if(gd t4 t0 0) !=t8 then
 Ag rec n (t0,t1,t2,t3,t4,(),w64 (t8+1))
 else
 if inb t0 t1 then
 if t3.1=true then
 if inb t0 t3.2.2.1 then
 (Al rec Aa (t0,stt t1 t0 t8,t2,t3,t4,(),t8,true,gd t3.2.2.1 t0 [],((gd t3.2.2.1 t0 []).length:Int),0)).bind λs2=>
 if s2.2.2.2.2.2.2.2 then
 (rec (w64 (s2.1+1),s2.2.1,s2.2.2.1,s2.2.2.2.1,s2.2.2.2.2.1,())).bind λr3=>
 if !r3.2.2.2.2 then
 some (.inr (r3.1,r3.2.1,r3.2.2.1,r3.2.2.2.1,(),false))
 else
 Ag rec n (s2.1,r3.1,r3.2.1,r3.2.2.1,r3.2.2.2.1,(),w64 (s2.2.2.2.2.2.2.1+1))
 else
 Ag rec n (s2.1,s2.2.1,s2.2.2.1,s2.2.2.2.1,s2.2.2.2.2.1,(),w64 (s2.2.2.2.2.2.2.1+1))
 else none
 else none
 else none
 else none
 else
 if inb t0 t1 then
 if t3.1=true then
 if inb t0 t3.2.2.1 then
 (Al rec Aa (t0,stt t1 t0 t8,t2,t3,t4,(),t8,true,gd t3.2.2.1 t0 [],((gd t3.2.2.1 t0 []).length:Int),0)).bind λs4=>
 if s4.2.2.2.2.2.2.2 then
 (rec (w64 (s4.1+1),s4.2.1,s4.2.2.1,s4.2.2.2.1,s4.2.2.2.2.1,())).bind λr5=>
 if !r5.2.2.2.2 then
 some (.inr (r5.1,r5.2.1,r5.2.2.1,r5.2.2.2.1,(),false))
 else
 Ag rec n (s4.1,r5.1,r5.2.1,r5.2.2.1,r5.2.2.2.1,(),w64 (s4.2.2.2.2.2.2.1+1))
 else
 Ag rec n (s4.1,s4.2.1,s4.2.2.1,s4.2.2.2.1,s4.2.2.2.2.1,(),w64 (s4.2.2.2.2.2.2.1+1))
 else none
 else none
 else none
 else none
 else
 some (.inl (t1,t2,t3,t4,()))
 else none
def Bg (rec:(Int×(List Int)×(List (List Int))×(Bool×Int×(List (List (List Int)))×(List (List (List ByteArray))))×(List Int)×Unit)->Option ((List Int)×(List (List Int))×(Bool×Int×(List (List (List Int)))×(List (List (List ByteArray))))×(List Int)×Bool)) (t0:Int) (t1:List Int) (t2:List (List Int)) (t3:Bool×Int×(List (List (List Int)))×(List (List (List ByteArray)))) (t4:List Int) (t5:Unit):Option ((List Int)×(List (List Int))×(Bool×Int×(List (List (List Int)))×(List (List (List ByteArray))))×(List Int)×Bool):=
 if t0==(t1.length:Int)then
  (Ch t1 t2).bind λr1=>
   some (t1,r1.1,t3,t4,r1.2)
 else
  (Ag rec Aa (t0,t1,t2,t3,t4,(),0)).bind λs2=>
   match s2 with
   | .inl s3=>
    some (s3.1,s3.2.1,s3.2.2.1,s3.2.2.2.1,true)
   | .inr s4=>
    some (s4.1,s4.2.1,s4.2.2.1,s4.2.2.2.1,s4.2.2.2.2.2)
def An:Nat->(Int×(List Int)×(List (List Int))×(Bool×Int×(List (List (List Int)))×(List (List (List ByteArray))))×(List Int)×Unit)->Option ((List Int)×(List (List Int))×(Bool×Int×(List (List (List Int)))×(List (List (List ByteArray))))×(List Int)×Bool)
 |0,_=>none
 |d+1,x=>Bg (An d) x.1 x.2.1 x.2.2.1 x.2.2.2.1 x.2.2.2.2.1 x.2.2.2.2.2
def BA (s:Bool×Int×(List (List (List Int)))×(List (List (List ByteArray)))) (partial_:List Int) (found:List (List Int)):Option ((List (List Int))):=
 if 0<=(partial_.length:Int)/\(partial_.length:Int)<=(partial_.length:Int)/\(partial_.length:Int)<=lim then
 (An Aa (0,List.replicate (Int.toNat (partial_.length:Int)) (0:Int),found,s,partial_,())).bind λr1=>
 some r1.2.1
 else none
def BF (net:Int×Int×(List ((List Int)×Int×(List (List Int))))) (found:List (List Int)):Option ((List (List Int))):=
 (CO (net.1,(net.2.1,net.2.2))).bind λr1=>
 (Dp net.1).bind λr2=>
 (BA r1 r2 found).bind λr3=>
 some r3
def BJ (net:Int×Int×(List ((List Int)×Int×(List (List Int))))):Option ((List (List Int))×Bool):=
 (B2 (net.1,(net.2.1,net.2.2))).bind λr1=>
 if !r1 then
 some ([],false)
 else
 (BF (net.1,(net.2.1,net.2.2)) []).bind λr2=>
 if decide ((r2.length:Int)>300)then
 some ([],false)
 else
 some (r2,true)
end T
set_option linter.unusedVariables false
open Go Go.Va
namespace T
def Gq (a:Int×(List Int)) (b:Int×(List Int)):Option (Bool):=
 if a.1==b.1 then
 (Ev a.2 b.2).bind λr1=>
 some r1
 else
 some false
def C3:Nat->((List (Int×(List Int)))×(List (Int×(List Int)))×Int)->Option ((Unit)⊕(Bool))
 |0,_=>none
 |n+1,(a,b,i)=>
 if decide (i<(a.length:Int))then
 if inb i a then
 if inb i b then
 (Gq (gd a i (0,[])) (gd b i (0,[]))).bind λr1=>
 if !r1 then
 some (.inr false)
 else
 C3 n (a,b,w64 (i+1))
 else none
 else none
 else
 some (.inl ())
def FG (a:List (Int×(List Int))) (b:List (Int×(List Int))):Option (Bool):=
 if(a.length:Int) !=(b.length:Int)then
  some false
 else
  (C3 Aa (a,b,0)).bind λs1=>
   match s1 with
   | .inl s2=>
    some true
   | .inr s3=>
    some s3
end T
open Go Go.Va
namespace T
def rowsB (R W:Nat) (l:List (List Int)):Prop:=l.length<=R/\ ∀r∈l,r.length<=W
theorem rowsB.mono {R W R' W':Nat} {l:List (List Int)} (h:rowsB R W l) (h1:R<=R') (h2:W<=W'):rowsB R' W' l:=⟨by have:=h.1;omega,λr hr=>by have:=h.2 r hr;omega⟩
theorem rowsB.app {R W:Nat} {l:List (List Int)} {t:List Int} (h:rowsB R W l) (ht:t.length<=W):rowsB (R+1) W (l++ [t]):=⟨by rw[List.length_append,List.length_singleton];have:=h.1;omega,λr hr=>by
 rcases List.mem_append.1 hr with hr|hr
 ·exact h.2 r hr
 ·rw[List.mem_singleton.1 hr];exact ht⟩
theorem Lh:Fu=Fk:=rfl
theorem Kd {N:Nat} (hN:N<=8): ∀(d f k x:Nat) (c:Dy) (o:List Int),x+d=N->d<f->Cur k c->k+2*d<=1000000->o.length=x->
  ∃c' o',AB f (c,(N:Int),o,(x:Int))=some (c',o')/\Cur (k+2*d) c'/\o'.length=N:=by
 intro d
 induction d with
 |zero=>
  intro f k x c o hx hf hc hk ho
  obtain⟨f,rfl⟩: ∃z,f=z+1:=⟨f-1,by omega⟩
  refine⟨c,o,?_,hc,by omega⟩
  simp only[AB]
  rw[if_neg (by simp;omega)]
 |succ d ih=>
  intro f k x c o hx hf hc hk ho
  obtain⟨f,rfl⟩: ∃z,f=z+1:=⟨f-1,by omega⟩
  obtain⟨c1,x1,e1,g1,a1,b1,_⟩:=Dd hc (by omega) ((x+1:Nat):Int) (by omega)
  have b1:=b1 (by omega)
  have e1:Ad (c.1,(c.2.1,c.2.2)) ((x+1:Nat):Int)=_:=e1
  have ew:=Ac (show x<4611686018427387904 by omega)
  simp only[AB,ew,e1,Option.bind_some]
  rw[if_pos (by simp;omega)]
  by_cases h:x1<(x:Int)
  ·obtain⟨c',o',e2,g2,l2⟩:=ih f (k+2) (x+1) c1 (o++ [gd o x1 0]) (by omega) (by omega) g1 (by omega) (by simp;omega)
   refine⟨c',o',?_,g2.mono (by omega),l2⟩
   rw[if_pos (by simpa using h),if_pos (by unfold inb;omega),if_pos (by simp;unfold lim;omega)]
   exact e2
  ·obtain⟨c',o',e2,g2,l2⟩:=ih f (k+2) (x+1) c1 (o++ [x1]) (by omega) (by omega) g1 (by omega) (by simp;omega)
   refine⟨c',o',?_,g2.mono (by omega),l2⟩
   rw[if_neg (by simpa using h),if_pos (by simp;unfold lim;omega)]
   exact e2
theorem Hm {N k:Nat} {c:Dy} (hN:N<=8) (hc:Cur k c) (hk:k<=500000): ∃c' o,BT c (N:Int)=some (c',o)/\Cur (k+16) c'/\o.length=N:=by
 obtain⟨c',o,e,g,l⟩:=Kd hN N Aa k 0 c [] (by omega) (by unfold Aa;omega) hc (by omega) rfl
 refine⟨c',o,?_,g.mono (by omega),l⟩
 unfold BT
 have e:AB Aa ((c.1,(c.2.1,c.2.2)),(N:Int),[],0)=_:=e
 rw[e];rfl
theorem IV {p:List Int} (hp:p.length<=8): ∃out,C7 p=some (2,out)/\rowsB 64 2 out:=by
 have in6: ∀(x:Nat),x<p.length-> ∀(d f y:Nat) (o:List (List Int)),y+d=p.length->d<f->rowsB (8*x+y) 2 o->
   ∃o',AN f (p,(0,[]),(2,o),(x:Int),(y:Int))=some (p,(0,[]),(2,o'),(x:Int))/\rowsB (8*x+p.length) 2 o':=by
  intro x hx d
  induction d with
  |zero=>
   intro f y o hy hf ho
   obtain⟨f,rfl⟩: ∃z,f=z+1:=⟨f-1,by omega⟩
   refine⟨o,?_,ho.mono (by omega) (by omega)⟩
   simp only[AN]
   rw[if_neg (by simp;omega)]
  |succ d ih=>
   intro f y o hy hf ho
   obtain⟨f,rfl⟩: ∃z,f=z+1:=⟨f-1,by omega⟩
   have hyl:y<p.length:=by omega
   have hol:=ho.1
   simp only[AN,Ae,hx,hyl,if_true,Ac (show y<4611686018427387904 by omega)]
   rw[if_pos (by simp;omega)]
   by_cases h:(gd p (x:Int) 0==gd p (y:Int) 0)=true
   ·obtain⟨o',e,g⟩:=ih f (y+1) (o++ [[(x:Int),(y:Int)]]) (by omega) (by omega) (by rw[←Nat.add_assoc];exact ho.app (by simp))
    refine⟨o',?_,g⟩
    rw[if_pos h,if_pos (by simp;unfold lim;omega)]
    exact e
   ·obtain⟨o',e,g⟩:=ih f (y+1) o (by omega) (by omega) (ho.mono (by omega) (by omega))
    refine⟨o',?_,g⟩
    rw[if_neg h]
    exact e
 have in3: ∀(d f x:Nat) (o:List (List Int)),x+d=p.length->d<f->rowsB (8*x) 2 o->
   ∃o',Bc f (p,(0,[]),(2,o),(x:Int))=some ((0,[]),(2,o'))/\rowsB 64 2 o':=by
  intro d
  induction d with
  |zero=>
   intro f x o hx hf ho
   obtain⟨f,rfl⟩: ∃z,f=z+1:=⟨f-1,by omega⟩
   refine⟨o,?_,ho.mono (by omega) (by omega)⟩
   simp only[Bc]
   rw[if_neg (by simp;omega)]
  |succ d ih=>
   intro f x o hx hf ho
   obtain⟨f,rfl⟩: ∃z,f=z+1:=⟨f-1,by omega⟩
   obtain⟨o1,e1,g1⟩:=in6 x (by omega) p.length Aa 0 o (by omega) (by unfold Aa;omega) ho
   have e1:AN Aa (p,(0,[]),(2,o),(x:Int),0)=_:=e1
   obtain⟨o',e2,g2⟩:=ih f (x+1) o1 (by omega) (by omega) (g1.mono (by omega) (by omega))
   refine⟨o',?_,g2⟩
   simp only[Bc,e1,Option.bind_some,Ac (show x<4611686018427387904 by omega)]
   rw[if_pos (by simp;omega)]
   exact e2
 obtain⟨o,e,g⟩:=in3 p.length Aa 0 [] (by omega) (by unfold Aa;omega) ⟨by simp,by simp⟩
 refine⟨o,?_,g⟩
 unfold C7
 have e:Bc Aa (p,(0,[]),(2,[]),0)=_:=e
 rw[e];rfl
theorem IQ {N A:Nat} (hN:1<=N/\N<=8) (hA:1<=A/\A<=3): ∃out,C5 (N:Int) (A:Int)=some ((A:Int),out)/\rowsB 512 3 out:=by
 have hp:N^A<=512:=by
  have:N^A<=8^3:=Nat.le_trans (Nat.pow_le_pow_left hN.2 A) (Nat.pow_le_pow_right (by omega) hA.2)
  omega
 have e1:=En (n:=(N:Int)) (by omega) (by omega) (k:=A) (by omega)
 have e0:(N:Int)^A=((N^A:Nat):Int):=by rw[Int.natCast_pow]
 rw[e0]at e1
 have key: ∀(d f x:Nat) (o:List (List Int)),x+d=N^A->d<f->rowsB x 3 o->
   ∃o',B8 f ((N:Int),(A:Int),(0,[]),((A:Int),o),(x:Int))=some ((0,[]),((A:Int),o'))/\rowsB (N^A) 3 o':=by
  intro d
  induction d with
  |zero=>
   intro f x o hx hf ho
   obtain⟨f,rfl⟩: ∃z,f=z+1:=⟨f-1,by omega⟩
   refine⟨o,?_,ho.mono (by omega) (by omega)⟩
   simp only[B8,e1,Option.bind_some]
   rw[if_neg (by simp only[decide_eq_true_eq];omega)]
  |succ d ih=>
   intro f x o hx hf ho
   obtain⟨f,rfl⟩: ∃z,f=z+1:=⟨f-1,by omega⟩
   have hol:=ho.1
   have e2:=EY (b:=N) (k:=A) (i:=x) (by omega) (by omega) (by omega)
   have hl2:(cI (dg N A x)).length=A:=by rw[CS,FB]
   obtain⟨o',e3,g3⟩:=ih f (x+1) (o++ [cI (dg N A x)]) (by omega) (by omega) (ho.app (by omega))
   refine⟨o',?_,g3⟩
   simp only[B8,e1,e2,Option.bind_some,Ac (show x<4611686018427387904 by omega)]
   rw[if_pos (by simp only[decide_eq_true_eq];omega),if_pos (by simp;unfold lim;omega)]
   exact e3
 obtain⟨o,e,g⟩:=key (N^A) Aa 0 [] (by omega) (by unfold Aa;omega) ⟨by simp,by simp⟩
 refine⟨o,?_,g.mono hp (by omega)⟩
 unfold C5
 have e:B8 Aa ((N:Int),(A:Int),(0,[]),((A:Int),[]),0)=_:=e
 rw[e];rfl
theorem KU {N:Int} (hN:N<=100) {A:Nat} (hA:A<=3) (t6 t7:Int×List (List Int)) (t8:Int): ∀(d f k x:Nat) (c:Dy) (o:List Int),x+d=A->d<f->Cur k c->k+2*d<=1000000->o.length=x->
  ∃c' o',Bf f (c,N,(A:Int),t6,t7,t8,o,(x:Int))=some (c',N,(A:Int),t6,t7,t8,o')/\Cur (k+2*d) c'/\o'.length=A:=by
 intro d
 induction d with
 |zero=>
  intro f k x c o hx hf hc hk ho
  obtain⟨f,rfl⟩: ∃z,f=z+1:=⟨f-1,by omega⟩
  refine⟨c,o,?_,hc,by omega⟩
  simp only[Bf]
  rw[if_neg (by simp;omega)]
 |succ d ih=>
  intro f k x c o hx hf hc hk ho
  obtain⟨f,rfl⟩: ∃z,f=z+1:=⟨f-1,by omega⟩
  obtain⟨c1,x1,e1,g1,_⟩:=Dd hc (by omega) N (by omega)
  have e1:Ad (c.1,(c.2.1,c.2.2)) N=_:=e1
  obtain⟨c',o',e2,g2,l2⟩:=ih f (k+2) (x+1) c1 (o++ [x1]) (by omega) (by omega) g1 (by omega) (by simp;omega)
  refine⟨c',o',?_,g2.mono (by omega),l2⟩
  simp only[Bf,e1,Option.bind_some,Ac (show x<4611686018427387904 by omega)]
  rw[if_pos (by simp;omega),if_pos (by simp;unfold lim;omega)]
  exact e2
theorem KS {N:Int} (hN:N<=100) {A:Nat} (hA:A<=3) (t6:Int×List (List Int)): ∀(d f k:Nat) (c:Dy) (o:List (List Int)),d<f->Cur k c->k+10*d<=500000->o.length+d<=1000->CL o=true->(∀u∈o,u.length=A)->
  ∃c' o',Be f (c,N,(A:Int),t6,((A:Int),o),(d:Int))=some (c',N,(A:Int),t6,((A:Int),o'))/\Cur (k+10*d) c'/\rowsB (o.length+d) A o':=by
 intro d
 induction d with
 |zero=>
  intro f k c o hf hc hk ho hi hl
  obtain⟨f,rfl⟩: ∃z,f=z+1:=⟨f-1,by omega⟩
  refine⟨c,o,?_,hc,⟨by omega,λu hu=>by rw[hl u hu];exact Nat.le_refl _⟩⟩
  simp only[Be]
  rw[if_neg (by simp)]
 |succ d ih=>
  intro f k c o hf hc hk ho hi hl
  obtain⟨f,rfl⟩: ∃z,f=z+1:=⟨f-1,by omega⟩
  obtain⟨c1,t,e1,g1,l1⟩:=KU hN hA t6 ((A:Int),o) ((d+1:Nat):Int) A Aa k 0 c [] (by omega) (by unfold Aa;omega) hc (by omega) rfl
  have e1:Bf Aa ((c.1,(c.2.1,c.2.2)),N,(A:Int),(t6.1,t6.2),((A:Int),o),((d+1:Nat):Int),[],0)=_:=e1
  obtain⟨o1,p1,p2,p3,p4⟩:=GS (list:=o) (t:=t) (k:=A) (by omega) (by omega) hl l1 hi
  have z1:=Kh p2 hi p3 p4
  obtain⟨c',o',e2,g2,l2⟩:=ih f (k+2*A) c1 o1 (by omega) g1 (by omega) (by omega) p2 (λu hu=>((p3 u).1 hu).elim (λh=>by rw[h];exact l1) (hl u))
  refine⟨c',o',?_,g2.mono (by omega),l2.mono (by omega) (by omega)⟩
  have ew:w64 (((d+1:Nat):Int)-1)=(d:Int):=by rw[AE (by omega) (by omega)];omega
  simp only[Be,e1,Lh,p1,Option.bind_some,ew]
  rw[if_pos (by simp)]
  exact e2
def Fq (c:Dy) (N A:Int) (out:Int×List (List Int)):Option (Dy×(Int×List (List Int))):=
 (Ad (c.1,(c.2.1,c.2.2)) 40).bind λr10=>
 if r10.2==0 then
 (Ab (r10.1.1,(r10.1.2.1,r10.1.2.2)) [0,4,(-1)]).bind λr11=>
 some ((r11.1.1,(r11.1.2.1,r11.1.2.2)),(r11.2,out.2))
 else
 if r10.2==1 then
 if 0<=A/\A<=A/\A<=lim then
 if out.2.length+ [List.replicate (Int.toNat A) (0:Int)].length<=lim then
 some ((r10.1.1,(r10.1.2.1,r10.1.2.2)),(out.1,out.2++ [List.replicate (Int.toNat A) (0:Int)]))
 else none
 else none
 else
 if r10.2==2 then
 if decide ((out.2.length:Int)>0)then
 (Ab (r10.1.1,(r10.1.2.1,r10.1.2.2)) [(-1),N,0]).bind λr12=>
 if inb 0 out.2 then
 some ((r12.1.1,(r12.1.2.1,r12.1.2.2)),(out.1,stt out.2 0 [r12.2]))
 else none
 else
 some ((r10.1.1,(r10.1.2.1,r10.1.2.2)),(out.1,out.2))
 else
 some ((r10.1.1,(r10.1.2.1,r10.1.2.2)),(out.1,out.2))
theorem Ih {k:Nat} {c:Dy} (hc:Cur k c) (hk:k<=1000000) {N:Int} {A:Nat} (hA:A<=3) {out:Int×List (List Int)} (ho:rowsB 600 3 out.2): ∃c' r,Fq c N (A:Int) out=some (c',r)/\Cur (k+4) c'/\rowsB 601 3 r.2:=by
 obtain⟨c1,x1,e1,g1,_⟩:=Dd hc (by omega) 40 (by omega)
 have e1:Ad (c.1,(c.2.1,c.2.2)) 40=_:=e1
 have hol:=ho.1
 unfold Fq
 simp only[e1,Option.bind_some]
 by_cases h0:x1=0
 ·rw[if_pos (by simpa using h0)]
  obtain⟨c2,x2,e2,g2,_⟩:=C8 g1 (by omega) (l:= [0,4,(-1)]) (by simp) (by simp)
  have e2:Ab (c1.1,(c1.2.1,c1.2.2)) [0,4,(-1)]=_:=e2
  simp only[e2,Option.bind_some]
  exact⟨_,_,rfl,g2.mono (by omega),ho.mono (by omega) (by omega)⟩
 ·rw[if_neg (by simpa using h0)]
  by_cases h1:x1=1
  ·rw[if_pos (by simpa using h1),if_pos (by unfold lim;omega),if_pos (by simp;unfold lim;omega)]
   exact⟨_,_,rfl,g1.mono (by omega),ho.app (by simp;omega)⟩
  ·rw[if_neg (by simpa using h1)]
   by_cases h2:x1=2
   ·rw[if_pos (by simpa using h2)]
    by_cases h3:(out.2.length:Int)>0
    ·rw[if_pos (by simpa using h3)]
     obtain⟨c2,x2,e2,g2,_⟩:=C8 g1 (by omega) (l:= [(-1),N,0]) (by simp) (by simp)
     have e2:Ab (c1.1,(c1.2.1,c1.2.2)) [(-1),N,0]=_:=e2
     simp only[e2,Option.bind_some]
     rw[if_pos (by unfold inb;omega)]
     refine⟨_,_,rfl,g2.mono (by omega),⟨by show(List.set out.2 _ _).length<=601;rw[List.length_set];omega,λr hr=>?_⟩⟩
     have hr:r∈List.set out.2 (0:Int).toNat [x2]:=hr
     rcases List.mem_or_eq_of_mem_set hr with hr|rfl
     ·exact ho.2 r hr
     ·simp
    ·rw[if_neg (by simpa using h3)]
     exact⟨_,_,rfl,g1.mono (by omega),ho.mono (by omega) (by omega)⟩
   ·rw[if_neg (by simpa using h2)]
    exact⟨_,_,rfl,g1.mono (by omega),ho.mono (by omega) (by omega)⟩
theorem FW {k:Nat} {c:Dy} (hc:Cur k c) (hk:k<=100000) {N A:Int} (hN:N<=100): ∃c' r,Bw c N A=some (c',r)/\Cur (k+200) c'/\rowsB 601 3 r.2:=by
 unfold Bw
 rw[GK,BE]
 simp only[Option.bind_some]
 cases hs:HX N with
 |false=>exact⟨_,_,rfl,hc.mono (by omega),⟨by simp,by simp⟩⟩
 |true=>
  simp only[Bool.not_true,Bool.false_eq_true,if_false]
  by_cases hA:1<=A/\A<=3
  ·rw[if_neg (by simp;omega)]
   obtain⟨a,rfl⟩: ∃a:Nat,A=(a:Int):=⟨A.toNat,by omega⟩
   have hn:1<=N/\N<=8:=by unfold HX at hs;simpa using hs
   obtain⟨n,rfl⟩: ∃n:Nat,N=(n:Int):=⟨N.toNat,by omega⟩
   obtain⟨c1,x1,e1,g1,m1⟩:=C8 hc (by omega) (l:= [0,1,2,3,4,6,9]) (by simp) (by simp)
   have hx1:0<=x1/\x1<=9:=by simp at m1;omega
   obtain⟨m,rfl⟩: ∃m:Nat,x1=(m:Int):=⟨x1.toNat,by omega⟩
   obtain⟨c2,o,e2,g2,r2⟩:=KS (N:=(n:Int)) (by omega) (A:=a) (by omega) (0,[]) m Aa (k+2) c1 [] (by unfold Aa;omega) g1 (by omega) (by simp;omega) rfl (by simp)
   have r2:rowsB 600 3 o:=r2.mono (by simp;omega) (by omega)
   have e1:Ab (c.1,(c.2.1,c.2.2)) [0,1,2,3,4,6,9]=_:=e1
   have e2:Be Aa ((c1.1,(c1.2.1,c1.2.2)),(n:Int),(a:Int),(0,[]),((a:Int),[]),(m:Int))=_:=e2
   simp only[e1,e2,Option.bind_some]
   have hn':1<=n/\n<=8:=by omega
   have ha':1<=a/\a<=3:=by omega
   have fin: ∀(c:Dy) (out:Int×List (List Int)),Cur (k+150) c->rowsB 600 3 out.2-> ∃c' r,Fq c (n:Int) (a:Int) out=some (c',r)/\Cur (k+200) c'/\rowsB 601 3 r.2:=λc out hc ho=>by
    obtain⟨c',r,e,g,h⟩:=Ih hc (by omega) (N:=(n:Int)) (A:=a) (by omega) ho
    exact⟨c',r,e,g.mono (by omega),h⟩
   have mid: ∀(c:Dy) (out:Int×List (List Int)),Cur (k+130) c->rowsB 600 3 out.2-> ∃c' r,((Az (c.1,(c.2.1,c.2.2)) 12).bind λr8=>if r8.2 then(C5 (n:Int) (a:Int)).bind λr9=>Fq r8.1 (n:Int) (a:Int) r9 else Fq r8.1 (n:Int) (a:Int) out)=some (c',r)/\Cur (k+200) c'/\rowsB 601 3 r.2:=λc out hc ho=>by
    obtain⟨c3,b3,e3,g3⟩:=Gw hc (by omega) 12 (by omega)
    have e3:Az (c.1,(c.2.1,c.2.2)) 12=_:=e3
    simp only[e3,Option.bind_some]
    cases b3 with
    |true=>
     obtain⟨w,e4,h4⟩:=IQ hn' ha'
     simp only[if_true,e4,Option.bind_some]
     exact fin c3 ((a:Int),w) (g3.mono (by omega)) (h4.mono (by omega) (by omega))
    |false=>
     simp only[Bool.false_eq_true,if_false]
     exact fin c3 out (g3.mono (by omega)) ho
   by_cases h2:((a:Int)==2)=true
   ·rw[if_pos h2]
    obtain⟨c3,b3,e3,g3⟩:=Gw g2 (by omega) 3 (by omega)
    have e3:Az (c2.1,(c2.2.1,c2.2.2)) 3=_:=e3
    simp only[e3,Option.bind_some]
    cases b3 with
    |true=>
     obtain⟨c4,p,e4,g4,l4⟩:=Hm (N:=n) (by omega) g3 (by omega)
     have e4:BT (c3.1,(c3.2.1,c3.2.2)) (n:Int)=_:=e4
     obtain⟨w,e5,h5⟩:=IV (p:=p) (by omega)
     simp only[if_true,e4,e5,Option.bind_some]
     exact mid c4 (2,w) (g4.mono (by omega)) (h5.mono (by omega) (by omega))
    |false=>
     simp only[Bool.false_eq_true,if_false]
     exact mid c3 ((a:Int),o) (g3.mono (by omega)) r2
   ·rw[if_neg h2]
    exact mid c2 ((a:Int),o) (g2.mono (by omega)) r2
  ·rw[if_pos (by simp;omega)]
   exact⟨_,_,rfl,hc.mono (by omega),⟨by simp,by simp⟩⟩
end T
open Go Go.Va
namespace T
def HU (l:List AX):Prop:=l.length<=5/\ ∀r∈l,rowsB 601 3 r.2
def Jt (o:Option (Int×List AX)):Bool:=match o with
 |some (n,rels)=>decide (0<=n/\n<=5)&&(decide (rels.length<=5)&&rels.all λr=>decide (r.2.length<=601)&&r.2.all λt=>decide (t.length<=3))
 |none=>false
theorem J8 (x:Int):Jt (DH x)=true:=by
 unfold DH
 repeat' split
 all_goals rfl
theorem Ju (x:Int): ∃n rels,DH x=some (n,rels)/\0<=n/\n<=5/\HU rels:=by
 have h:=J8 x
 unfold Jt at h
 split at h
 ·rename_i n rels e
  simp only[Bool.and_eq_true,decide_eq_true_eq,List.all_eq_true]at h
  exact⟨n,rels,e,h.1.1,h.1.2,h.2.1,λr hr=>h.2.2 r hr⟩
 ·simp at h
theorem K7 {l:List AX} {i:Nat} (hi:i<l.length) (hr:rowsB 1000 1000 l[i].2) (c:Dy) (n:Int) (o:List AX) (ar:Int):AP Aa (c,n,l,o,(i:Int),(ar,[]),0)=some (c,n,l,o,(i:Int),(ar,l[i].2)):=by
 have h1:=hr.1
 have:=CD l[i].2.length (λm (q:List (List Int)) k=>AP m (c,n,l,o,(i:Int),(ar,q),k)) (λk=>l[i].2.take k) (r:=some (c,n,l,o,(i:Int),(ar,l[i].2))) (λm k hk=>?_) (λm=>?_) (n:=Aa) (by unfold Aa;omega)
 ·exact this
 ·have e:=BU (l:=l[i].2[k]) (by have:=hr.2 _ (List.getElem_mem hk);omega)
  simp only[AP,Ae,hi,Aj hi,hk,Aj hk,if_true,e,Option.bind_some,Ac (show k<4611686018427387904 by omega)]
  rw[if_pos (by simp;omega),if_pos (by simp;unfold lim;omega),List.take_succ_eq_append_getElem hk]
 ·simp only[AP,Ae,hi,Aj hi,if_true,List.take_length]
  rw[if_neg (by simp)]
theorem K6 {l:List AX} (h:HU l) (c:Dy) (n:Int):AO Aa (c,n,l,[],0)=some (c,n,l):=by
 have h1:=h.1
 have:=CD l.length (λm (q:List AX) k=>AO m (c,n,l,q,k)) (λk=>l.take k) (r:=some (c,n,l)) (λm k hk=>?_) (λm=>?_) (n:=Aa) (by unfold Aa;omega)
 ·exact this
 ·have e:=K7 hk ((h.2 _ (List.getElem_mem hk)).mono (by omega) (by omega)) c n (l.take k) l[k].1
  have e:AP Aa ((c.1,(c.2.1,c.2.2)),n,l,l.take k,(k:Int),(l[k].1,[]),0)=_:=e
  simp only[AO,Ae,hk,Aj hk,if_true,e,Option.bind_some,Ac (show k<4611686018427387904 by omega)]
  rw[if_pos (by simp;omega),if_pos (by simp;unfold lim;omega),List.take_succ_eq_append_getElem hk]
 ·simp only[AO,List.take_length]
  rw[if_neg (by simp)]
theorem Ko {n:Int} (hn:n<=100): ∀(d f k:Nat) (c:Dy) (o:List AX),d<f->Cur k c->k+300*d<=50000->o.length+d<=5->(∀r∈o,rowsB 601 3 r.2)->
  ∃c' o',AZ f (c,n,o,(d:Int))=some (c',n,o')/\Cur (k+300*d) c'/\HU o':=by
 intro d
 induction d with
 |zero=>
  intro f k c o hf hc hk ho hr
  obtain⟨f,rfl⟩: ∃z,f=z+1:=⟨f-1,by omega⟩
  refine⟨c,o,?_,hc,⟨by omega,hr⟩⟩
  simp only[AZ]
  rw[if_neg (by simp)]
 |succ d ih=>
  intro f k c o hf hc hk ho hr
  obtain⟨f,rfl⟩: ∃z,f=z+1:=⟨f-1,by omega⟩
  obtain⟨c1,x1,e1,g1,_⟩:=C8 hc (by omega) (l:= [1,2,2,3]) (by simp) (by simp)
  have e1:Ab (c.1,(c.2.1,c.2.2)) [1,2,2,3]=_:=e1
  obtain⟨c2,r,e2,g2,h2⟩:=FW (N:=n) (A:=x1) g1 (by omega) hn
  have e2:Bw (c1.1,(c1.2.1,c1.2.2)) n x1=_:=e2
  obtain⟨c',o',e3,g3,h3⟩:=ih f (k+202) c2 (o++ [r]) (by omega) (g2.mono (by omega)) (by omega) (by simp;omega) (λq hq=>by
   rcases List.mem_append.1 hq with hq|hq
   ·exact hr q hq
   ·rw[List.mem_singleton.1 hq];exact h2)
  refine⟨c',o',?_,g3.mono (by omega),h3⟩
  have ew:w64 (((d+1:Nat):Int)-1)=(d:Int):=by rw[AE (by omega) (by omega)];omega
  simp only[AZ,e1,e2,Option.bind_some,ew]
  rw[if_pos (by simp),if_pos (by simp;unfold lim;omega)]
  exact e3
theorem G7 {k:Nat} {c:Dy} (hc:Cur k c) (hk:k<=1000000) (l:List Int) (b m:Nat) (hm:11<=m/\m<=24) (hb:0<b) (hl:b+(23/m)<=l.length) (hl2:l.length<=100):
  ∃c1 x1 c' x,Ad (c.1,(c.2.1,c.2.2)) 24=some (c1,x1)/\((0:Int)<=0/\0<=(w64 ((b:Int)+(w64 (Int.tdiv x1 (m:Int)))))/\(w64 ((b:Int)+(w64 (Int.tdiv x1 (m:Int)))))<=(l.length:Int))/\
   Ab (c1.1,(c1.2.1,c1.2.2)) ((l.take (Int.toNat (w64 ((b:Int)+(w64 (Int.tdiv x1 (m:Int))))))).drop (Int.toNat 0))=some (c',x)/\Cur (k+4) c'/\x∈l:=by
 obtain⟨c1,x1,e1,g1,a1,b1,_⟩:=Dd hc (by omega) 24 (by omega)
 have b1:=b1 (by omega)
 obtain⟨y,rfl⟩: ∃y:Nat,x1=(y:Int):=⟨x1.toNat,by omega⟩
 have hqb:y/m<=23/m:=Nat.div_le_div_right (by omega)
 have hq:Int.tdiv (y:Int) (m:Int)=((y/m:Nat):Int):=by rw[Int.tdiv_eq_ediv_of_nonneg (by omega)];rfl
 obtain⟨q,eq⟩: ∃q,q=y/m:=⟨_,rfl⟩
 obtain⟨z,ez⟩: ∃z,z=23/m:=⟨_,rfl⟩
 rw[←ez]at hqb hl
 rw[←eq]at hqb hq
 clear eq ez
 refine⟨c1,(y:Int),?_⟩
 rw[hq]
 clear hq
 have w1:w64 ((q:Nat):Int)=(q:Int):=AE (by omega) (by omega)
 have w2:w64 ((b:Int)+(q:Int))=((b+q:Nat):Int):=by rw[AE (by omega) (by omega)];omega
 rw[w1,w2]
 have e0:(l.take (Int.toNat ((b+q:Nat):Int))).drop (Int.toNat 0)=l.take (b+q):=by rw[Int.toNat_natCast];rfl
 rw[e0]
 obtain⟨c2,x2,e2,g2,m2⟩:=C8 g1 (by omega) (l:=l.take (b+q)) (by rw[List.length_take];omega) (by rw[List.length_take];omega)
 exact⟨c2,x2,e1,by omega,e2,g2.mono (by omega),List.mem_of_mem_take m2⟩
theorem H3 {k:Nat} {c:Dy} (hc:Cur k c) (hk:k<=10000): ∃c' n rels,Cp c=some (c',n,rels)/\Cur (k+2000) c'/\0<=n/\n<=5/\HU rels:=by
 obtain⟨c1,b1,e1,g1⟩:=Gw hc (by omega) 3 (by omega)
 have e1:Az (c.1,(c.2.1,c.2.2)) 3=_:=e1
 unfold Cp
 simp only[e1,Option.bind_some]
 cases b1 with
 |false=>
  obtain⟨c2,x2,e2,g2,_⟩:=Dd g1 (by omega) 11 (by omega)
  have e2:Ad (c1.1,(c1.2.1,c1.2.2)) 11=_:=e2
  obtain⟨n,rels,e3,h1,h2,h3⟩:=Ju x2
  have e4:=K6 h3 c2 n
  have e4:AO Aa ((c2.1,(c2.2.1,c2.2.2)),n,rels,[],0)=_:=e4
  simp only[Bool.not_false,if_true,e2,e3,e4,Option.bind_some]
  exact⟨_,_,_,rfl,g2.mono (by omega),h1,h2,h3⟩
 |true=>
  simp only[Bool.not_true,Bool.false_eq_true,if_false]
  obtain⟨d1,y1,c2,n,e2,i2,f2,g2,m2⟩:=G7 g1 (by omega) [1,2,2,2,3,3,4,0,5] 7 11 (by omega) (by omega) (by simp) (by simp)
  obtain⟨d2,y2,c3,d,e3,i3,f3,g3,m3⟩:=G7 g2 (by omega) [0,1,1,2,4,5] 5 23 (by omega) (by omega) (by simp) (by simp)
  have hn:0<=n/\n<=5:=by simp at m2;omega
  have hd:0<=d/\d<=5:=by simp at m3;omega
  obtain⟨D,rfl⟩: ∃D:Nat,d=(D:Int):=⟨d.toNat,by omega⟩
  obtain⟨c4,rels,e4,g4,h4⟩:=Ko (n:=n) (by omega) D Aa (k+10) c3 [] (by unfold Aa;omega) (g3.mono (by omega)) (by omega) (by simp;omega) (by simp)
  have e4:AZ Aa ((c3.1,(c3.2.1,c3.2.2)),n,[],(D:Int))=_:=e4
  simp only[e2,Option.bind_some]
  rw[if_pos (by decide),if_pos (show(0:Int)<=0/\0<=(w64 (7+(w64 (Int.tdiv y1 11))))/\(w64 (7+(w64 (Int.tdiv y1 11))))<=([1,2,2,2,3,3,4,0,5].length:Int) from i2)]
  have f2:Ab (d1.1,(d1.2.1,d1.2.2)) (([1,2,2,2,3,3,4,0,5].take (Int.toNat (w64 (7+(w64 (Int.tdiv y1 11)))))).drop (Int.toNat 0))=_:=f2
  rw[f2]
  simp only[Option.bind_some,e3]
  rw[if_pos (by decide),if_pos (show(0:Int)<=0/\0<=(w64 (5+(w64 (Int.tdiv y2 23))))/\(w64 (5+(w64 (Int.tdiv y2 23))))<=([0,1,1,2,4,5].length:Int) from i3)]
  have f3:Ab (d2.1,(d2.2.1,d2.2.2)) (([0,1,1,2,4,5].take (Int.toNat (w64 (5+(w64 (Int.tdiv y2 23)))))).drop (Int.toNat 0))=_:=f3
  rw[f3]
  simp only[Option.bind_some,e4]
  exact⟨_,_,_,rfl,g4.mono (by omega),hn.1,hn.2,h4⟩
end T
open Go Go.Va
namespace T
theorem Im {α:Type} [DecidableEq α] {l l':List α} (d:α) (h:l.length=l'.length):(List.range l.length).all (λk=>decide (l.getD k d=l'.getD k d))=decide (l=l'):=by
 rw[Bool.eq_iff_iff]
 simp only[List.all_eq_true,List.mem_range,decide_eq_true_eq]
 constructor
 ·intro hx
  refine List.ext_getElem h λi h1 h2=>?_
  have:=hx i h1
  rwa [Ai h1,Ai h2]at this
 ·rintro rfl _ _;rfl
section
variable {A B:Nat->Nat} {m j:Nat}
end
section
variable {n k m:Nat} {r:AX} {rels:List AX}
end
end T
open Go Go.Va
namespace T
section
variable {V n k:Nat} {cs:List Con} {rels:List AX}
theorem GE {given:List Int} {t:List Int} (h:t∈BH V n cs given):t.length=V:=by
 have:=(F8 (n:=n) (given:=given) (ok:=okN cs) V [] t h).1
 simpa using this
theorem IU (h:SrchOk V n cs):FY ((V:Int),((n:Int),cs)):=by
 have hc:=h.hc
 refine⟨by show cs.length<=1048576;omega,λc hcm=>?_⟩
 have h1:=h.con c hcm
 have h2:=h1.ar
 have h3:=h1.sl
 have h4:=h1.many
 exact⟨by omega,by omega,λr hr=>by have:=h1.tl r hr;omega⟩
theorem Et (h:SrchOk V n cs):CR ((V:Int),((n:Int),cs))=true:=by
 have hv:=h.hv
 have hn:=h.hn
 have hc:=h.hc
 unfold CR
 simp only[Bool.and_eq_true,decide_eq_true_eq,List.all_eq_true]
 refine⟨⟨⟨by omega,by omega⟩,hc⟩,λc hcm=>?_⟩
 have h1:=h.con c hcm
 have h3:=h1.sl
 unfold Ff Ex Bl
 simp only[Bool.and_eq_true,decide_eq_true_eq,List.all_eq_true]
 refine⟨⟨⟨⟨h1.ar,λt ht=>⟨by have:=h1.tl t ht;omega,λx hx=>?_⟩⟩,h1.inc⟩,h3⟩,λx hx=>?_⟩
 ·obtain⟨j,hj,rfl⟩:=List.mem_iff_getElem.1 hx
  exact h1.tv t ht j hj
 ·obtain⟨j,hj,rfl⟩:=List.mem_iff_getElem.1 hx
  exact h1.sv j hj
end
end T
open Go Go.Va
namespace T
def H8 (t:List Int) (s:List (List Int)):Option (List (List Int)×Bool):=Ch t s
theorem Hy (rec): ∀f x,Al rec f x=hM f x
 |0,_=>rfl
 |f+1,(a,b,c,d,e,g,x,y,z,u,v)=>by simp only[Al,hM,Hy rec f]
theorem Hx (rec): ∀f x,Ag rec f x=hL rec f x
 |0,_=>rfl
 |f+1,(a,b,c,d,e,g,x)=>by simp only[Ag,hL,Hx rec f,Hy]
theorem Ji: ∀d x,An d x=hF H8 d x
 |0,_=>rfl
 |d+1,(a,t,s,ps,g,u)=>by
  have e:An d=hF H8 d:=funext λx=>Ji d x
  simp only[An,hF,HF,Bg,Hx,e]
  split
  ·unfold H8;cases Ch t s<;>rfl
  ·congr 1;funext z;cases z<;>rfl
theorem Jl: ∀(l f:List (List Int)),(∀t∈l,t.length<=1000)->f.length<=300-> ∃s b,AF H8 l f=some (s,b)/\(f.length+l.length<=300->s=f++l)/\(300<f.length+l.length->300<s.length)
 | [],f,_,hf=>⟨f,true,rfl,λ_=>by simp,λh=>by simp at h;omega⟩
 |t::l,f,ht,hf=>by
  have hcl:B3 t=some t:=Hr (by have:=ht t (by simp);omega)
  have hcb:H8 t f=some (f++ [t],decide (((f++ [t]).length:Int)<=300)):=by
   unfold H8 Ch
   simp only[hcl,Option.bind_some]
   rw[if_pos (by rw[List.length_singleton];unfold lim;omega)]
  simp only[AF,hcb]
  by_cases hc:f.length+1<=300
  ·rw[decide_eq_true (by simp;omega)]
   obtain⟨s,b,h1,h2,h3⟩:=Jl l (f++ [t]) (λt ht'=>ht t (List.mem_cons_of_mem _ ht')) (by simp;omega)
   refine⟨s,b,h1,λh=>?_,λh=>h3 (by simp at h⊢;omega)⟩
   rw[h2 (by simp at h⊢;omega)];simp
  ·rw[decide_eq_false (by simp;omega)]
   refine⟨_,_,rfl,λh=>?_,λh=>?_⟩
   ·simp at h;omega
   ·show 300<(f++ [t]).length
    simp;omega
section
variable {V n k:Nat} {cs:List Con} {rels:List AX}
def H7 (l:List (List Int)):List (List Int)×Bool:=if l.length<=300 then(l,true)else([],false)
theorem IG (h:SrchOk V n cs):BJ ((V:Int),((n:Int),cs))=some (H7 (BH V n cs (List.replicate V (-1)))):=by
 have hV:=h.hv
 have e0:=Cj (IU h)
 rw[Et h]at e0
 have e1:=G6 h
 obtain⟨s,b,hfold,h2,h3⟩:=Jl (BH V n cs (List.replicate V (-1))) [] (λt ht=>by rw[GE ht];omega) (by simp)
 obtain⟨tab',_,_,_,h4⟩:=Kt h (given:=List.replicate V (-1)) (by simp) H8 V Aa 0 (List.replicate V 0) [] (by omega) (by unfold Aa;omega) (by simp) (λx hx=>by rw[List.eq_of_mem_replicate hx];omega) _ _ (by simpa[BH]using hfold)
 have h4:An Aa (0,List.replicate V 0,[],FZ V n cs,List.replicate V (-1),())=_:=(Ji Aa _).trans h4
 unfold BJ BF BA
 have hr:List.replicate (Int.toNat ((List.replicate V (-1:Int)).length:Int)) (0:Int)=List.replicate V 0:=by simp
 have hlim:0<=((List.replicate V (-1:Int)).length:Int)/\((List.replicate V (-1:Int)).length:Int)<=((List.replicate V (-1:Int)).length:Int)/\((List.replicate V (-1:Int)).length:Int)<=lim:=by rw[List.length_replicate];unfold lim;omega
 simp only[e0,e1,Gh (show V<=1000 by omega),Option.bind_some,Bool.not_true,Bool.false_eq_true,if_false,hr,h4]
 rw[if_pos hlim]
 simp only[Option.bind_some]
 unfold H7
 by_cases hc:(BH V n cs (List.replicate V (-1))).length<=300
 ·have:=h2 (by simpa using hc)
  rw[this,if_pos hc,if_neg (by simp;omega)];simp
 ·have:=h3 (by simp;omega)
  rw[if_pos (by simp;omega),if_neg hc]
theorem E6 {n k:Int} (h:GC rels) (hb:EE n rels k=true):A7 n rels k=some (Fa k.toNat (Yik n.toNat k.toNat rels (List.replicate (n.toNat^k.toNat) (-1)))):=by
 unfold A7
 rw[D1 h]
 obtain⟨hn,hk,h9,hR⟩:=Gy hb
 have hb':=hb
 unfold EE at hb'
 simp only[Bool.and_eq_true]at hb'
 obtain⟨⟨ht,hf⟩,hr⟩:=hb'
 obtain⟨p1,p2⟩:=IA hn hk
 obtain⟨q1,q2,q3⟩:=G4 hR (given:=List.replicate (n.toNat^k.toNat) (-1)) (by simp) h9
 rw[Int.toNat_of_nonneg (by omega),Int.toNat_of_nonneg (by omega)]at q1 q2
 rw[ht,hf]
 simp only[Option.bind_some,Bool.and_self,Bool.not_true,Bool.false_eq_true,if_false,DE (k:=k) hn,hr.1,hr.2,p1,Gh (show n.toNat^k.toNat<=1000 by omega),q1]
theorem HQ {a b:List Int} (h:a.length<=1048576):Ev a b=some (decide (a=b)):=by
 unfold Ev
 by_cases h2:a.length=b.length
 ·rw[if_neg (by simp[h2])]
  have:=KF a.length (λn (_:Unit) i=>CK n (a,b,i)) (λ_=>()) (λk=>decide (a.getD k 0=b.getD k 0)) (r:=some (.inr false)) (e:=some (.inl ())) (λf k hk=>?_) (λf=>?_) (n:=Aa) (by unfold Aa;omega)
  ·rw[Im 0 h2]at this
   have this:CK Aa (a,b,0)=_:=this
   rw[this]
   by_cases e:a=b
   ·subst e;simp
   ·simp[e]
  ·simp only[CK,Ae,hk,Aj hk,h2▸hk,Aj (h2▸hk),if_true,Ai hk,Ai (h2▸hk:k<b.length),Ac (show k<4611686018427387904 by omega)]
   rw[if_pos (by simp;omega)]
   by_cases e:a[k]=b[k]<;>simp[e]
  ·simp only[CK]
   rw[if_neg (by simp)]
 ·rw[if_pos (by simpa using λh=>h2 (by omega))]
  rw[decide_eq_false λh=>h2 (by rw[h])]
theorem G9 {a b:List (List Int)} (h:a.length<=1048576) (ht: ∀t∈a,t.length<=1048576):Eb a b=some (decide (a=b)):=by
 unfold Eb
 by_cases h2:a.length=b.length
 ·rw[if_neg (by simp[h2])]
  have:=KF a.length (λn (_:Unit) i=>Cu n (a,b,i)) (λ_=>()) (λk=>decide (a.getD k []=b.getD k [])) (r:=some (.inr false)) (e:=some (.inl ())) (λf k hk=>?_) (λf=>?_) (n:=Aa) (by unfold Aa;omega)
  ·rw[Im [] h2]at this
   have this:Cu Aa (a,b,0)=_:=this
   rw[this]
   by_cases e:a=b
   ·subst e;simp
   ·simp[e]
  ·have e:=HQ (a:=a[k]) (b:=b[k]) (ht _ (List.getElem_mem hk))
   simp only[Cu,Ae,hk,Aj hk,h2▸hk,Aj (h2▸hk),e,Option.bind_some,if_true,Ai hk,Ai (h2▸hk:k<b.length),Ac (show k<4611686018427387904 by omega)]
   rw[if_pos (by simp;omega)]
   by_cases e:a[k]=b[k]<;>simp[e]
  ·simp only[Cu]
   rw[if_neg (by simp)]
 ·rw[if_pos (by simpa using λh=>h2 (by omega))]
  rw[decide_eq_false λh=>h2 (by rw[h])]
end
end T
open Go Go.Va
namespace T
section
variable {n k m:Nat} {r:AX} {rels:List AX} {given t:List Int}
def IX (n k:Nat) (rels:List AX) (t:List Int):Bool:=rels.all λr=>kB n k r.1.toNat ((k:Int),t) r
theorem Km {i:Nat}:KV n ((k:Int),t) r.2 r.1.toNat (dg r.2.length k i)=(cI (PL n k r i)).map (Bq t):=by
 unfold KV PL cI
 rw[List.map_map,List.map_map]
 rfl
theorem HO:IX n k rels t=true↔ ∀r∈rels,∀i,i<r.2.length^k->(cI (PL n k r i)).map (Bq t)∈r.2:=by
 unfold IX kB
 simp only[List.all_eq_true,List.mem_range,decide_eq_true_eq,Km]
theorem F7 {ok:List Int->Bool}: ∀(m:Nat) (pre t:List Int),t∈Cq n given ok m pre↔t.length=pre.length+m/\t.take pre.length=pre/\
  ∀q,pre.length<=q->q<t.length->(0<=t.getD q 0/\t.getD q 0<(n:Int))/\C4 given q (t.getD q 0).toNat=true/\ok (t.take (q+1))=true
 |0,pre,t=>by
  simp only[Cq,List.mem_singleton,Nat.add_zero]
  constructor
  ·rintro rfl
   exact⟨rfl,by simp,λq h1 h2=>by omega⟩
  ·rintro ⟨h1,h2,_⟩
   rw[←h2,List.take_of_length_le (by omega)]
 |m+1,pre,t=>by
  simp only[Cq,List.mem_flatMap,List.mem_range]
  constructor
  ·rintro ⟨x,hx,h⟩
   by_cases hc:(C4 given pre.length x&&ok (pre++ [(x:Int)]))=true
   ·rw[if_pos hc]at h
    obtain⟨h1,h2,h3⟩:=(F7 m (pre++ [(x:Int)]) t).1 h
    rw[Bool.and_eq_true]at hc
    rw[List.length_append,List.length_singleton]at h1 h2 h3
    have hv:t.getD pre.length 0=(x:Int):=by
     have hl:pre.length<t.length:=by omega
     have e:(t.take (pre.length+1)).getD pre.length 0=t.getD pre.length 0:=by simp[List.getD_eq_getElem?_getD,List.getElem?_take]
     rw[←e,h2];simp[List.getD_eq_getElem?_getD]
    refine⟨by omega,?_,λq h4 h5=>?_⟩
    ·have:(t.take (pre.length+1)).take pre.length=pre:=by rw[h2];simp
     rw[List.take_take]at this
     rwa [Nat.min_eq_left (by omega)]at this
    ·by_cases e:q=pre.length
     ·subst e
      rw[hv,h2]
      exact⟨by omega,by rw[Int.toNat_natCast];exact hc.1,hc.2⟩
     ·exact h3 q (by omega) h5
   ·rw[if_neg hc]at h;simp at h
  ·rintro ⟨h1,h2,h3⟩
   have hl:pre.length<t.length:=by omega
   obtain⟨a1,a2,a3⟩:=h3 pre.length (Nat.le_refl _) hl
   have hx:(((t.getD pre.length 0).toNat:Nat):Int)=t.getD pre.length 0:=Int.toNat_of_nonneg a1.1
   have ht:t.take (pre.length+1)=pre++ [(((t.getD pre.length 0).toNat:Nat):Int)]:=by
    rw[hx,List.take_succ_eq_append_getElem hl,h2,Ai hl]
   refine⟨(t.getD pre.length 0).toNat,by omega,?_⟩
   rw[if_pos (by rw[Bool.and_eq_true];exact⟨a2,by rw[←ht];exact a3⟩)]
   refine(F7 m _ t).2 ⟨by simp;omega,by rw[List.length_append,List.length_singleton];exact ht,λq h4 h5=>h3 q (by rw[List.length_append,List.length_singleton]at h4;omega) h5⟩
theorem Ja (h:RelsOk n k rels):t∈Yik n k rels given↔t.length=n^k/\(∀x∈t,0<=x/\x<(n:Int))/\(∀q,q<n^k->C4 given q (t.getD q 0).toNat=true)/\IX n k rels t=true:=by
 unfold Yik
 rw[F7,HO]
 simp only[List.length_nil,Nat.zero_add,List.take_zero,true_and,Nat.zero_le,true_implies]
 have hok: ∀q,q<t.length->(okB n k rels (t.take (q+1))=true↔FH n k rels q t=true):=λq hq=>by
  unfold okB
  rw[List.length_take,Nat.min_eq_left (by omega),Nat.add_sub_cancel,G5]
 constructor
 ·rintro ⟨h1,h3⟩
  refine⟨h1,λx hx=>?_,λq hq=>(h3 q (by omega)).2.1,λr hr i hi=>?_⟩
  ·obtain⟨j,hj,rfl⟩:=List.mem_iff_getElem.1 hx
   have:=(h3 j hj).1
   rwa [Ai hj]at this
  ·have hlt:=Hl (h.ok r hr) h.hn h.hk.1 hi
   have hm:=(hok _ (by omega)).1 (h3 _ (show Bn (PL n k r i)<t.length by omega)).2.2
   unfold FH at hm
   simp only[List.all_eq_true,List.mem_range,Bool.or_eq_true,Bool.not_eq_true',decide_eq_false_iff_not,decide_eq_true_eq]at hm
   exact(hm r hr i hi).resolve_left λhne=>hne rfl
 ·rintro ⟨h1,h2,h3,h4⟩
  refine⟨h1,λq hq=>⟨?_,h3 q (by omega),(hok q hq).2 ?_⟩⟩
  ·rw[Ai hq];exact h2 _ (List.getElem_mem hq)
  ·unfold FH
   simp only[List.all_eq_true,List.mem_range,Bool.or_eq_true,Bool.not_eq_true',decide_eq_false_iff_not,decide_eq_true_eq]
   exact λr hr i hi=> .inr (h4 r hr i hi)
theorem Jz {N q x:Nat} (hq:q<N):C4 (List.replicate N (-1)) q x=true:=by
 unfold C4
 rw[Ai (by simpa using hq)];simp
theorem JZ {b:Nat}: ∀(k:Nat) (ys:List Nat),ys.length=k->(∀y∈ys,y<b)-> ∃i,i<b^k/\dg b k i=ys:=by
 intro k
 induction k with
 |zero=>intro ys hl _;exact⟨0,by simp,by rw[List.eq_nil_of_length_eq_zero hl];rfl⟩
 |succ k ih=>
  intro ys hl hy
  obtain⟨z,y,rfl⟩: ∃z y,ys=z++ [y]:=⟨ys.dropLast,ys.getLast (by intro e;rw[e]at hl;simp at hl),(List.dropLast_concat_getLast _).symm⟩
  have hyb:=hy y (by simp)
  obtain⟨i,h1,h2⟩:=ih z (by simpa using hl) λx hx=>hy x (by simp[hx])
  refine⟨i*b+y,?_,?_⟩
  ·rw[Nat.pow_succ]
   calc i*b+y<i*b+b:=by omega
    _=(i+1)*b:=by rw[Nat.succ_mul]
    _<=b^k*b:=Nat.mul_le_mul_right _ h1
  ·simp only[dg]
   have e1:(i*b+y)/b=i:=by rw[Nat.mul_comm,Nat.mul_add_div (by omega),Nat.div_eq_of_lt hyb];omega
   have e2:(i*b+y)%b=y:=by rw[Nat.mul_comm,Nat.mul_add_mod,Nat.mod_eq_of_lt hyb]
   rw[e1,e2,h2]
theorem Ky {i j:Nat} (hj:j<r.1.toNat):((cI (PL n k r i)).map (Bq t)).getD j 0=t.getD (atF n r.2 j (dg r.2.length k i)) 0:=by
 unfold PL cI
 rw[Ai (by simpa using hj)]
 simp[Bq]
theorem Ke (h:ROk n m r) (hk:IX n k [r] t=true) {ys:List Nat} (hl:ys.length=k) (hy: ∀y∈ys,y<r.2.length):
  ∃z,z<r.2.length/\ ∀j,j<m->t.getD (atF n r.2 j ys) 0=(r.2.getD z []).getD j 0:=by
 obtain⟨i,h1,h2⟩:=JZ (b:=r.2.length) k ys hl hy
 have hm:=HO.1 hk r (by simp) i h1
 obtain⟨z,hz,e⟩:=List.mem_iff_getElem.1 hm
 refine⟨z,hz,λj hj=>?_⟩
 rw[Ai hz,e,←h2,Ky (by have:=h.ar;omega)]
end
end T
open Go Go.Va
namespace T
section
variable {n k:Nat} {t f:List Int} {inner:List (List Int)}
end
theorem KR {a b:Opn} (h:a.2.length<=1048576):Gq a b=some (decide (a=b)):=by
 obtain⟨a1,a2⟩:=a
 obtain⟨b1,b2⟩:=b
 dsimp only at h
 unfold Gq
 dsimp only
 by_cases e:a1=b1
 ·subst e
  rw[if_pos (by simp),HQ h]
  by_cases e':a2=b2
  ·subst e';simp
  ·simp[e']
 ·rw[if_neg (by simpa using e)]
  simp[e]
theorem IZ {l:List Opn} (hl:l.length<=1000) (h: ∀f∈l,f.2.length<=1000):FG l l=some true:=by
 unfold FG
 rw[if_neg (by simp)]
 have:=CD l.length (λf (_:Unit) i=>C3 f (l,l,i)) (λ_=>()) (r:=some (.inl ())) (λf i hi=>?_) (λf=>?_) (n:=Aa) (by unfold Aa;omega)
 ·have this:C3 Aa (l,l,0)=_:=this
  rw[this];rfl
 ·have e:=KR (a:=l[i]) (b:=l[i]) (by have:=h _ (List.getElem_mem hi);omega)
  simp only[C3,Ae,hi,Aj hi,e,Option.bind_some,if_true,decide_true,Bool.not_true,Bool.false_eq_true,if_false,Ac (show i<4611686018427387904 by omega)]
  rw[if_pos (by simp;omega)]
 ·simp only[C3]
  rw[if_neg (by simp)]
end T
open Go Go.Va
namespace T
section
variable {n k:Nat} {rels:List AX} {t:List Int} {Lt:List (List Int)}
end
theorem E5 {n k:Int} {rels:List AX} (h:GC rels) (hb:EE n rels k=false):A7 n rels k=some ([],false):=by
 unfold A7
 rw[D1 h]
 cases hc:E3 n rels&&HC k rels with
 |false=>simp
 |true=>
  unfold EE at hb
  rw[hc,Bool.true_and]at hb
  rw[Bool.and_eq_true]at hc
  simp only[Option.bind_some,Bool.not_true,Bool.false_eq_true,if_false,DE (k:=k) (Fw hc.1).1,hb]
  rfl
end T
open Go Go.Va
namespace T
section
variable {n:Nat} {t:List Int}
def JU (n:Nat) (t:List Int) (x y:Nat):Nat:=(t.getD (x*n+y) 0).toNat
structure TabOk (n:Nat) (t:List Int):Prop where
 hn:1<=n/\n<=4
 len:t.length=n*n
 val: ∀x∈t,0<=x/\x<(n:Int)
theorem ix2 (hn:n<=4) {x y:Nat} (hx:x<n) (hy:y<n):w64 (w64 ((x:Int)*(n:Int))+(y:Int))=((x*n+y:Nat):Int)/\x*n+y<n*n:=by
 have h1:x*n+y<n*n:=by
  calc x*n+y<x*n+n:=by omega
   _=(x+1)*n:=by rw[Nat.succ_mul]
   _<=n*n:=Nat.mul_le_mul_right _ hx
 have h2:n*n<=4*4:=Nat.mul_le_mul hn hn
 have e:(x:Int)*(n:Int)=((x*n:Nat):Int):=by simp
 have a1:w64 ((x*n:Nat):Int)=((x*n:Nat):Int):=AE (by omega) (by omega)
 rw[e,a1,AE (by omega) (by omega)]
 exact⟨by omega,h1⟩
theorem TabOk.at (h:TabOk n t) {x y:Nat} (hx:x<n) (hy:y<n):w64 (w64 ((x:Int)*(n:Int))+(y:Int))=((x*n+y:Nat):Int)/\inb ((x*n+y:Nat):Int) t/\gd t ((x*n+y:Nat):Int) 0=((JU n t x y:Nat):Int)/\JU n t x y<n:=by
 obtain⟨h1,h2⟩:=ix2 h.hn.2 hx hy
 have hl:x*n+y<t.length:=by rw[h.len];exact h2
 have hv:=h.val _ (List.getElem_mem hl)
 refine⟨h1,by rw[Ae];exact hl,?_,?_⟩
 ·rw[Aj hl];unfold JU;rw[Ai hl];omega
 ·unfold JU;rw[Ai hl];omega
end
end T
set_option linter.unusedVariables false
open Go Go.Va
namespace T
def Aw:Nat->(((List Int)×Int×Int)×(Int×(Int×(List ((List Int)×Int×(List (List Int))))))×Int×(List (Int×(List (List Int))))×(Int×(Int×(List ((List Int)×Int×(List (List Int))))))×Int×(Int×(List (List Int)))×((List Int)×(Int×(List (List Int))))×Int)->Option (((List Int)×Int×Int)×(Int×(Int×(List ((List Int)×Int×(List (List Int))))))×Int×(List (Int×(List (List Int))))×(Int×(Int×(List ((List Int)×Int×(List (List Int))))))×Int×((List Int)×(Int×(List (List Int)))))
 |0,_=>none
 |n+1,(t0,t2,t3,t4,t5,t6,t7,t8,t9)=>
 if decide (t9<t7.1)then
 if decide (t9<4)then
 (Cl t5.1 1).bind λr9=>
 (Ad (t0.1,(t0.2.1,t0.2.2)) r9).bind λr10=>
 if t8.1.length+ [r10.2].length<=lim then
 Aw n ((r10.1.1,(r10.1.2.1,r10.1.2.2)),(t2.1,(t2.2.1,t2.2.2)),t3,t4,(t5.1,(t5.2.1,t5.2.2)),t6,(t7.1,t7.2),(t8.1++ [r10.2],(t8.2.1,t8.2.2)),w64 (t9+1))
 else none
 else
 some ((t0.1,(t0.2.1,t0.2.2)),(t2.1,(t2.2.1,t2.2.2)),t3,t4,(t5.1,(t5.2.1,t5.2.2)),t6,(t8.1,(t8.2.1,t8.2.2)))
 else
 some ((t0.1,(t0.2.1,t0.2.2)),(t2.1,(t2.2.1,t2.2.2)),t3,t4,(t5.1,(t5.2.1,t5.2.2)),t6,(t8.1,(t8.2.1,t8.2.2)))
def AA:Nat->(((List Int)×Int×Int)×(Int×(Int×(List ((List Int)×Int×(List (List Int))))))×Int×(List (Int×(List (List Int))))×(Int×(Int×(List ((List Int)×Int×(List (List Int))))))×Int)->Option (((List Int)×Int×Int)×(Int×(Int×(List ((List Int)×Int×(List (List Int))))))×(Int×(Int×(List ((List Int)×Int×(List (List Int)))))))
 |0,_=>none
 |n+1,(t0,t2,t3,t4,t5,t6)=>
 if decide (t6>0)then
 (Cl t3 1).bind λr4=>
 (Ab (t0.1,(t0.2.1,t0.2.2)) [1,2,2,3]).bind λr5=>
 (Bw (r5.1.1,(r5.1.2.1,r5.1.2.2)) r4 r5.2).bind λr6=>
 if decide ((t4.length:Int)>0)then
 (Az (r6.1.1,(r6.1.2.1,r6.1.2.2)) 5).bind λr7=>
 if !r7.2 then
 (Ad (r7.1.1,(r7.1.2.1,r7.1.2.2)) (t4.length:Int)).bind λr8=>
 if inb r8.2 t4 then
 (Aw Aa ((r8.1.1,(r8.1.2.1,r8.1.2.2)),(t2.1,(t2.2.1,t2.2.2)),t3,t4,(t5.1,(t5.2.1,t5.2.2)),t6,((gd t4 r8.2 (0,[])).1,(gd t4 r8.2 (0,[])).2),([],((gd t4 r8.2 (0,[])).1,(gd t4 r8.2 (0,[])).2)),0)).bind λs9=>
 if s9.2.2.2.2.1.2.2.length+ [(s9.2.2.2.2.2.2.1,(s9.2.2.2.2.2.2.2.1,s9.2.2.2.2.2.2.2.2))].length<=lim then
 AA n ((s9.1.1,(s9.1.2.1,s9.1.2.2)),(s9.2.1.1,(s9.2.1.2.1,s9.2.1.2.2)),s9.2.2.1,s9.2.2.2.1,(s9.2.2.2.2.1.1,(s9.2.2.2.2.1.2.1,s9.2.2.2.2.1.2.2++ [(s9.2.2.2.2.2.2.1,(s9.2.2.2.2.2.2.2.1,s9.2.2.2.2.2.2.2.2))])),w64 (s9.2.2.2.2.2.1-1))
 else none
 else none
 else
 (Aw Aa ((r7.1.1,(r7.1.2.1,r7.1.2.2)),(t2.1,(t2.2.1,t2.2.2)),t3,t4,(t5.1,(t5.2.1,t5.2.2)),t6,(r6.2.1,r6.2.2),([],(r6.2.1,r6.2.2)),0)).bind λs10=>
 if s10.2.2.2.2.1.2.2.length+ [(s10.2.2.2.2.2.2.1,(s10.2.2.2.2.2.2.2.1,s10.2.2.2.2.2.2.2.2))].length<=lim then
 AA n ((s10.1.1,(s10.1.2.1,s10.1.2.2)),(s10.2.1.1,(s10.2.1.2.1,s10.2.1.2.2)),s10.2.2.1,s10.2.2.2.1,(s10.2.2.2.2.1.1,(s10.2.2.2.2.1.2.1,s10.2.2.2.2.1.2.2++ [(s10.2.2.2.2.2.2.1,(s10.2.2.2.2.2.2.2.1,s10.2.2.2.2.2.2.2.2))])),w64 (s10.2.2.2.2.2.1-1))
 else none
 else
 (Aw Aa ((r6.1.1,(r6.1.2.1,r6.1.2.2)),(t2.1,(t2.2.1,t2.2.2)),t3,t4,(t5.1,(t5.2.1,t5.2.2)),t6,(r6.2.1,r6.2.2),([],(r6.2.1,r6.2.2)),0)).bind λs11=>
 if s11.2.2.2.2.1.2.2.length+ [(s11.2.2.2.2.2.2.1,(s11.2.2.2.2.2.2.2.1,s11.2.2.2.2.2.2.2.2))].length<=lim then
 AA n ((s11.1.1,(s11.1.2.1,s11.1.2.2)),(s11.2.1.1,(s11.2.1.2.1,s11.2.1.2.2)),s11.2.2.1,s11.2.2.2.1,(s11.2.2.2.2.1.1,(s11.2.2.2.2.1.2.1,s11.2.2.2.2.1.2.2++ [(s11.2.2.2.2.2.2.1,(s11.2.2.2.2.2.2.2.1,s11.2.2.2.2.2.2.2.2))])),w64 (s11.2.2.2.2.2.1-1))
 else none
 else
 some ((t0.1,(t0.2.1,t0.2.2)),(t2.1,(t2.2.1,t2.2.2)),(t5.1,(t5.2.1,t5.2.2)))
def Bd:Nat->(((List Int)×Int×Int)×(Int×(Int×(List ((List Int)×Int×(List (List Int))))))×(Int×(Int×(List ((List Int)×Int×(List (List Int))))))×Int)->Option (((List Int)×Int×Int)×(Int×(Int×(List ((List Int)×Int×(List (List Int))))))×(Int×(Int×(List ((List Int)×Int×(List (List Int)))))))
 |0,_=>none
 |n+1,(t0,t2,t5,t10)=>
 if decide ((t5.2.2.length:Int)>0)then
 if decide ((t5.2.2.length:Int)<t10)then
 if inb 0 t5.2.2 then
 if t5.2.2.length+ [((gd t5.2.2 0 ([],(0,[]))).1,(((gd t5.2.2 0 ([],(0,[]))).2).1,((gd t5.2.2 0 ([],(0,[]))).2).2))].length<=lim then
 Bd n ((t0.1,(t0.2.1,t0.2.2)),(t2.1,(t2.2.1,t2.2.2)),(t5.1,(t5.2.1,t5.2.2++ [((gd t5.2.2 0 ([],(0,[]))).1,(((gd t5.2.2 0 ([],(0,[]))).2).1,((gd t5.2.2 0 ([],(0,[]))).2).2))])),t10)
 else none
 else none
 else
 some ((t0.1,(t0.2.1,t0.2.2)),(t2.1,(t2.2.1,t2.2.2)),(t5.1,(t5.2.1,t5.2.2)))
 else
 some ((t0.1,(t0.2.1,t0.2.2)),(t2.1,(t2.2.1,t2.2.2)),(t5.1,(t5.2.1,t5.2.2)))
def CC (t0:(List Int)×Int×Int):Option (((List Int)×Int×Int)×(Int×Int×(List ((List Int)×Int×(List (List Int)))))):=
 (Cp (t0.1,(t0.2.1,t0.2.2))).bind λr1=>
 (Ab (r1.1.1,(r1.1.2.1,r1.1.2.2)) [1,2,3,3,4,4,5,6]).bind λr2=>
 (Ab (r2.1.1,(r2.1.2.1,r2.1.2.2)) [0,1,2,3,4,5,6,8]).bind λr3=>
 (AA Aa ((r3.1.1,(r3.1.2.1,r3.1.2.2)),(0,(0,[])),r1.2.1,r1.2.2,(r2.2,(r1.2.1,[])),r3.2)).bind λs4=>
 (Ad (s4.1.1,(s4.1.2.1,s4.1.2.2)) 40).bind λr5=>
 if r5.2==0 then
 (Ab (r5.1.1,(r5.1.2.1,r5.1.2.2)) [(-1),0,9,10]).bind λr6=>
 some ((r6.1.1,(r6.1.2.1,r6.1.2.2)),(r6.2,(s4.2.2.2.1,s4.2.2.2.2)))
 else
 if r5.2==1 then
 if decide ((s4.2.2.2.2.length:Int)>0)then
 if inb 0 s4.2.2.2.2 then
 if((gd s4.2.2.2.2 0 ([],(0,[]))).1).length+ [0].length<=lim then
 if inb 0 s4.2.2.2.2 then
 if 0=0 then
 some ((r5.1.1,(r5.1.2.1,r5.1.2.2)),(s4.2.2.1,(s4.2.2.2.1,stt s4.2.2.2.2 0 (((gd s4.2.2.2.2 0 ([],(0,[]))).1)++ [0],(gd s4.2.2.2.2 0 ([],(0,[]))).2))))
 else none
 else none
 else none
 else none
 else
 some ((r5.1.1,(r5.1.2.1,r5.1.2.2)),(s4.2.2.1,(s4.2.2.2.1,s4.2.2.2.2)))
 else
 if r5.2==2 then
 (Ad (r5.1.1,(r5.1.2.1,r5.1.2.2)) 2).bind λr7=>
 (Bd Aa ((r7.1.1,(r7.1.2.1,r7.1.2.2)),(s4.2.1.1,(s4.2.1.2.1,s4.2.1.2.2)),(s4.2.2.1,(s4.2.2.2.1,s4.2.2.2.2)),w64 (40+r7.2))).bind λs8=>
 some ((s8.1.1,(s8.1.2.1,s8.1.2.2)),(s8.2.2.1,(s8.2.2.2.1,s8.2.2.2.2)))
 else
 some ((r5.1.1,(r5.1.2.1,r5.1.2.2)),(s4.2.2.1,(s4.2.2.2.1,s4.2.2.2.2)))
def D5 (code:List Int):Option ((Int×Int×(List ((List Int)×Int×(List (List Int)))))):=
 (CC (code,(0,0))).bind λr1=>
 some (r1.2.1,(r1.2.2.1,r1.2.2.2))
def Ck (net:Int×Int×(List ((List Int)×Int×(List (List Int))))) (values:List Int):Option (Bool):=
 if(values.length:Int)==net.1 then
 (Dk values net.2.1).bind λr1=>
 some r1
 else
 some false
def Dz (net:Int×Int×(List ((List Int)×Int×(List (List Int))))) (values:List Int):Option (Int×Bool):=
 (B2 (net.1,(net.2.1,net.2.2))).bind λr1=>
 if !r1 then
 some (0,false)
 else
 (Ck (net.1,(net.2.1,net.2.2)) values).bind λr2=>
 if !r2 then
 some (0,false)
 else
 (C2 (net.1,(net.2.1,net.2.2)) values).bind λr3=>
 if decide (r3<0)then
 some (0,false)
 else
 some (r3,true)
def Cw (net:Int×Int×(List ((List Int)×Int×(List (List Int))))) (values:List Int):Option (Bool):=
 if(values.length:Int)==net.1 then
 (CI net.2.1 values).bind λr1=>
 some r1
 else
 some false
def DA (net:Int×Int×(List ((List Int)×Int×(List (List Int))))) (values:List Int):Option (Int×Bool):=
 (C6 (net.1,(net.2.1,net.2.2))).bind λr1=>
 if !r1 then
 some (0,false)
 else
 (Cw (net.1,(net.2.1,net.2.2)) values).bind λr2=>
 if !r2 then
 some (0,false)
 else
 (DI (net.1,(net.2.1,net.2.2)) values).bind λr3=>
 if decide (r3<0)then
 some (0,false)
 else
 some (r3,true)
def Bx (net:Int×Int×(List ((List Int)×Int×(List (List Int))))) (values:List Int):Option (Bool×Bool):=
 (B2 (net.1,(net.2.1,net.2.2))).bind λr1=>
 if !r1 then
 some (false,false)
 else
 (Ck (net.1,(net.2.1,net.2.2)) values).bind λr2=>
 if !r2 then
 some (false,false)
 else
 (C2 (net.1,(net.2.1,net.2.2)) values).bind λr3=>
 some (decide (r3<0),true)
def EF (net:Int×Int×(List ((List Int)×Int×(List (List Int))))) (values:List Int):Option (Bool×Bool):=
 (C6 (net.1,(net.2.1,net.2.2))).bind λr1=>
 if !r1 then
 some (false,false)
 else
 (Cw (net.1,(net.2.1,net.2.2)) values).bind λr2=>
 if !r2 then
 some (false,false)
 else
 (DI (net.1,(net.2.1,net.2.2)) values).bind λr3=>
 some (decide (r3<0),true)
end T
open Go Go.Va
namespace T
theorem Ku (a:Int): ∃m,Cl a 1=some m/\1<=m/\a<=m/\(m<=a∨m<=1):=by
 unfold Cl
 by_cases h:a>1
 ·exact⟨a,by rw[if_pos (by simpa using h)],by omega,by omega,by omega⟩
 ·exact⟨1,by rw[if_neg (by simpa using h)],by omega,by omega,by omega⟩
def conD (W:Nat) (c:Con):Prop:=c.1.length<=W/\rowsB 601 3 c.2.2
theorem conD.mono {W W':Nat} {c:Con} (h:W<=W'):conD W c->conD W' c:=λ⟨a,b⟩=>⟨by omega,b⟩
def HN (a:Net):Prop:= -1<=a.1/\a.1<=10/\0<=a.2.1/\a.2.1<=5/\a.2.2.length<=41/\ ∀c∈a.2.2,conD 5 c
theorem JA {a:Net} (h:HN a):FY a:=⟨by have:=h.2.2.2.2.1;omega,λc hc=>by
 have h1:=h.2.2.2.2.2 c hc
 exact⟨by have:=h1.1;omega,by have:=h1.2.1;omega,λr hr=>by have:=h1.2.2 r hr;omega⟩⟩
theorem Kb {V:Int} (hV:V<=100) (t2:Net) (t3:Int) (t4:List AX) (n5:Int) (cs:List Con) (t6:Int) (t7 rl:Int×List (List Int)): ∀(d f k x:Nat) (c:Dy) (s:List Int),x+d=4->d<f->Cur k c->k+2*d<=1000000->s.length=x->
  ∃c' s',Aw f (c,t2,t3,t4,(V,(n5,cs)),t6,t7,(s,rl),(x:Int))=some (c',t2,t3,t4,(V,(n5,cs)),t6,(s',rl))/\Cur (k+2*d) c'/\s'.length<=4:=by
 intro d
 induction d with
 |zero=>
  intro f k x c s hx hf hc hk hs
  obtain⟨f,rfl⟩: ∃z,f=z+1:=⟨f-1,by omega⟩
  refine⟨c,s,?_,hc,by omega⟩
  simp only[Aw]
  rw[if_neg (show¬decide ((x:Int)<4)=true by simp;omega)]
  simp
 |succ d ih=>
  intro f k x c s hx hf hc hk hs
  obtain⟨f,rfl⟩: ∃z,f=z+1:=⟨f-1,by omega⟩
  simp only[Aw]
  by_cases h:(x:Int)<t7.1
  ·obtain⟨m,e1,m1,m2,m3⟩:=Ku V
   obtain⟨c1,y,e2,g2,_⟩:=Dd hc (by omega) m (by omega)
   have e2:Ad (c.1,(c.2.1,c.2.2)) m=_:=e2
   obtain⟨c',s',e3,g3,h3⟩:=ih f (k+2) (x+1) c1 (s++ [y]) (by omega) (by omega) g2 (by omega) (by simp;omega)
   refine⟨c',s',?_,g3.mono (by omega),h3⟩
   rw[if_pos (by simpa using h),if_pos (by simp;omega)]
   simp only[e1,Option.bind_some,e2]
   rw[if_pos (by rw[List.length_singleton];unfold lim;omega),Ac (by omega)]
   exact e3
  ·exact⟨c,s,by rw[if_neg (by simpa using h)],hc.mono (by omega),by omega⟩
theorem KK {n V:Int} (hn:n<=100) (hV:V<=100) {rels:List AX} (hr:HU rels) (t2:Net) (n5:Int): ∀(d f k:Nat) (c:Dy) (cs:List Con),d<f->Cur k c->k+300*d<=90000->cs.length+d<=8->(∀c∈cs,conD 4 c)->
  ∃c' cs',AA f (c,t2,n,rels,(V,(n5,cs)),(d:Int))=some (c',t2,(V,(n5,cs')))/\Cur (k+300*d) c'/\cs'.length<=8/\ ∀c∈cs',conD 4 c:=by
 intro d
 induction d with
 |zero=>
  intro f k c cs hf hc hk ho hr
  obtain⟨f,rfl⟩: ∃z,f=z+1:=⟨f-1,by omega⟩
  refine⟨c,cs,?_,hc,by omega,hr⟩
  simp only[AA]
  rw[if_neg (by simp)]
 |succ d ih=>
  intro f k c cs hf hc hk ho hcs
  obtain⟨f,rfl⟩: ∃z,f=z+1:=⟨f-1,by omega⟩
  have ew:w64 (((d+1:Nat):Int)-1)=(d:Int):=by rw[AE (by omega) (by omega)];omega
  obtain⟨m,e0,m1,m2,m3⟩:=Ku n
  obtain⟨c1,x1,e1,g1,_⟩:=C8 hc (by omega) (l:= [1,2,2,3]) (by simp) (by simp)
  have e1:Ab (c.1,(c.2.1,c.2.2)) [1,2,2,3]=_:=e1
  obtain⟨c2,r,e2,g2,h2⟩:=FW (N:=m) (A:=x1) g1 (by omega) (by omega)
  have e2:Bw (c1.1,(c1.2.1,c1.2.2)) m x1=_:=e2
  have hfin: ∀(k':Nat) (c3:Dy) (r:Int×List (List Int)),Cur k' c3->k'<=k+290->rowsB 601 3 r.2->
    ∃c' cs',((Aw Aa (c3,t2,n,rels,(V,(n5,cs)),((d+1:Nat):Int),r,([],r),0)).bind λs10=>
     if s10.2.2.2.2.1.2.2.length+ [(s10.2.2.2.2.2.2.1,(s10.2.2.2.2.2.2.2.1,s10.2.2.2.2.2.2.2.2))].length<=lim then
      AA f ((s10.1.1,(s10.1.2.1,s10.1.2.2)),(s10.2.1.1,(s10.2.1.2.1,s10.2.1.2.2)),s10.2.2.1,s10.2.2.2.1,(s10.2.2.2.2.1.1,(s10.2.2.2.2.1.2.1,s10.2.2.2.2.1.2.2++ [(s10.2.2.2.2.2.2.1,(s10.2.2.2.2.2.2.2.1,s10.2.2.2.2.2.2.2.2))])),w64 (s10.2.2.2.2.2.1-1))
     else none)=some (c',t2,(V,(n5,cs')))/\Cur (k+300*(d+1)) c'/\cs'.length<=8/\ ∀c∈cs',conD 4 c:=by
   intro k' c3 r hc3 hk' hr3
   obtain⟨c4,s,e4,g4,h4⟩:=Kb hV t2 n rels n5 cs ((d+1:Nat):Int) r r 4 Aa k' 0 c3 [] (by omega) (by unfold Aa;omega) hc3 (by omega) rfl
   have e4:Aw Aa (c3,t2,n,rels,(V,(n5,cs)),((d+1:Nat):Int),r,([],r),0)=_:=e4
   obtain⟨c',cs',e5,g5,h5,h6⟩:=ih f (k'+8) c4 (cs++ [(s,r)]) (by omega) g4 (by omega) (by simp;omega) (λq hq=>by
    rcases List.mem_append.1 hq with hq|hq
    ·exact hcs q hq
    ·rw[List.mem_singleton.1 hq];exact⟨h4,hr3⟩)
   refine⟨c',cs',?_,g5.mono (by omega),h5,h6⟩
   rw[e4]
   simp only[Option.bind_some]
   rw[if_pos (by rw[List.length_singleton];unfold lim;omega)]
   simp only[ew]
   exact e5
  simp only[AA,e0,e1,e2,Option.bind_some]
  rw[if_pos (show decide ((((d+1:Nat):Int))>0)=true by simp)]
  by_cases hl:0<rels.length
  ·rw[if_pos (show decide ((rels.length:Int)>0)=true by simp;omega)]
   obtain⟨c3,x3,e3,g3⟩:=Gw g2 (by omega) 5 (by omega)
   have e3:Az (c2.1,(c2.2.1,c2.2.2)) 5=_:=e3
   simp only[e3,Option.bind_some]
   cases x3 with
   |true=>
    simp only[Bool.not_true,Bool.false_eq_true,if_false]
    exact hfin _ _ r g3 (by omega) h2
   |false=>
    simp only[Bool.not_false,if_true]
    have hrl:=hr.1
    obtain⟨c4,x4,e4,g4,h40,h41,_⟩:=Dd g3 (by omega) (rels.length:Int) (by omega)
    have e4:Ad (c3.1,(c3.2.1,c3.2.2)) (rels.length:Int)=_:=e4
    obtain⟨x,rfl⟩: ∃x:Nat,x4=(x:Int):=⟨x4.toNat,by omega⟩
    have hx:x<rels.length:=by have:=h41 (by omega);omega
    simp only[e4,Option.bind_some,Ae,hx,if_true,Aj hx]
    exact hfin _ _ rels[x] g4 (by omega) (hr.2 _ (List.getElem_mem hx))
  ·rw[if_neg (show¬decide ((rels.length:Int)>0)=true by rw[decide_eq_true_eq];omega)]
   exact hfin _ _ r g2 (by omega) h2
theorem Kc {W:Nat} {c:Dy} {t2:Net} {V n T:Int} (hT:T<=41): ∀(d f:Nat) (cs:List Con),cs.length+d=41->d<f->(∀c∈cs,conD W c)->
  ∃cs',Bd f (c,t2,(V,(n,cs)),T)=some (c,t2,(V,(n,cs')))/\cs'.length<=41/\ ∀c∈cs',conD W c:=by
 intro d
 induction d with
 |zero=>
  intro f cs hl hf hc
  obtain⟨f,rfl⟩: ∃z,f=z+1:=⟨f-1,by omega⟩
  refine⟨cs,?_,by omega,hc⟩
  simp only[Bd]
  rw[if_neg (show¬decide ((cs.length:Int)<T)=true by rw[decide_eq_true_eq];omega)]
  simp
 |succ d ih=>
  intro f cs hl hf hc
  obtain⟨f,rfl⟩: ∃z,f=z+1:=⟨f-1,by omega⟩
  simp only[Bd]
  by_cases h0:0<cs.length
  ·rw[if_pos (show decide ((cs.length:Int)>0)=true by simp;omega)]
   by_cases h1:(cs.length:Int)<T
   ·rw[if_pos (by simpa using h1)]
    have hi:inb 0 cs:=by unfold inb;omega
    have hg:gd cs 0 ([],(0,[]))=cs[0]:=Aj (k:=0) h0
    obtain⟨cs',e,h2,h3⟩:=ih f (cs++ [cs[0]]) (by simp;omega) (by omega) (λq hq=>by
     rcases List.mem_append.1 hq with hq|hq
     ·exact hc q hq
     ·rw[List.mem_singleton.1 hq];exact hc _ (List.getElem_mem h0))
    refine⟨cs',?_,h2,h3⟩
    rw[if_pos hi,if_pos (by rw[List.length_singleton];unfold lim;omega)]
    simp only[hg]
    exact e
   ·exact⟨cs,by rw[if_neg (by simpa using h1)],by omega,hc⟩
  ·exact⟨cs,by rw[if_neg (by rw[decide_eq_true_eq];omega)],by omega,hc⟩
theorem Gu {k:Nat} {c:Dy} (hc:Cur k c) (hk:k<=5000): ∃c' a,CC c=some (c',a)/\Cur (k+5000) c'/\HN a:=by
 obtain⟨c1,n,rels,e1,g1,n0,n1,hr⟩:=H3 hc (by omega)
 have e1:Cp (c.1,(c.2.1,c.2.2))=_:=e1
 obtain⟨c2,V,e2,g2,hV⟩:=C8 g1 (by omega) (l:= [1,2,3,3,4,4,5,6]) (by simp) (by simp)
 have e2:Ab (c1.1,(c1.2.1,c1.2.2)) [1,2,3,3,4,4,5,6]=_:=e2
 obtain⟨c3,m,e3,g3,hm⟩:=C8 g2 (by omega) (l:= [0,1,2,3,4,5,6,8]) (by simp) (by simp)
 have e3:Ab (c2.1,(c2.2.1,c2.2.2)) [0,1,2,3,4,5,6,8]=_:=e3
 have hV':1<=V/\V<=6:=by simp at hV;omega
 obtain⟨m,rfl⟩: ∃z:Nat,m=(z:Int):=⟨m.toNat,by simp at hm;omega⟩
 have hm':m<=8:=by simp at hm;omega
 obtain⟨c4,cs,e4,g4,h4,h5⟩:=KK (n:=n) (V:=V) (by omega) (by omega) hr (0,(0,[])) n m Aa _ c3 [] (by unfold Aa;omega) g3 (by omega) (by simpa using hm') (by simp)
 have e4:AA Aa ((c3.1,(c3.2.1,c3.2.2)),(0,(0,[])),n,rels,(V,(n,[])),(m:Int))=_:=e4
 obtain⟨c5,x5,e5,g5,h50,h51,_⟩:=Dd g4 (by omega) 40 (by omega)
 have e5:Ad (c4.1,(c4.2.1,c4.2.2)) 40=_:=e5
 unfold CC
 simp only[e1,e2,e3,e4,e5,Option.bind_some]
 by_cases b0:x5=0
 ·obtain⟨c6,x6,e6,g6,hm6⟩:=C8 g5 (by omega) (l:= [(-1),0,9,10]) (by simp) (by simp)
  have e6:Ab (c5.1,(c5.2.1,c5.2.2)) [(-1),0,9,10]=_:=e6
  rw[if_pos (by simpa using b0)]
  simp only[e6,Option.bind_some]
  refine⟨_,_,rfl,g6.mono (by omega),?_⟩
  have: -1<=x6/\x6<=10:=by simp at hm6;omega
  exact⟨this.1,this.2,n0,n1,by dsimp only;omega,λq hq=>(h5 q hq).mono (by omega)⟩
 ·rw[if_neg (by simpa using b0)]
  by_cases b1:x5=1
  ·rw[if_pos (by simpa using b1)]
   by_cases hl:0<cs.length
   ·have hi:inb 0 cs:=by unfold inb;omega
    have hg:gd cs 0 ([],(0,[]))=cs[0]:=Aj (k:=0) hl
    have h0:=h5 _ (List.getElem_mem hl)
    have h1:((gd cs 0 ([],(0,[]))).1).length+ [(0:Nat)].length<=lim:=by
     rw[hg,List.length_singleton];have:=h0.1;unfold lim;omega
    rw[if_pos (show decide ((cs.length:Int)>0)=true by simp;omega),if_pos hi]
    simp only[hg]at h1⊢
    rw[if_pos h1,if_pos hi]
    simp only[if_true]
    refine⟨_,_,rfl,g5.mono (by omega),by dsimp only;omega,by dsimp only;omega,n0,n1,by dsimp only[stt];rw[List.length_set];omega,λq hq=>?_⟩
    rcases List.mem_or_eq_of_mem_set hq with hq|rfl
    ·exact(h5 q hq).mono (by omega)
    ·exact⟨by have:=h0.1;simp;omega,h0.2⟩
   ·rw[if_neg (by rw[decide_eq_true_eq];omega)]
    exact⟨_,_,rfl,g5.mono (by omega),by dsimp only;omega,by dsimp only;omega,n0,n1,by dsimp only;omega,λq hq=>(h5 q hq).mono (by omega)⟩
  ·rw[if_neg (by simpa using b1)]
   by_cases b2:x5=2
   ·rw[if_pos (by simpa using b2)]
    obtain⟨c6,x6,e6,g6,h60,h61,_⟩:=Dd g5 (by omega) 2 (by omega)
    have e6:Ad (c5.1,(c5.2.1,c5.2.2)) 2=_:=e6
    have h61:=h61 (by omega)
    have ew:w64 (40+x6)=40+x6:=AE (by omega) (by omega)
    obtain⟨cs',e7,h7,h8⟩:=Kc (c:=c6) (t2:=(0,(0,[]))) (V:=V) (n:=n) (T:=40+x6) (by omega) (41-cs.length) Aa cs (by omega) (by unfold Aa;omega) h5
    have e7:Bd Aa ((c6.1,(c6.2.1,c6.2.2)),(0,(0,[])),(V,(n,cs)),40+x6)=_:=e7
    simp only[e6,Option.bind_some,ew,e7]
    exact⟨_,_,rfl,g6.mono (by omega),by dsimp only;omega,by dsimp only;omega,n0,n1,h7,λq hq=>(h8 q hq).mono (by omega)⟩
   ·rw[if_neg (by simpa using b2)]
    exact⟨_,_,rfl,g5.mono (by omega),by dsimp only;omega,by dsimp only;omega,n0,n1,by dsimp only;omega,λq hq=>(h5 q hq).mono (by omega)⟩
end T
open Go Go.Va
namespace T
theorem Fv {a:Net} (hb:CR a=true): ∃(V n:Nat) (cs:List Con),a=((V:Int),((n:Int),cs))/\SrchOk V n cs:=by
 have hN:=Gt hb
 obtain⟨v,nn,cs⟩:=a
 have hv:=hN.hv
 have hn:=hN.hn
 have hc:=hN.hc
 have hcon:=hN.con
 dsimp only at hv hn hc hcon
 obtain⟨V,rfl⟩: ∃V:Nat,v=(V:Int):=⟨v.toNat,by omega⟩
 obtain⟨n,rfl⟩: ∃n:Nat,nn=(n:Int):=⟨nn.toNat,by omega⟩
 exact⟨V,n,cs,rfl,by omega,by omega,hc,hcon⟩
end T
open Go Go.Va
namespace T
section
variable {V n:Nat} {cs:List Con} {t:List Int} {a:Net}
theorem DL (hS:SrchOk V n cs):t∈BH V n cs (List.replicate V (-1))↔t.length=V/\(∀u,u<V->0<=t.getD u 0/\t.getD u 0<(n:Int))/\ ∀c∈cs,Dn t c=true:=by
 unfold BH
 rw[F7]
 simp only[List.length_nil,Nat.zero_add,List.take_zero,true_and,Nat.zero_le,true_implies]
 constructor
 ·rintro ⟨h1,h2⟩
  refine⟨h1,λu hu=>(h2 u (by omega)).1,λc hc=>?_⟩
  have hm:c∈Ax cs (BM c):=Es.2 ⟨hc,rfl⟩
  have hlt:=(Eo hS hm).2
  have:=(h2 (BM c) (by omega)).2.2
  rw[Gv hS (by omega),List.all_eq_true]at this
  exact this c hm
 ·rintro ⟨h1,h2,h3⟩
  refine⟨h1,λq hq=>⟨by have:=h2 q (by omega);omega,Jz (by omega),?_⟩⟩
  rw[Gv hS hq,List.all_eq_true]
  exact λc hc=>h3 c (Es.1 hc).1
end
end T
open Go Go.Va
namespace T
section
variable {V n:Nat} {cs:List Con} {a:Net}
def asB (a:Net) (v:List Int):Bool:=decide ((v.length:Int)=a.1)&&Bl a.2.1 v
theorem EO {v:List Int} (hl:v.length<=1048576):Ck a v=some (asB a v):=by
 unfold Ck asB
 by_cases h:(v.length:Int)=a.1
 ·rw[if_pos (by simpa using h),Dq _ (by omega),decide_eq_true h];rfl
 ·rw[if_neg (by simpa using h),decide_eq_false h];rfl
theorem E8 {v:List Int} (hl:v.length<=1048576) (hn:0<=a.2.1/\a.2.1<=100):Cw a v=some (asB a v):=by
 unfold Cw asB
 by_cases h:(v.length:Int)=a.1
 ·rw[if_pos (by simpa using h),Dj (by omega) (by omega) (by omega),decide_eq_true h];rfl
 ·rw[if_neg (by simpa using h),decide_eq_false h];rfl
def fuV (a:Net) (v:List Int):Int×Bool:=if CR a&&asB a v then(if GM a v<0 then(0,false)else(GM a v,true))else(0,false)
def isV (a:Net) (v:List Int):Bool×Bool:=if CR a&&asB a v then(decide (GM a v<0),true)else(false,false)
theorem JI (h:FY a) {v:List Int} (hl:v.length<=1048576):
  Dz a v=some (fuV a v)/\DA a v=some (fuV a v)/\Bx a v=some (isV a v)/\EF a v=some (isV a v):=by
 unfold Dz DA Bx EF fuV isV
 rw[Cj (a:=(a.1,(a.2.1,a.2.2))) h,Df (a:=(a.1,(a.2.1,a.2.2))) h]
 rw[show CR (a.1,(a.2.1,a.2.2))=CR a from rfl]
 cases hb:CR a with
 |false=>simp
 |true=>
  have hN:=Gt hb
  have hn:=hN.hn
  have e1:Ck (a.1,(a.2.1,a.2.2)) v=_:=EO (a:=a) hl
  have e2:Cw (a.1,(a.2.1,a.2.2)) v=_:=E8 (a:=a) hl (by omega)
  simp only[Option.bind_some,Bool.not_true,Bool.false_eq_true,if_false,e1,e2,Bool.true_and]
  cases hA:asB a v with
  |false=>simp
  |true=>
   have hv:(v.length:Int)=a.1:=by
    unfold asB at hA
    rw[Bool.and_eq_true]at hA
    exact of_decide_eq_true hA.1
   simp only[Option.bind_some,Bool.not_true,Bool.false_eq_true,if_false,if_true,E7 hN hv,FR hN hv,decide_eq_true_eq]
   by_cases hf:GM a v<0<;>simp[hf]
end
end T
set_option linter.unusedVariables false
open Go Go.Va
namespace T
def CM (code:List Int):Option ((Int×Int×(List ((List Int)×Int×(List (List Int)))))):=
 (D5 code).bind λr1=>
 some (r1.1,(r1.2.1,r1.2.2))
def BN (net:Int×Int×(List ((List Int)×Int×(List (List Int))))):Option ((List (List Int))×Bool):=
 (C6 (net.1,(net.2.1,net.2.2))).bind λr1=>
 if !r1 then
 some ([],false)
 else
 (DZ net.1).bind λr2=>
 (EA (net.1,(net.2.1,net.2.2)) net.2.2 r2 300 false).bind λr3=>
 if decide (r3.2.1>300)then
 some ([],false)
 else
 if([]:List (List Int)).length+r3.1.length<=lim then
 some ([]++r3.1,true)
 else none
def AH:Nat->((Int×(Int×(List ((List Int)×Int×(List (List Int))))))×(Int×(List Int))×((List Int)×Int×Int)×(Int×Int×(List ((List Int)×Int×(List (List Int)))))×(Int×(List Int))×Int)->Option ((Int×(Int×(List ((List Int)×Int×(List (List Int))))))×(Int×(List Int))×((List Int)×Int×Int)×(Int×Int×(List ((List Int)×Int×(List (List Int)))))×(Int×(List Int)))
 |0,_=>none
 |n+1,(t2,t3,c,net,f,x)=>
 if decide (x<net.2.1)then
 if decide (x<5)then
 (Ad (c.1,(c.2.1,c.2.2)) net.2.1).bind λr2=>
 if f.2.length+ [r2.2].length<=lim then
 AH n ((t2.1,(t2.2.1,t2.2.2)),(t3.1,t3.2),(r2.1.1,(r2.1.2.1,r2.1.2.2)),(net.1,(net.2.1,net.2.2)),(f.1,f.2++ [r2.2]),w64 (x+1))
 else none
 else
 some ((t2.1,(t2.2.1,t2.2.2)),(t3.1,t3.2),(c.1,(c.2.1,c.2.2)),(net.1,(net.2.1,net.2.2)),(f.1,f.2))
 else
 some ((t2.1,(t2.2.1,t2.2.2)),(t3.1,t3.2),(c.1,(c.2.1,c.2.2)),(net.1,(net.2.1,net.2.2)),(f.1,f.2))
def AG (code:List Int):Option ((Int×Int×(List ((List Int)×Int×(List (List Int)))))×(Int×(List Int))):=
 (CC (code,(0,0))).bind λr1=>
 (AH Aa ((0,(0,[])),(0,[]),(r1.1.1,(r1.1.2.1,r1.1.2.2)),(r1.2.1,(r1.2.2.1,r1.2.2.2)),(1,[]),0)).bind λs2=>
 (Az (s2.2.2.1.1,(s2.2.2.1.2.1,s2.2.2.1.2.2)) 20).bind λr3=>
 if r3.2 then
 (Ab (r3.1.1,(r3.1.2.1,r3.1.2.2)) [0,2]).bind λr4=>
 some ((s2.2.2.2.1.1,(s2.2.2.2.1.2.1,s2.2.2.2.1.2.2)),(r4.2,s2.2.2.2.2.2))
 else
 some ((s2.2.2.2.1.1,(s2.2.2.2.1.2.1,s2.2.2.2.1.2.2)),(s2.2.2.2.2.1,s2.2.2.2.2.2))
def Bi:Nat->((List Int)×(Int×Int×(List ((List Int)×Int×(List (List Int)))))×(List Int)×Int×Int)->Option (((List Int)×(Int×Int×(List ((List Int)×Int×(List (List Int))))))⊕((List Int)×Bool))
 |0,_=>none
 |n+1,(partial_,net,t20,t21,t22)=>
 if decide (t22<t21)then
 if inb t22 t20 then
 if decide ((gd t20 t22 0)<(-1))then
 some (.inr ([],false))
 else
 if decide ((gd t20 t22 0)≥net.2.1)then
 some (.inr ([],false))
 else
 Bi n (partial_,(net.1,(net.2.1,net.2.2)),t20,t21,w64 (t22+1))
 else none
 else
 some (.inl (partial_,(net.1,(net.2.1,net.2.2))))
def Bp (net:Int×Int×(List ((List Int)×Int×(List (List Int))))) (partial_:List Int):Option ((List Int)×Bool):=
 (B2 (net.1,(net.2.1,net.2.2))).bind λr1=>
  if !r1 then
   some ([],false)
  else
   if(partial_.length:Int) !=net.1 then
    some ([],false)
   else
    (Bi Aa (partial_,(net.1,(net.2.1,net.2.2)),partial_,(partial_.length:Int),0)).bind λs2=>
     match s2 with
     | .inl s3=>
      (Dh (s3.2.1,(s3.2.2.1,s3.2.2.2)) s3.1).bind λr5=>
       if !r5.1 then
        some ([],false)
       else
        some (r5.2,true)
     | .inr s4=>
      some (s4.1,s4.2)
def As:Nat->((List Int)×(Int×Int×(List ((List Int)×Int×(List (List Int)))))×(List (List Int))×Bool×(List (Int×(List (List Int))))×Int×Bool×Int)->Option ((List Int)×(Int×Int×(List ((List Int)×Int×(List (List Int)))))×(List (List Int))×Bool×(List (Int×(List (List Int))))×Int×Bool)
 |0,_=>none
 |n+1,(t0,t3,t4,t5,t8,t9,t10,t11)=>
 if decide (t11<(t8.length:Int))then
 if t10 then
 As n (t0,(t3.1,(t3.2.1,t3.2.2)),t4,t5,t8,t9,true,w64 (t11+1))
 else
 if inb t11 t8 then
 if inb t9 t3.2.2 then
 if((gd t8 t11 (0,[])).1)==(((gd t3.2.2 t9 ([],(0,[]))).2).1)then
 if inb t11 t8 then
 if inb t9 t3.2.2 then
 (Eb ((gd t8 t11 (0,[])).2) (((gd t3.2.2 t9 ([],(0,[]))).2).2)).bind λr6=>
 As n (t0,(t3.1,(t3.2.1,t3.2.2)),t4,t5,t8,t9,r6,w64 (t11+1))
 else none
 else none
 else
 As n (t0,(t3.1,(t3.2.1,t3.2.2)),t4,t5,t8,t9,false,w64 (t11+1))
 else none
 else none
 else
 some (t0,(t3.1,(t3.2.1,t3.2.2)),t4,t5,t8,t9,t10)
def Ay:Nat->((List Int)×(Int×Int×(List ((List Int)×Int×(List (List Int)))))×(List (List Int))×Bool×(List (Int×(List (List Int))))×Int)->Option ((List Int)×(Int×Int×(List ((List Int)×Int×(List (List Int)))))×(List (List Int))×Bool×(List (Int×(List (List Int)))))
 |0,_=>none
 |n+1,(t0,t3,t4,t5,t8,t9)=>
 if decide (t9<(t3.2.2.length:Int))then
 (As Aa (t0,(t3.1,(t3.2.1,t3.2.2)),t4,t5,t8,t9,false,0)).bind λs6=>
 if !s6.2.2.2.2.2.2 then
 if inb s6.2.2.2.2.2.1 s6.2.1.2.2 then
 if s6.2.2.2.2.1.length+ [(gd s6.2.1.2.2 s6.2.2.2.2.2.1 ([],(0,[]))).2].length<=lim then
 Ay n (s6.1,(s6.2.1.1,(s6.2.1.2.1,s6.2.1.2.2)),s6.2.2.1,s6.2.2.2.1,s6.2.2.2.2.1++ [(gd s6.2.1.2.2 s6.2.2.2.2.2.1 ([],(0,[]))).2],w64 (s6.2.2.2.2.2.1+1))
 else none
 else none
 else
 Ay n (s6.1,(s6.2.1.1,(s6.2.1.2.1,s6.2.1.2.2)),s6.2.2.1,s6.2.2.2.1,s6.2.2.2.2.1,w64 (s6.2.2.2.2.2.1+1))
 else
 some (t0,(t3.1,(t3.2.1,t3.2.2)),t4,t5,t8)
def AQ:Nat->((List Int)×(Int×Int×(List ((List Int)×Int×(List (List Int)))))×(List (List Int))×(List (Int×(List Int)))×Int×(List Int)×(List Int)×(List Int)×Int)->Option ((List Int)×(Int×Int×(List ((List Int)×Int×(List (List Int)))))×(List (List Int))×(List (Int×(List Int)))×Int×(List Int))
 |0,_=>none
 |n+1,(t0,t3,t4,t12,t16,t17,t18,t19,t20)=>
 if decide (t20<t3.1)then
 if inb t16 t12 then
 if inb t20 t17 then
 if inb t20 t18 then
 if inb (w64 ((w64 ((gd t17 t20 0)*t3.2.1))+(gd t18 t20 0))) ((gd t12 t16 (0,[])).2)then
 if t19.length+ [gd ((gd t12 t16 (0,[])).2) (w64 ((w64 ((gd t17 t20 0)*t3.2.1))+(gd t18 t20 0))) 0].length<=lim then
 AQ n (t0,(t3.1,(t3.2.1,t3.2.2)),t4,t12,t16,t17,t18,t19++ [gd ((gd t12 t16 (0,[])).2) (w64 ((w64 ((gd t17 t20 0)*t3.2.1))+(gd t18 t20 0))) 0],w64 (t20+1))
 else none
 else none
 else none
 else none
 else none
 else
 some (t0,(t3.1,(t3.2.1,t3.2.2)),t4,t12,t16,t19)
def AC:Nat->((List Int)×(Int×Int×(List ((List Int)×Int×(List (List Int)))))×(List (List Int))×(List (Int×(List Int)))×Int)->Option (((List Int))⊕(Bool))
 |0,_=>none
 |n+1,(t0,t3,t4,t12,t16)=>
 if decide (t16<(t12.length:Int))then
 if decide (t16<12)then
 if(t4.length:Int)≠0 then
 if inb (Int.tmod (w64 (t16*7)) (t4.length:Int)) t4 then
 if(t4.length:Int)≠0 then
 if inb (Int.tmod (w64 ((w64 (t16*11))+1)) (t4.length:Int)) t4 then
 (AQ Aa (t0,(t3.1,(t3.2.1,t3.2.2)),t4,t12,t16,gd t4 (Int.tmod (w64 (t16*7)) (t4.length:Int)) [],gd t4 (Int.tmod (w64 ((w64 (t16*11))+1)) (t4.length:Int)) [],[],0)).bind λs11=>
 (Bx (s11.2.1.1,(s11.2.1.2.1,s11.2.1.2.2)) s11.2.2.2.2.2).bind λr12=>
 if !r12.2 then
 some (.inr false)
 else
 if !r12.1 then
 some (.inr false)
 else
 AC n (s11.1,(s11.2.1.1,(s11.2.1.2.1,s11.2.1.2.2)),s11.2.2.1,s11.2.2.2.1,w64 (s11.2.2.2.2.1+1))
 else none
 else none
 else none
 else none
 else
 some (.inl t0)
 else
 some (.inl t0)
def Ap:Nat->((Int×Int×(List ((List Int)×Int×(List (List Int)))))×(Int×(List Int))×(Int×(Int×(List ((List Int)×Int×(List (List Int))))))×(List Int)×Int)->Option ((Int×Int×(List ((List Int)×Int×(List (List Int)))))×(Int×(List Int))×(Int×(Int×(List ((List Int)×Int×(List (List Int))))))×(List Int))
 |0,_=>none
 |n+1,(t23,t24,t25,t29,t30)=>
 if decide (t30<t23.1)then
 if t29.length+ [(-1)].length<=lim then
 Ap n ((t23.1,(t23.2.1,t23.2.2)),(t24.1,t24.2),(t25.1,(t25.2.1,t25.2.2)),t29++ [(-1)],w64 (t30+1))
 else none
 else
 some ((t23.1,(t23.2.1,t23.2.2)),(t24.1,t24.2),(t25.1,(t25.2.1,t25.2.2)),t29)
def Aq:Nat->((Int×Int×(List ((List Int)×Int×(List (List Int)))))×(Int×(List Int))×(Int×(Int×(List ((List Int)×Int×(List (List Int))))))×(List Int)×(List Int)×Int)->Option (((Int×(Int×(List ((List Int)×Int×(List (List Int))))))×(List Int))⊕(Bool))
 |0,_=>none
 |n+1,(t23,t24,t25,t31,t33,t34)=>
 if decide (t34<t23.1)then
 if decide (t34≥(t31.length:Int))then
 some (.inr false)
 else
 if inb t34 t31 then
 if decide ((gd t31 t34 0)<0)then
 some (.inr false)
 else
 if inb t34 t31 then
 if decide ((gd t31 t34 0)≥(t24.2.length:Int))then
 some (.inr false)
 else
 if inb t34 t31 then
 if inb (gd t31 t34 0) t24.2 then
 if t33.length+ [gd t24.2 (gd t31 t34 0) 0].length<=lim then
 Aq n ((t23.1,(t23.2.1,t23.2.2)),(t24.1,t24.2),(t25.1,(t25.2.1,t25.2.2)),t31,t33++ [gd t24.2 (gd t31 t34 0) 0],w64 (t34+1))
 else none
 else none
 else none
 else none
 else none
 else
 some (.inl ((t25.1,(t25.2.1,t25.2.2)),t33))
def DK (t0:List Int):Option (Bool):=
 (G3 t0).bind λr1=>
  if r1 then
   some true
  else
   (CM t0).bind λr2=>
    (BJ (r2.1,(r2.2.1,r2.2.2))).bind λr3=>
     (BN (r2.1,(r2.2.1,r2.2.2))).bind λr4=>
      if r3.2 !=r4.2 then
       some false
      else
       (Eb r3.1 r4.1).bind λr5=>
        if !r5 then
         some false
        else
         (Ay Aa (t0,(r2.1,(r2.2.1,r2.2.2)),r3.1,r3.2,[],0)).bind λs6=>
          if s6.2.2.2.1 then
           if decide ((s6.2.2.2.2.length:Int)<=4)then
            if decide ((s6.2.2.1.length:Int)>0)then
             (A7 s6.2.1.2.1 s6.2.2.2.2 2).bind λr7=>
              (CX s6.2.1.2.1 s6.2.2.2.2 2).bind λr8=>
               if r7.2 !=r8.2 then
                some false
               else
                (FG r7.1 r8.1).bind λr9=>
                 if !r9 then
                  some false
                 else
                  (AC Aa (s6.1,(s6.2.1.1,(s6.2.1.2.1,s6.2.1.2.2)),s6.2.2.1,r7.1,0)).bind λs10=>
                   match s10 with
                   | .inl s11=>
                    (AG s11).bind λr13=>
                     (AS (r13.1.1,(r13.1.2.1,r13.1.2.2)) (r13.2.1,r13.2.2)).bind λr14=>
                      (AT (r13.1.1,(r13.1.2.1,r13.1.2.2)) (r13.2.1,r13.2.2)).bind λr15=>
                       if r14.2 !=r15.2 then
                        some false
                       else
                        if(r14.1.2.2.length:Int) !=(r15.1.2.2.length:Int)then
                         some false
                        else
                         if r14.1.1 !=r15.1.1 then
                          some false
                         else
                          if r14.1.2.1 !=r15.1.2.1 then
                           some false
                          else
                           if r14.2 then
                            (Ap Aa ((r13.1.1,(r13.1.2.1,r13.1.2.2)),(r13.2.1,r13.2.2),(r14.1.1,(r14.1.2.1,r14.1.2.2)),[],0)).bind λs16=>
                             (Bp (s16.1.1,(s16.1.2.1,s16.1.2.2)) s16.2.2.2).bind λr17=>
                              if r17.2 then
                               (Aq Aa ((s16.1.1,(s16.1.2.1,s16.1.2.2)),(s16.2.1.1,s16.2.1.2),(s16.2.2.1.1,(s16.2.2.1.2.1,s16.2.2.1.2.2)),r17.1,[],0)).bind λs18=>
                                match s18 with
                                | .inl s19=>
                                 (Bx (s19.1.1,(s19.1.2.1,s19.1.2.2)) s19.2).bind λr21=>
                                  if !r21.2 then
                                   some false
                                  else
                                   if !r21.1 then
                                    some false
                                   else
                                    some true
                                | .inr s20=>
                                 some s20
                              else
                               some true
                           else
                            some true
                   | .inr s12=>
                    some s12
            else
             (AG s6.1).bind λr22=>
              (AS (r22.1.1,(r22.1.2.1,r22.1.2.2)) (r22.2.1,r22.2.2)).bind λr23=>
               (AT (r22.1.1,(r22.1.2.1,r22.1.2.2)) (r22.2.1,r22.2.2)).bind λr24=>
                if r23.2 !=r24.2 then
                 some false
                else
                 if(r23.1.2.2.length:Int) !=(r24.1.2.2.length:Int)then
                  some false
                 else
                  if r23.1.1 !=r24.1.1 then
                   some false
                  else
                   if r23.1.2.1 !=r24.1.2.1 then
                    some false
                   else
                    if r23.2 then
                     (Ap Aa ((r22.1.1,(r22.1.2.1,r22.1.2.2)),(r22.2.1,r22.2.2),(r23.1.1,(r23.1.2.1,r23.1.2.2)),[],0)).bind λs25=>
                      (Bp (s25.1.1,(s25.1.2.1,s25.1.2.2)) s25.2.2.2).bind λr26=>
                       if r26.2 then
                        (Aq Aa ((s25.1.1,(s25.1.2.1,s25.1.2.2)),(s25.2.1.1,s25.2.1.2),(s25.2.2.1.1,(s25.2.2.1.2.1,s25.2.2.1.2.2)),r26.1,[],0)).bind λs27=>
                         match s27 with
                         | .inl s28=>
                          (Bx (s28.1.1,(s28.1.2.1,s28.1.2.2)) s28.2).bind λr30=>
                           if !r30.2 then
                            some false
                           else
                            if !r30.1 then
                             some false
                            else
                             some true
                         | .inr s29=>
                          some s29
                       else
                        some true
                    else
                     some true
           else
            (AG s6.1).bind λr31=>
             (AS (r31.1.1,(r31.1.2.1,r31.1.2.2)) (r31.2.1,r31.2.2)).bind λr32=>
              (AT (r31.1.1,(r31.1.2.1,r31.1.2.2)) (r31.2.1,r31.2.2)).bind λr33=>
               if r32.2 !=r33.2 then
                some false
               else
                if(r32.1.2.2.length:Int) !=(r33.1.2.2.length:Int)then
                 some false
                else
                 if r32.1.1 !=r33.1.1 then
                  some false
                 else
                  if r32.1.2.1 !=r33.1.2.1 then
                   some false
                  else
                   if r32.2 then
                    (Ap Aa ((r31.1.1,(r31.1.2.1,r31.1.2.2)),(r31.2.1,r31.2.2),(r32.1.1,(r32.1.2.1,r32.1.2.2)),[],0)).bind λs34=>
                     (Bp (s34.1.1,(s34.1.2.1,s34.1.2.2)) s34.2.2.2).bind λr35=>
                      if r35.2 then
                       (Aq Aa ((s34.1.1,(s34.1.2.1,s34.1.2.2)),(s34.2.1.1,s34.2.1.2),(s34.2.2.1.1,(s34.2.2.1.2.1,s34.2.2.1.2.2)),r35.1,[],0)).bind λs36=>
                        match s36 with
                        | .inl s37=>
                         (Bx (s37.1.1,(s37.1.2.1,s37.1.2.2)) s37.2).bind λr39=>
                          if !r39.2 then
                           some false
                          else
                           if !r39.1 then
                            some false
                           else
                            some true
                        | .inr s38=>
                         some s38
                      else
                       some true
                   else
                    some true
          else
           (AG s6.1).bind λr40=>
            (AS (r40.1.1,(r40.1.2.1,r40.1.2.2)) (r40.2.1,r40.2.2)).bind λr41=>
             (AT (r40.1.1,(r40.1.2.1,r40.1.2.2)) (r40.2.1,r40.2.2)).bind λr42=>
              if r41.2 !=r42.2 then
               some false
              else
               if(r41.1.2.2.length:Int) !=(r42.1.2.2.length:Int)then
                some false
               else
                if r41.1.1 !=r42.1.1 then
                 some false
                else
                 if r41.1.2.1 !=r42.1.2.1 then
                  some false
                 else
                  if r41.2 then
                   (Ap Aa ((r40.1.1,(r40.1.2.1,r40.1.2.2)),(r40.2.1,r40.2.2),(r41.1.1,(r41.1.2.1,r41.1.2.2)),[],0)).bind λs43=>
                    (Bp (s43.1.1,(s43.1.2.1,s43.1.2.2)) s43.2.2.2).bind λr44=>
                     if r44.2 then
                      (Aq Aa ((s43.1.1,(s43.1.2.1,s43.1.2.2)),(s43.2.1.1,s43.2.1.2),(s43.2.2.1.1,(s43.2.2.1.2.1,s43.2.2.1.2.2)),r44.1,[],0)).bind λs45=>
                       match s45 with
                       | .inl s46=>
                        (Bx (s46.1.1,(s46.1.2.1,s46.1.2.2)) s46.2).bind λr48=>
                         if !r48.2 then
                          some false
                         else
                          if !r48.1 then
                           some false
                          else
                           some true
                       | .inr s47=>
                        some s47
                     else
                      some true
                  else
                   some true
end T
open Go Go.Va
namespace T
section
variable {a:Net} {V n:Nat} {cs:List Con}
def E9 (acc:List AX) (c:Con):List AX:=if c.2∈acc then acc else acc++ [c.2]
def Dw (cs:List Con):List AX:=cs.foldl E9 []
theorem Ii {k:Nat} (hk:k<cs.length):Dw (cs.take (k+1))=E9 (Dw (cs.take k)) cs[k]:=by
 unfold Dw
 rw[List.take_succ_eq_append_getElem hk,List.foldl_append];rfl
theorem II {acc:List AX} {c:Con} {r:AX}:r∈E9 acc c↔r∈acc∨r=c.2:=by
 unfold E9
 split
 ·constructor
  ·exact .inl
  ·rintro (h|rfl)
   ·exact h
   ·assumption
 ·simp
theorem G0 {r:AX}: ∀(cs:List Con) (acc:List AX),r∈cs.foldl E9 acc↔r∈acc∨ ∃c∈cs,r=c.2
 | [],acc=>by simp
 |c::cs,acc=>by
  rw[List.foldl_cons,G0 cs,II]
  simp only[List.mem_cons,exists_eq_or_imp]
  constructor
  ·rintro ((h|h)|h)
   ·exact .inl h
   ·exact .inr (.inl h)
   ·exact .inr (.inr h)
  ·rintro (h|h|h)
   ·exact .inl (.inl h)
   ·exact .inl (.inr h)
   ·exact .inr h
theorem FM {r:AX}:r∈Dw cs↔ ∃c∈cs,r=c.2:=by
 unfold Dw
 rw[G0];simp
theorem IH {acc:List AX} {c:Con}:(E9 acc c).length<=acc.length+1:=by
 unfold E9;split
 ·omega
 ·simp
theorem GZ: ∀(cs:List Con) (acc:List AX),(cs.foldl E9 acc).length<=acc.length+cs.length
 | [],acc=>by simp
 |c::cs,acc=>by
  have:=GZ cs (E9 acc c)
  have:=IH (acc:=acc) (c:=c)
  rw[List.foldl_cons,List.length_cons];omega
theorem Ha:(Dw cs).length<=cs.length:=by
 have:=GZ cs []
 simpa[Dw]using this
def Yib (a:Net) (p:List Int):Bool:=decide ((p.length:Int)=a.1)&&p.all λx=>decide (-1<=x/\x<a.2.1)
def fsV (a:Net) (p:List Int):List Int×Bool:=
 if CR a&&Yib a p then(match BH a.1.toNat a.2.1.toNat a.2.2 p with| []=>([],false)|t::_=>(t,true))else([],false)
theorem EI (h:FY a) {p:List Int} (hl:p.length<=1048576):Bp a p=some (fsV a p):=by
 unfold Bp fsV
 rw[Cj (a:=(a.1,(a.2.1,a.2.2))) h]
 rw[show CR (a.1,(a.2.1,a.2.2))=CR a from rfl]
 cases hb:CR a with
 |false=>simp
 |true=>
  simp only[Option.bind_some,Bool.not_true,Bool.false_eq_true,if_false,Bool.true_and]
  unfold Yib
  by_cases he:(p.length:Int)=a.1
  ·rw[if_neg (by simpa using he),decide_eq_true he]
   have:=FA p (λf i=>Bi f (p,a,p,(p.length:Int),i)) (λx=>decide (-1<=x/\x<a.2.1)) (.inr ([],false)) (.inl (p,a)) (λf k hk=>?_) (λf=>?_) (n:=Aa) (by unfold Aa;omega)
   ·have this:Bi Aa (p,(a.1,(a.2.1,a.2.2)),p,(p.length:Int),0)=_:=this
    rw[this]
    cases hp:p.all λx=>decide (-1<=x/\x<a.2.1)with
    |false=>simp
    |true=>
     obtain⟨V,n,cs,rfl,hS⟩:=Fv hb
     have e:=HD hS (given:=p) (by dsimp only at he;omega)
     simp only[Option.bind_some,if_true,e,Bool.and_self,Int.toNat_natCast]
     cases BH V n cs p with
     |nil=>simp[Hh]
     |cons t l=>simp[Hh]
   ·simp only[Bi,Ae,hk,Aj hk,if_true,Ac (show k<4611686018427387904 by omega)]
    rw[if_pos (by rw[decide_eq_true_eq];omega)]
    by_cases h1:p[k]< -1
    ·rw[if_pos (decide_eq_true h1),if_neg (by rw[decide_eq_true_eq];omega)]
    ·rw[if_neg (by simpa using h1)]
     by_cases h2:p[k]≥a.2.1
     ·rw[if_pos (decide_eq_true h2),if_neg (by rw[decide_eq_true_eq];omega)]
     ·rw[if_neg (by simpa using h2),if_pos (by rw[decide_eq_true_eq];omega)]
   ·simp only[Bi]
    rw[if_neg (by simp)]
  ·rw[if_pos (by simpa using he),decide_eq_false he];simp
theorem IW (hb:CR a=true):Yib a (List.replicate a.1.toNat (-1))=true:=by
 have hN:=Gt hb
 have hv:=hN.hv
 have hn:=hN.hn
 unfold Yib
 rw[Bool.and_eq_true,decide_eq_true_eq,List.all_eq_true]
 refine⟨by simp;omega,λx hx=>?_⟩
 rw[List.eq_of_mem_replicate hx]
 exact decide_eq_true (by omega)
end
end T
open Go Go.Va
namespace T
section
variable {a:Net} {V n:Nat} {cs:List Con} {vals x y:List Int}
theorem J4 (h: ∀c∈a.2.2,Dn vals c=true):GM a vals<0:=by
 unfold GM
 cases hf:(List.range' 0 a.2.2.length).find? (λk=>!Dn vals (a.2.2.getD k IK))with
 |none=>simp
 |some k=>
  have h1:=List.find?_some hf
  have h2:=List.mem_of_find?_eq_some hf
  rw[List.mem_range'_1]at h2
  have hk:k<a.2.2.length:=by omega
  rw[Ai hk]at h1
  have:=h _ (List.getElem_mem hk)
  rw[this]at h1;simp at h1
theorem HI (hb:CR a=true) (hA:asB a vals=true) (h: ∀c∈a.2.2,Dn vals c=true):isV a vals=(true,true):=by
 unfold isV
 rw[hb,hA,Bool.and_self,if_pos rfl,decide_eq_true (J4 h)]
theorem Jd (hl:vals.length=V) (hv: ∀u,u<V->0<=vals.getD u 0/\vals.getD u 0<(n:Int)):asB ((V:Int),((n:Int),cs)) vals=true:=by
 unfold asB Bl
 rw[Bool.and_eq_true,decide_eq_true_eq,List.all_eq_true]
 refine⟨by dsimp only;omega,λx hx=>?_⟩
 obtain⟨u,hu,rfl⟩:=List.mem_iff_getElem.1 hx
 have:=hv u (by omega)
 rw[Ai hu]at this
 exact decide_eq_true this
theorem J7 (hS:SrchOk V n cs) (hx:x∈BH V n cs (List.replicate V (-1))):isV ((V:Int),((n:Int),cs)) x=(true,true):=by
 obtain⟨h1,h2,h3⟩:=(DL hS).1 hx
 exact HI (Et hS) (Jd h1 h2) h3
def ET (n V:Nat) (tab x y:List Int):List Int:=(List.range V).map λv=>tab.getD ((x.getD v 0).toNat*n+(y.getD v 0).toNat) 0
theorem Gz {tab:List Int} {u:Nat} (hu:u<V):(ET n V tab x y).getD u 0=tab.getD ((x.getD u 0).toNat*n+(y.getD u 0).toNat) 0:=by
 unfold ET
 rw[Ai (by simpa using hu)];simp
theorem JN {i j:Nat} (hi:i<n) (hj:j<n):i*n+j<n^2:=by
 have:(i+1)*n<=n*n:=Nat.mul_le_mul_right _ hi
 rw[Nat.succ_mul]at this
 rw[Nat.pow_two];omega
theorem JD (hS:SrchOk V n cs) {rels:List AX} (hr: ∀c∈cs,c.2∈rels) {tab:List Int} (hR:RelsOk n 2 rels) (ht:tab∈Yik n 2 rels (List.replicate (n^2) (-1)))
  (hx:x∈BH V n cs (List.replicate V (-1))) (hy:y∈BH V n cs (List.replicate V (-1))):ET n V tab x y∈BH V n cs (List.replicate V (-1)):=by
 obtain⟨x1,x2,x3⟩:=(DL hS).1 hx
 obtain⟨y1,y2,y3⟩:=(DL hS).1 hy
 obtain⟨t1,t2,_,t4⟩:=(Ja hR).1 ht
 refine(DL hS).2 ⟨by simp[ET],λu hu=>?_,λc hc=>?_⟩
 ·have a1:=x2 u hu
  have a2:=y2 u hu
  rw[Gz hu]
  have:=JN (n:=n) (i:=(x.getD u 0).toNat) (j:=(y.getD u 0).toNat) (by omega) (by omega)
  rw[Ai (by omega)]
  exact t2 _ (List.getElem_mem _)
 ·have hcon:=hS.con c hc
  have hok:=hR.ok c.2 (hr c hc)
  have p1:=of_decide_eq_true (x3 c hc)
  have p2:=of_decide_eq_true (y3 c hc)
  obtain⟨i,hi,ei⟩:=List.mem_iff_getElem.1 p1
  obtain⟨j,hj,ej⟩:=List.mem_iff_getElem.1 p2
  have hk:IX n 2 [c.2] tab=true:=by
   unfold IX at t4⊢
   rw[List.all_eq_true]at t4⊢
   intro r hr'
   rw[List.mem_singleton.1 hr']
   exact t4 _ (hr c hc)
  obtain⟨z,hz,hzz⟩:=Ke hok hk (ys:= [i,j]) rfl (λy hy=>by
   simp at hy
   rcases hy with rfl|rfl
   ·exact hi
   ·exact hj)
  have hsl:=hcon.sl
  have hml:c.1.length=c.2.1.toNat:=by omega
  unfold Dn
  refine decide_eq_true ?_
  have:c.1.map (Bq (ET n V tab x y))=c.2.2[z]:=by
   refine List.ext_getElem (by rw[List.length_map,hok.tl _ (List.getElem_mem hz)];exact hml) λu h1 h2=>?_
   rw[List.length_map]at h1
   have hv:=hcon.sv u h1
   have:=hzz u (by omega)
   rw[Ai hz,Ai h2]at this
   rw[←this,List.getElem_map]
   unfold Bq
   rw[Gz (by omega)]
   congr 1
   have ex:vt c.2.2 i u=(x.getD (c.1[u]).toNat 0).toNat:=by
    unfold vt
    rw[Ai hi,ei,Ai (by simpa using h1),List.getElem_map];rfl
   have ey:vt c.2.2 j u=(y.getD (c.1[u]).toNat 0).toNat:=by
    unfold vt
    rw[Ai hj,ej,Ai (by simpa using h1),List.getElem_map];rfl
   unfold atF
   simp only[List.foldl_cons,List.foldl_nil,ex,ey,Nat.zero_mul,Nat.zero_add]
  rw[this]
  exact List.getElem_mem hz
theorem KP {g:List Int} (hn:1<=n/\n<=4) (h:opB (n:Int) (1,g)=true):g.length=n/\ ∀x∈g,0<=x/\x<(n:Int):=by
 unfold opB Bl at h
 simp only[Bool.and_eq_true,decide_eq_true_eq,List.all_eq_true]at h
 obtain⟨⟨_,h2⟩,h3⟩:=h
 refine⟨?_,h3⟩
 have:((n:Int)^(1:Int).toNat)=(n:Int):=by rw[show(1:Int).toNat=1 from rfl,Int.pow_succ];simp
 rw[this]at h2;omega
theorem Jq {g t:List Int} (hg:g.length=n) (hv: ∀x∈g,0<=x/\x<(n:Int)) (ht: ∀v∈t,0<=v/\v<(n:Int)): ∀v∈CQ g t,0<=v/\v<(n:Int):=λv h=>by
 unfold CQ at h
 obtain⟨w,hw,rfl⟩:=List.mem_map.1 h
 have:=ht w hw
 unfold Bq
 rw[Ai (by omega)]
 exact hv _ (List.getElem_mem _)
theorem HT (hS:SrchOk V n cs) {g:List Int} (hg:g.length=n) (hv: ∀x∈g,0<=x/\x<(n:Int)):CR ((V:Int),((n:Int),cs.map (BS g)))=true:=by
 have hb:=Et hS
 unfold CR at hb⊢
 simp only[Bool.and_eq_true,decide_eq_true_eq,List.all_eq_true,List.length_map,List.mem_map]at hb⊢
 obtain⟨⟨⟨h1,h2⟩,h3⟩,h4⟩:=hb
 refine⟨⟨⟨h1,h2⟩,h3⟩,λc' hc'=>?_⟩
 obtain⟨c,hc,rfl⟩:=hc'
 have:=h4 c hc
 unfold Ff Ex at this⊢
 dsimp only[BS]
 simp only[Bool.and_eq_true,decide_eq_true_eq,List.all_eq_true]at this⊢
 obtain⟨⟨⟨⟨q1,q2⟩,q3⟩,q4⟩,q5⟩:=this
 refine⟨⟨⟨⟨decide_eq_true q1,λt ht=>?_⟩,GD _⟩,decide_eq_true q4⟩,q5⟩
 rw[setL_mem]at ht
 obtain⟨s,hs,rfl⟩:=List.mem_map.1 ht
 have:=q2 s hs
 refine⟨decide_eq_true (by rw[D7];exact this.1),?_⟩
 unfold Bl
 rw[List.all_eq_true]
 have hb2:=this.2
 unfold Bl at hb2
 rw[List.all_eq_true]at hb2
 exact λv hv'=>decide_eq_true (Jq hg hv (λw hw=>of_decide_eq_true (hb2 w hw)) v hv')
theorem I1 (hS:SrchOk V n cs) {g:List Int} (hg:g.length=n) (hv: ∀x∈g,0<=x/\x<(n:Int)) (hx:x∈BH V n cs (List.replicate V (-1))):
  isV ((V:Int),((n:Int),cs.map (BS g))) (CQ g x)=(true,true):=by
 obtain⟨x1,x2,x3⟩:=(DL hS).1 hx
 refine HI (HT hS hg hv) (Jd (by rw[D7];exact x1) λu hu=>?_) λc' hc'=>?_
 ·rw[Ai (by rw[D7];omega)]
  exact Jq hg hv (λw hw=>by
   obtain⟨u,hu,rfl⟩:=List.mem_iff_getElem.1 hw
   have:=x2 u (by omega)
   rwa [Ai hu]at this) _ (List.getElem_mem _)
 ·obtain⟨c,hc,rfl⟩:=List.mem_map.1 hc'
  have hcon:=hS.con c hc
  have p:=of_decide_eq_true (x3 c hc)
  unfold Dn BS
  refine decide_eq_true ?_
  dsimp only
  rw[setL_mem]
  refine List.mem_map.2 ⟨_,p,?_⟩
  unfold CQ
  rw[List.map_map]
  refine List.map_congr_left λv hv'=>?_
  obtain⟨u,hu,rfl⟩:=List.mem_iff_getElem.1 hv'
  have h5:=hcon.sv u hu
  have h6:(c.1[u]).toNat<x.length:=by omega
  show Bq g (x.getD (c.1[u]).toNat 0)=(x.map (Bq g)).getD (c.1[u]).toNat 0
  rw[Ai h6,Ai (by simpa using h6),List.getElem_map]
end
end T
open Go Go.Va
namespace T
section
variable {a:Net} {V n:Nat} {cs:List Con} {vals x y:List Int}
theorem JB {a:Net} (h:HN a) {c:Con} (hc:c∈a.2.2):c.2.2.length<=1048576/\ ∀t∈c.2.2,t.length<=1048576:=by
 have h1:=(h.2.2.2.2.2 c hc).2
 exact⟨by have:=h1.1;omega,λt ht=>by have:=h1.2 t ht;omega⟩
theorem KZ {code:List Int} {all:List (List Int)} {ok:Bool} (hD:HN a) {rels:List AX} (hr: ∀r∈rels,r.2.length<=1048576/\ ∀t∈r.2,t.length<=1048576) (hl:rels.length<=1000) {i:Nat} (hi:i<a.2.2.length):
  As Aa (code,a,all,ok,rels,(i:Int),false,0)=some (code,a,all,ok,rels,(i:Int),decide (a.2.2[i].2∈rels)):=by
 have:=CD rels.length (λf (o:Bool) k=>As f (code,a,all,ok,rels,(i:Int),o,k)) (λk=>decide (a.2.2[i].2∈rels.take k)) (r:=some (code,a,all,ok,rels,(i:Int),decide (a.2.2[i].2∈rels))) (λf k hk=>?_) (λf=>?_) (n:=Aa) (by unfold Aa;omega)
 ·have e0:decide (a.2.2[i].2∈rels.take 0)=false:=by simp
  rw[e0]at this
  exact this
 ·have hm:=hr _ (List.getElem_mem hk)
  have e:=G9 (a:=rels[k].2) (b:=a.2.2[i].2.2) hm.1 hm.2
  have hs:decide (a.2.2[i].2∈rels.take (k+1))=(decide (a.2.2[i].2∈rels.take k)||decide (a.2.2[i].2=rels[k])):=by
   rw[Bool.eq_iff_iff];simp only[List.take_succ_eq_append_getElem hk,List.mem_append,List.mem_singleton,Bool.or_eq_true,decide_eq_true_eq]
  simp only[As,Ae,hk,hi,Aj hk,Aj hi,if_true,e,Option.bind_some,Ac (show k<4611686018427387904 by omega),hs]
  rw[if_pos (by rw[decide_eq_true_eq];omega)]
  cases decide (a.2.2[i].2∈rels.take k)with
  |true=>simp
  |false=>
   simp only[Bool.false_eq_true,if_false,Bool.false_or]
   by_cases h1:rels[k].1=a.2.2[i].2.1
   ·rw[if_pos (by simpa using h1)]
    by_cases h2:rels[k].2=a.2.2[i].2.2
    ·rw[decide_eq_true h2,decide_eq_true (show a.2.2[i].2=rels[k] from(Prod.ext h1 h2).symm)]
    ·rw[decide_eq_false h2,decide_eq_false (show¬a.2.2[i].2=rels[k] from λe=>h2 (by rw[e]))]
   ·rw[if_neg (by simpa using h1),decide_eq_false (show¬a.2.2[i].2=rels[k] from λe=>h1 (by rw[e]))]
 ·simp only[As,List.take_length]
  rw[if_neg (by simp)]
theorem Kj (hD:HN a) {k:Nat}: ∀r∈Dw (a.2.2.take k),r.2.length<=1048576/\ ∀t∈r.2,t.length<=1048576:=λr hr=>by
 obtain⟨c,hc,rfl⟩:=FM.1 hr
 exact JB hD (List.mem_of_mem_take hc)
theorem KY {code:List Int} {all:List (List Int)} {ok:Bool} (hD:HN a):Ay Aa (code,a,all,ok,[],0)=some (code,a,all,ok,Dw a.2.2):=by
 have hl:=hD.2.2.2.2.1
 have:=CD a.2.2.length (λf (o:List AX) k=>Ay f (code,a,all,ok,o,k)) (λk=>Dw (a.2.2.take k)) (r:=some (code,a,all,ok,Dw a.2.2)) (λf k hk=>?_) (λf=>?_) (n:=Aa) (by unfold Aa;omega)
 ·exact this
 ·have hlen:=Ha (cs:=a.2.2.take k)
  rw[List.length_take]at hlen
  have e:=KZ (code:=code) (all:=all) (ok:=ok) hD (Kj hD (k:=k)) (by omega) hk
  have e:As Aa (code,(a.1,(a.2.1,a.2.2)),all,ok,Dw (a.2.2.take k),(k:Int),false,0)=_:=e
  simp only[Ay,e,Option.bind_some,Ae,hk,Aj hk,if_true,Ac (show k<4611686018427387904 by omega),Ii hk]
  rw[if_pos (by rw[decide_eq_true_eq];omega)]
  unfold E9
  by_cases h:a.2.2[k].2∈Dw (a.2.2.take k)
  ·rw[decide_eq_true h,if_pos h];simp
  ·rw[decide_eq_false h,if_neg h]
   simp only[Bool.not_false,if_true]
   rw[if_pos (by rw[List.length_singleton];unfold lim;omega)]
 ·simp only[Ay,List.take_length]
  rw[if_neg (by simp)]
theorem Kk (hD:HN a):GC (Dw a.2.2):=⟨by have:=Ha (cs:=a.2.2);have:=hD.2.2.2.2.1;omega,λr hr=>by
 obtain⟨c,hc,rfl⟩:=FM.1 hr
 have:=JB hD hc
 exact⟨this.1,this.2⟩⟩
theorem K1 (hS:SrchOk V n cs) {code:List Int} {all:List (List Int)} {ops:List Opn} {i:Nat} (hi:i<ops.length) (hlen:ops[i].2.length=n^2)
  (hx:x∈BH V n cs (List.replicate V (-1))) (hy:y∈BH V n cs (List.replicate V (-1))):
  AQ Aa (code,((V:Int),((n:Int),cs)),all,ops,(i:Int),x,y,[],0)=some (code,((V:Int),((n:Int),cs)),all,ops,(i:Int),ET n V ops[i].2 x y):=by
 obtain⟨x1,x2,x3⟩:=(DL hS).1 hx
 obtain⟨y1,y2,y3⟩:=(DL hS).1 hy
 have hV:=hS.hv
 have hn:=hS.hn
 have:=CD V (λf (o:List Int) k=>AQ f (code,((V:Int),((n:Int),cs)),all,ops,(i:Int),x,y,o,k)) (λk=>(ET n V ops[i].2 x y).take k) (r:=some (code,((V:Int),((n:Int),cs)),all,ops,(i:Int),ET n V ops[i].2 x y)) (λf k hk=>?_) (λf=>?_) (n:=Aa) (by unfold Aa;omega)
 ·exact this
 ·have a1:=x2 k hk
  have a2:=y2 k hk
  have hlt:=JN (n:=n) (i:=(x.getD k 0).toNat) (j:=(y.getD k 0).toNat) (by omega) (by omega)
  have hkx:k<x.length:=by omega
  have hky:k<y.length:=by omega
  have h16:n^2<=16:=Nat.pow_le_pow_left hn.2 2
  have gx:gd x (k:Int) 0=((x.getD k 0).toNat:Int):=by rw[Aj hkx,←Ai (d:=0) hkx];omega
  have gy:gd y (k:Int) 0=((y.getD k 0).toNat:Int):=by rw[Aj hky,←Ai (d:=0) hky];omega
  have ew:w64 (w64 (((x.getD k 0).toNat:Int)*(n:Int))+((y.getD k 0).toNat:Int))=(((x.getD k 0).toNat*n+(y.getD k 0).toNat:Nat):Int):=by
   have e1:((x.getD k 0).toNat:Int)*(n:Int)=(((x.getD k 0).toNat*n:Nat):Int):=by push_cast;rfl
   rw[e1,AE (x:=(((x.getD k 0).toNat*n:Nat):Int)) (by omega) (by omega),AE (by omega) (by omega)];push_cast;rfl
  have hin:(x.getD k 0).toNat*n+(y.getD k 0).toNat<ops[i].2.length:=by omega
  have hpl:k<(ET n V ops[i].2 x y).length:=by simpa[ET]using hk
  have htk:(ET n V ops[i].2 x y).take (k+1)=(ET n V ops[i].2 x y).take k++ [ops[i].2[(x.getD k 0).toNat*n+(y.getD k 0).toNat]]:=by
   rw[List.take_succ_eq_append_getElem hpl]
   congr 2
   rw[←Ai (d:=0) hpl,Gz hk,Ai hin]
  simp only[AQ,Ae,hi,hkx,hky,Aj hi,gx,gy,ew,hin,Aj hin,if_true,htk,Ac (show k<4611686018427387904 by omega)]
  rw[if_pos (by rw[decide_eq_true_eq];omega),if_pos (by simp;unfold lim;omega)]
 ·have:(ET n V ops[i].2 x y).take V=ET n V ops[i].2 x y:=List.take_of_length_le (by simp[ET])
  simp only[AQ,this]
  rw[if_neg (by simp)]
theorem K0 (hS:SrchOk V n cs) (hs:FY ((V:Int),((n:Int),cs))) {code:List Int} {all:List (List Int)} (h0:0<all.length) (hl:all.length<=300) (hall: ∀x∈all,x∈BH V n cs (List.replicate V (-1)))
  {ops:List Opn} (hR:RelsOk n 2 (Dw cs)) (ho: ∀f∈ops,f.2∈Yik n 2 (Dw cs) (List.replicate (n^2) (-1))):
  AC Aa (code,((V:Int),((n:Int),cs)),all,ops,0)=some (.inl code):=by
 have hV:=hS.hv
 have:=CD (min ops.length 12) (λf (_:Unit) k=>AC f (code,((V:Int),((n:Int),cs)),all,ops,k)) (λ_=>()) (r:=some (.inl code)) (λf k hk=>?_) (λf=>?_) (n:=Aa) (by unfold Aa;omega)
 ·exact this
 ·have hko:k<ops.length:=by omega
  have m1: ∀z:Nat,z<=1000-> ∃q,q<all.length/\Int.tmod (z:Int) (all.length:Int)=(q:Int):=λz hz=>⟨z%all.length,Nat.mod_lt _ h0,by rw[←Int.ofNat_tmod]⟩
  obtain⟨p,hp,ep⟩:=m1 (k*7) (by omega)
  obtain⟨q,hq,eq⟩:=m1 (k*11+1) (by omega)
  have w1:w64 ((k:Int)*7)=((k*7:Nat):Int):=by rw[AE (by omega) (by omega)];push_cast;rfl
  have w2:w64 (w64 ((k:Int)*11)+1)=((k*11+1:Nat):Int):=by rw[AE (x:=(k:Int)*11) (by omega) (by omega),AE (by omega) (by omega)];push_cast;rfl
  have hx:=hall _ (List.getElem_mem hp)
  have hy:=hall _ (List.getElem_mem hq)
  have ht:=ho _ (List.getElem_mem hko)
  have e1:=K1 (code:=code) (all:=all) hS hko (Gb ht).1 hx hy
  have hsol:=JD hS (rels:=Dw cs) (λc hc=>FM.2 ⟨c,hc,rfl⟩) hR ht hx hy
  have e2:=(JI hs (v:=ET n V ops[k].2 all[p] all[q]) (by simp[ET];omega)).2.2.1
  rw[J7 hS hsol]at e2
  simp only[AC,w1,w2,ep,eq,Ae,hp,hq,Aj hp,Aj hq,if_true,e1,e2,Option.bind_some,Bool.not_true,Bool.false_eq_true,if_false,Ac (show k<4611686018427387904 by omega)]
  rw[if_pos (by rw[decide_eq_true_eq];omega),if_pos (by rw[decide_eq_true_eq];omega),if_pos (by omega),if_pos (by omega)]
 ·simp only[AC]
  by_cases h:ops.length<=12
  ·rw[if_neg (by rw[decide_eq_true_eq];omega)]
  ·by_cases h2:((min ops.length 12:Nat):Int)<(ops.length:Int)
   ·rw[if_pos (decide_eq_true h2),if_neg (by rw[decide_eq_true_eq];omega)]
   ·rw[if_neg (by simpa using h2)]
theorem K2 {V:Nat} {n:Int} (hV:V<=1000) (f:Opn) (w:Net):Ap Aa (((V:Int),(n,cs)),f,w,[],0)=some (((V:Int),(n,cs)),f,w,List.replicate V (-1)):=by
 have:=CD V (λm (o:List Int) k=>Ap m (((V:Int),(n,cs)),f,w,o,k)) (λk=>List.replicate k (-1)) (r:=some (((V:Int),(n,cs)),f,w,List.replicate V (-1))) (λm k hk=>?_) (λm=>?_) (n:=Aa) (by unfold Aa;omega)
 ·exact this
 ·simp only[Ap,Ac (show k<4611686018427387904 by omega),List.replicate_succ']
  rw[if_pos (by rw[decide_eq_true_eq];omega),if_pos (by simp;unfold lim;omega)]
 ·simp only[Ap]
  rw[if_neg (by simp)]
theorem K3 (hS:SrchOk V n cs) {F:Int} {g:List Int} (hg:g.length=n) (hx:x∈BH V n cs (List.replicate V (-1))) (w:Net):
  Aq Aa (((V:Int),((n:Int),cs)),(F,g),w,x,[],0)=some (.inl (w,CQ g x)):=by
 obtain⟨x1,x2,x3⟩:=(DL hS).1 hx
 have hV:=hS.hv
 have hn:=hS.hn
 have:=CD V (λm (o:List Int) k=>Aq m (((V:Int),((n:Int),cs)),(F,g),w,x,o,k)) (λk=>CQ g (x.take k)) (r:=some (.inl (w,CQ g x))) (λm k hk=>?_) (λm=>?_) (n:=Aa) (by unfold Aa;omega)
 ·exact this
 ·have hkx:k<x.length:=by omega
  have a1:=x2 k hk
  rw[Ai hkx]at a1
  have hgv:gd g x[k] 0=Bq g x[k]:=rfl
  have hin:inb x[k] g:=by unfold inb;omega
  have htk:CQ g (x.take (k+1))=CQ g (x.take k)++ [Bq g x[k]]:=by
   unfold CQ
   rw[List.take_succ_eq_append_getElem hkx,List.map_append];rfl
  simp only[Aq,Ae,hkx,Aj hkx,hin,hgv,htk,if_true,Ac (show k<4611686018427387904 by omega)]
  rw[if_pos (by rw[decide_eq_true_eq];omega),if_neg (by rw[decide_eq_true_eq];omega),if_neg (by rw[decide_eq_true_eq];omega),if_neg (by rw[decide_eq_true_eq];omega),if_pos (by simp[CQ];unfold lim;omega)]
 ·have:x.take V=x:=List.take_of_length_le (by omega)
  simp only[Aq,this]
  rw[if_neg (by simp)]
theorem I0 {t2 a:Net} {t3:Opn} (hn:a.2.1<=100): ∀(d f k x:Nat) (c:Dy) (o:List Int),x+d=5->d<f->Cur k c->k+2*d<=1000000->o.length=x->
  ∃c' o',AH f (t2,t3,c,a,(1,o),(x:Int))=some (t2,t3,c',a,(1,o'))/\Cur (k+2*d) c'/\o'.length<=5:=by
 intro d
 induction d with
 |zero=>
  intro f k x c o hx hf hc hk hs
  obtain⟨f,rfl⟩: ∃z,f=z+1:=⟨f-1,by omega⟩
  refine⟨c,o,?_,hc,by omega⟩
  simp only[AH]
  rw[if_neg (show¬decide ((x:Int)<5)=true by rw[decide_eq_true_eq];omega)]
  simp
 |succ d ih=>
  intro f k x c o hx hf hc hk hs
  obtain⟨f,rfl⟩: ∃z,f=z+1:=⟨f-1,by omega⟩
  simp only[AH]
  by_cases h:(x:Int)<a.2.1
  ·obtain⟨c1,y,e2,g2,_⟩:=Dd hc (by omega) a.2.1 (by omega)
   have e2:Ad (c.1,(c.2.1,c.2.2)) a.2.1=_:=e2
   obtain⟨c',o',e3,g3,h3⟩:=ih f (k+2) (x+1) c1 (o++ [y]) (by omega) (by omega) g2 (by omega) (by simp;omega)
   refine⟨c',o',?_,g3.mono (by omega),h3⟩
   rw[if_pos (by simpa using h),if_pos (by simp;omega)]
   simp only[e2,Option.bind_some]
   rw[if_pos (by rw[List.length_singleton];unfold lim;omega),Ac (by omega)]
   exact e3
  ·exact⟨c,o,by rw[if_neg (by simpa using h)],hc.mono (by omega),by omega⟩
theorem F9 {code:List Int} (h1:code.length<=65536) (h2: ∀x∈code,0<=x/\x<256): ∃a f,AG code=some (a,f)/\HN a/\f.2.length<=5:=by
 obtain⟨c1,a,e1,g1,hD⟩:=Gu (k:=0) (c:=(code,(0,0))) ⟨h1,h2,by simp,by simp⟩ (by omega)
 have hn:=hD.2.2.2.1
 obtain⟨c2,o,e2,g2,h3⟩:=I0 (t2:=(0,(0,[]))) (t3:=(0,[])) (a:=a) (by omega) 5 Aa _ 0 c1 [] (by omega) (by unfold Aa;omega) g1 (by omega) (by simp)
 have e2:AH Aa ((0,(0,[])),(0,[]),(c1.1,(c1.2.1,c1.2.2)),(a.1,(a.2.1,a.2.2)),(1,[]),0)=_:=e2
 obtain⟨c3,x,e3,g3⟩:=Gw g2 (by omega) 20 (by omega)
 have e3:Az (c2.1,(c2.2.1,c2.2.2)) 20=_:=e3
 unfold AG
 simp only[e1,e2,e3,Option.bind_some]
 cases x with
 |false=>
  simp only[Bool.false_eq_true,if_false]
  exact⟨a,_,rfl,hD,h3⟩
 |true=>
  obtain⟨c4,y,e4,g4,_⟩:=C8 g3 (by omega) (l:= [0,2]) (by simp) (by simp)
  have e4:Ab (c3.1,(c3.2.1,c3.2.2)) [0,2]=_:=e4
  simp only[if_true,e4,Option.bind_some]
  exact⟨a,_,rfl,hD,h3⟩
end
def Ij (t0:List Int):Option Bool:=
 (AG t0).bind λr40=>
  (AS (r40.1.1,(r40.1.2.1,r40.1.2.2)) (r40.2.1,r40.2.2)).bind λr41=>
   (AT (r40.1.1,(r40.1.2.1,r40.1.2.2)) (r40.2.1,r40.2.2)).bind λr42=>
    if r41.2 !=r42.2 then
     some false
    else
     if(r41.1.2.2.length:Int) !=(r42.1.2.2.length:Int)then
      some false
     else
      if r41.1.1 !=r42.1.1 then
       some false
      else
       if r41.1.2.1 !=r42.1.2.1 then
        some false
       else
        if r41.2 then
         (Ap Aa ((r40.1.1,(r40.1.2.1,r40.1.2.2)),(r40.2.1,r40.2.2),(r41.1.1,(r41.1.2.1,r41.1.2.2)),[],0)).bind λs43=>
          (Bp (s43.1.1,(s43.1.2.1,s43.1.2.2)) s43.2.2.2).bind λr44=>
           if r44.2 then
            (Aq Aa ((s43.1.1,(s43.1.2.1,s43.1.2.2)),(s43.2.1.1,s43.2.1.2),(s43.2.2.1.1,(s43.2.2.1.2.1,s43.2.2.1.2.2)),r44.1,[],0)).bind λs45=>
             match s45 with
             | .inl s46=>
              (Bx (s46.1.1,(s46.1.2.1,s46.1.2.2)) s46.2).bind λr48=>
               if !r48.2 then
                some false
               else
                if !r48.1 then
                 some false
                else
                 some true
             | .inr s47=>
              some s47
           else
            some true
        else
         some true
end T
open Go Go.Va
namespace T
theorem I4 {code:List Int} (h1:code.length<=65536) (h2: ∀x∈code,0<=x/\x<256):Ij code=some true:=by
 obtain⟨a,f,ed,hD,hf⟩:=F9 h1 h2
 have hs:=JA hD
 obtain⟨r1,r2⟩:=H6 (f:=f) hs (by omega)
 have r1:AS (a.1,(a.2.1,a.2.2)) (f.1,f.2)=_:=r1
 have r2:AT (a.1,(a.2.1,a.2.2)) (f.1,f.2)=_:=r2
 have hsm:=Kn (HS (f:=f) hs)
 unfold Ij
 simp only[ed,r1,r2,Option.bind_some,bne_self_eq_false,Bool.false_eq_true,if_false]
 have hR:FL a f=if CR a&&(decide (f.1=1)&&opB a.2.1 f)then((a.1,(a.2.1,a.2.2.map (BS f.2))),true)else((0,(0,[])),false):=rfl
 rw[hR]at hsm⊢
 cases hc:CR a&&(decide (f.1=1)&&opB a.2.1 f)with
 |false=>simp
 |true=>
  rw[hc]at hsm
  simp only[Bool.and_eq_true,decide_eq_true_eq]at hc
  obtain⟨hb,hf1,hop⟩:=hc
  obtain⟨V,n,cs,rfl,hS⟩:=Fv hb
  obtain⟨F,g⟩:=f
  have hV:=hS.hv
  dsimp only at hf1 hop hsm⊢
  subst hf1
  obtain⟨g1,g2⟩:=KP hS.hn hop
  have e3:=K2 (cs:=cs) (V:=V) (n:=(n:Int)) (by omega) (1,g) ((V:Int),((n:Int),cs.map (BS g)))
  have e4:=EI hs (p:=List.replicate V (-1)) (by simp;omega)
  have hpf:=IW hb
  unfold fsV at e4
  simp only[Int.toNat_natCast]at hpf e4
  rw[hb,hpf]at e4
  simp only[Bool.and_self,if_true]at e4 hsm⊢
  simp only[e3,Option.bind_some,e4]
  cases hsl:BH V n cs (List.replicate V (-1))with
  |nil=>simp
  |cons x l=>
   have hx:x∈BH V n cs (List.replicate V (-1)):=by rw[hsl];exact List.mem_cons_self ..
   have e5:=K3 (F:=1) hS g1 hx ((V:Int),((n:Int),cs.map (BS g)))
   have e6:=(JI hsm (v:=CQ g x) (by rw[D7,GE hx];omega)).2.2.1
   rw[I1 hS g1 g2 hx]at e6
   simp only[if_true,e5,Option.bind_some,e6,Bool.not_true,Bool.false_eq_true,if_false]
theorem EW {V n:Nat} {cs:List Con} (hs:FY ((V:Int),((n:Int),cs))) (h:SrchOk V n cs):BN ((V:Int),((n:Int),cs))=some (H7 (BH V n cs (List.replicate V (-1)))):=by
 have hV:=h.hv
 unfold BN
 rw[Df (a:=((V:Int),((n:Int),cs))) hs,Et h]
 simp only[Option.bind_some,Bool.not_true,Bool.false_eq_true,if_false,HE (show V<=1000 by omega)]
 have key: ∀(l:List (List Int)) (s:List (List Int)) (k:Int),k=(s.length:Int)∨300<k->0<=k-> ∃s' b,AF GQ l (s,k,300,false)=some ((s',k+l.length,300,false),b)/\(k+l.length<=300->k=(s.length:Int)->s'=s++l):=by
  intro l
  induction l with
  |nil=>intro s k _ _;exact⟨s,true,by simp[AF],λ_ _=>by simp⟩
  |cons t l ih=>
   intro s k hk h0
   have hst:Eh ((if decide ((s.length:Int)<300)then s++ [t]else s,k+1,300,false):S19)=false:=rfl
   obtain⟨s',b,e,h3⟩:=ih (if decide ((s.length:Int)<300)then s++ [t]else s) (k+1) (by
    rcases hk with hk|hk
    ·by_cases hl:(s.length:Int)<300
     ·left;rw[if_pos (decide_eq_true hl)];simp;omega
     ·right;omega
    ·right;omega) (by omega)
   refine⟨s',b,?_,λh4 h5=>?_⟩
   ·simp only[AF,GQ,hst,Bool.not_false]
    rw[List.length_cons]
    push_cast
    rw[show k+((l.length:Int)+1)=k+1+(l.length:Int) by omega]
    exact e
   ·rw[List.length_cons]at h4
    push_cast at h4
    have hl:(s.length:Int)<300:=by omega
    rw[if_pos (decide_eq_true hl)]at h3
    have:=h3 (by omega) (by simp;omega)
    rw[this];simp
 obtain⟨s',b,e,h3⟩:=key (BH V n cs (List.replicate V (-1))) [] 0 (.inl (by simp)) (by omega)
 have e5:=IM (cs0:=cs) (given:=List.replicate V (-1)) (most:=300) (one:=false) h (by simp) (by omega) e
 rw[e5]
 simp only[Option.bind_some,H7]
 by_cases hl:(BH V n cs (List.replicate V (-1))).length<=300
 ·have:=h3 (by omega) (by simp)
  subst this
  rw[if_neg (by rw[decide_eq_true_eq];omega),if_pos (by simp;unfold lim;omega),if_pos hl];simp
 ·rw[if_pos (by rw[decide_eq_true_eq];omega),if_neg hl]
theorem Fy {a:Net} (hs:FY a): ∃R:List (List Int)×Bool,BJ a=some R/\BN a=some R/\(CR a=false->R=([],false))/\ ∀(V n:Nat) (cs:List Con),a=((V:Int),((n:Int),cs))->SrchOk V n cs->R=H7 (BH V n cs (List.replicate V (-1))):=by
 cases hb:CR a with
 |false=>
  refine⟨([],false),?_,?_,λ_=>rfl,λV n cs e h=>?_⟩
  ·unfold BJ
   rw[Cj (a:=(a.1,(a.2.1,a.2.2))) hs,show CR (a.1,(a.2.1,a.2.2))=CR a from rfl,hb];rfl
  ·unfold BN
   rw[Df (a:=(a.1,(a.2.1,a.2.2))) hs,show CR (a.1,(a.2.1,a.2.2))=CR a from rfl,hb];rfl
  ·rw[e,Et h]at hb;exact absurd hb (by simp)
 |true=>
  obtain⟨V,n,cs,rfl,hS⟩:=Fv hb
  refine⟨_,IG hS,EW hs hS,λh=>(by cases h),λV' n' cs' e h=>?_⟩
  simp only[Prod.mk.injEq]at e
  obtain⟨e1,e2,rfl⟩:=e
  obtain rfl:V=V':=by omega
  obtain rfl:n=n':=by omega
  rfl
theorem FnSolutionsKept_law {code:List Int} (h:wfT (.slice (.num .u8)) code):DK code=some true:=by
 unfold DK G3
 simp only[Option.bind_some]
 by_cases hb:(code.length:Int)>65536
 ·rw[if_pos (decide_eq_true hb)]
 ·rw[if_neg (by simpa using hb)]
  have h1:code.length<=65536:=by omega
  have h2: ∀x∈code,0<=x/\x<256:=λx hx=>by
   have:IntKind.u8.min<=x/\x<=IntKind.u8.max:=h.2 x hx
   have e1:IntKind.u8.min=0:=by decide
   have e2:IntKind.u8.max=255:=by decide
   omega
  have hT:=I4 h1 h2
  unfold Ij at hT
  obtain⟨c1,a,e1,_,hD⟩:=Gu (k:=0) (c:=(code,(0,0))) ⟨h1,h2,by simp,by simp⟩ (by omega)
  have e2:CM code=some a:=by
   unfold CM D5
   rw[e1];rfl
  have hS:=JA hD
  obtain⟨R,r1,r2,r3,r4⟩:=Fy hS
  have r1:BJ (a.1,(a.2.1,a.2.2))=_:=r1
  have r2:BN (a.1,(a.2.1,a.2.2))=_:=r2
  have hRs:R.1.length<=300/\ ∀t∈R.1,t.length<=1048576:=by
   cases hb:CR a with
   |false=>rw[r3 hb];simp
   |true=>
    obtain⟨V,n,cs,rfl,hO⟩:=Fv hb
    have hV:=hO.hv
    rw[r4 V n cs rfl hO]
    unfold H7
    split
    ·exact⟨by assumption,λt ht=>by rw[GE ht];omega⟩
    ·simp
  have r5:=G9 (a:=R.1) (b:=R.1) (by omega) hRs.2
  have e3:Ay Aa (code,(a.1,(a.2.1,a.2.2)),R.1,R.2,[],0)=_:=KY (a:=a) (code:=code) (all:=R.1) (ok:=R.2) hD
  simp only[e2,r1,r2,r5,e3,Option.bind_some,bne_self_eq_false,decide_true,Bool.not_true,Bool.false_eq_true,if_false]
  cases hR2:R.2 with
  |false=>
   simp only[Bool.false_eq_true,if_false]
   exact hT
  |true=>
   simp only[if_true]
   by_cases h4:((Dw a.2.2).length:Int)<=4
   ·rw[if_pos (decide_eq_true h4)]
    by_cases h0:(R.1.length:Int)>0
    ·rw[if_pos (decide_eq_true h0)]
     have hrs:=Kk hD
     obtain⟨P,p1,p2,p3⟩:=Fb (n:=a.2.1) (k:=2) hrs
     have ro:=IZ p3.1 p3.2
     simp only[p1,p2,ro,Option.bind_some,bne_self_eq_false,Bool.not_true,Bool.false_eq_true,if_false]
     have hb:CR a=true:=by
      cases hb:CR a with
      |true=>rfl
      |false=>rw[r3 hb]at hR2;simp at hR2
     obtain⟨V,n,cs,rfl,hO⟩:=Fv hb
     have e4:AC Aa (code,((V:Int),((n:Int),cs)),R.1,P.1,0)=some (.inl code):=by
      have hRv:=r4 V n cs rfl hO
      have hall: ∀x∈R.1,x∈BH V n cs (List.replicate V (-1)):=λx hx=>by
       rw[hRv]at hx
       unfold H7 at hx
       split at hx
       ·exact hx
       ·simp at hx
      cases hp:EE (n:Int) (Dw cs) 2 with
      |false=>
       have e:=E5 hrs hp
       rw[p1]at e
       have e:=Option.some.inj e
       subst e
       rfl
      |true=>
       obtain⟨_,_,_,hRel⟩:=Gy hp
       have e:=E6 hrs hp
       rw[p1]at e
       have e:=Option.some.inj e
       simp only[Int.toNat_natCast]at hRel e
       refine K0 hO hS (by omega) hRs.1 hall hRel λf hf=>?_
       rw[e]at hf
       unfold Fa at hf
       split at hf
       ·obtain⟨t,ht,rfl⟩:=List.mem_map.1 hf
        exact ht
       ·simp at hf
     simp only[e4,Option.bind_some]
     exact hT
    ·rw[if_neg (by simpa using h0)]
     exact hT
   ·rw[if_neg (by simpa using h4)]
    exact hT
end T
open Go Go.Va
namespace T
section
variable {a:Net} {K:Nat} {c:Con} {i p n:Nat} {st:ASt}
def JO (d:Dom) (V:Nat) (t:List Int):Prop:= ∀u,u<V->d2 d u (t.getD u 0).toNat=true
end
end T
open Go Go.Va
namespace T
section
variable {a:Net} {n s:Nat} {t:T4} {u:T3}
def K9 (a:Net) (i j k x y z:Nat):Prop:= ∀c∈a.2.2,(∀v∈c.1,v=(i:Int)∨v=(j:Int)∨v=(k:Int))-> ∀vs:List Int,Bq vs (i:Int)=(x:Int)->Bq vs (j:Int)=(y:Int)->Bq vs (k:Int)=(z:Int)->Dn vs c=true
structure Fam (a:Net) (n s:Nat) (S:Nat->Nat->Nat->Nat->Prop):Prop where
 sym: ∀i j x y,S i j x y->S j i y x
 first: ∀i j x y,i<j->j<n->x<s->y<s->S i j x y->fB a n i j x y=true
 path: ∀i j k x y,i<n->j<n->k<n->i≠j->k≠i->k≠j->x<s->y<s->S i j x y-> ∃z,z<s/\S i k x z/\S j k y z/\K9 a i j k x y z
structure MinP (a:Net) (n s:Nat) (t:T4) (u:T3):Prop where
 rel:Rel34 n s t u
 sym: ∀i j x y,i<n->j<n->i≠j->x<s->y<s->r4 t i j x y=r4 t j i y x
 first: ∀i j x y,i<n->j<n->i≠j->x<s->y<s->r4 t i j x y=true->fB a n i j x y=true
 path: ∀i j k x y,i<n->j<n->k<n->i≠j->k≠i->k≠j->x<s->y<s->r4 t i j x y=true-> ∃z,z<s/\r4 t i k x z=true/\r4 t j k y z=true/\K9 a i j k x y z
 all: ∀S,Fam a n s S-> ∀i j x y,i<n->j<n->i≠j->x<s->y<s->S i j x y->r4 t i j x y=true
end
end T
open Go Go.Va
namespace T
section
variable {a:Net} {n s:Nat} {t:T4} {u:T3} {F:Nat->Nat->Nat->Nat}
theorem Kv (hM:MinP a n s t u) {w w' v x y:Nat} (hw:w<n) (hw':w'<n) (hv:v<n) (h1:w≠w') (h2:w≠v) (h3:w'≠v) (hx:x<s) (hy:y<s) (h:r4 t w' v y x=true): ∃z,z<s/\r4 t w v z x=true:=by
 obtain⟨z,hz,_,q,_⟩:=hM.path w' v w y x hw' hv hw h3 h1 h2 hy hx h
 exact⟨z,hz,by rw[hM.sym w v z x hw hv h2 hz hx];exact q⟩
theorem Ll (p q:Nat): ∃w,w<3/\w≠p/\w≠q:=by
 by_cases h0:0≠p/\0≠q
 ·exact⟨0,by omega,h0.1,h0.2⟩
 ·by_cases h1:1≠p/\1≠q
  ·exact⟨1,by omega,h1.1,h1.2⟩
  ·exact⟨2,by omega,by omega,by omega⟩
end
end T
open Go Go.Va
namespace T
def Jc (n k:Nat) (T:List Int) (x y z:List Int):List Int:=(List.range k).map λj=>T.getD (((x.getD j 0).toNat*n+(y.getD j 0).toNat)*n+(z.getD j 0).toNat) 0
structure T3Ok (n k:Nat) (T:List Int):Prop where
 hn:1<=n/\n<=8
 hk:1<=k/\k<=4
 tl:T.length=n*n*n
 tv: ∀x∈T,0<=x/\x<(n:Int)
def TpOk (n k:Nat) (t:List Int):Prop:=t.length=k/\ ∀x∈t,0<=x/\x<(n:Int)
inductive Clo (n k:Nat) (T:List Int) (gens:List (List Int)):List Int->Prop
 |gen {t:List Int}:t∈gens->Clo n k T gens t
 |app {x y z:List Int}:Clo n k T gens x->Clo n k T gens y->Clo n k T gens z->Clo n k T gens (Jc n k T x y z)
section
variable {n k:Nat} {T:List Int} {gens:List (List Int)}
theorem TpOk.get {t:List Int} (h:TpOk n k t) {j:Nat} (hj:j<k):(t.getD j 0).toNat<n/\t.getD j 0=(((t.getD j 0).toNat:Nat):Int)/\j<t.length:=by
 have h1:j<t.length:=by have:=h.1;omega
 have:=h.2 _ (List.getElem_mem h1)
 rw[Ai h1]
 exact⟨by omega,by omega,h1⟩
theorem at_lt {a b c:Nat} (ha:a<n) (hb:b<n) (hc:c<n):(a*n+b)*n+c<n*n*n:=by
 have h1:(a+1)*n<=n*n:=Nat.mul_le_mul_right _ ha
 have h2:(a*n+b+1)*n<=n*n*n:=Nat.mul_le_mul_right _ (by rw[Nat.succ_mul]at h1;omega)
 rw[Nat.succ_mul]at h2;omega
theorem JQ (h:T3Ok n k T) {x y z:List Int} (hx:TpOk n k x) (hy:TpOk n k y) (hz:TpOk n k z):TpOk n k (Jc n k T x y z):=by
 refine⟨by simp[Jc],λv hv=>?_⟩
 obtain⟨j,hj,rfl⟩:=List.mem_map.1 hv
 have hj:=List.mem_range.1 hj
 have:=at_lt (hx.get hj).1 (hy.get hj).1 (hz.get hj).1
 rw[←h.tl]at this
 rw[Ai this]
 exact h.tv _ (List.getElem_mem _)
theorem Clo.ok (h:T3Ok n k T) (hg: ∀t∈gens,TpOk n k t) {t:List Int} (c:Clo n k T gens t):TpOk n k t:=by
 induction c with
 |gen h=>exact hg _ h
 |app _ _ _ i1 i2 i3=>exact JQ h i1 i2 i3
def Closd (n k:Nat) (T:List Int) (L:List (List Int)):Prop:= ∀x∈L,∀y∈L,∀z∈L,Jc n k T x y z∈L
theorem Closd.mem {L:List (List Int)} (hg: ∀t∈gens,t∈L) (hc:Closd n k T L) {t:List Int} (c:Clo n k T gens t):t∈L:=by
 induction c with
 |gen h=>exact hg _ h
 |app _ _ _ i1 i2 i3=>exact hc _ i1 _ i2 _ i3
end
end T
open Go Go.Va
namespace T
section
variable {n k:Nat} {T:List Int} {gens:List (List Int)}
def Ln (n k:Nat) (T:List Int) (p:List (List Int)):List Int:=Jc n k T (p.getD 0 []) (p.getD 1 []) (p.getD 2 [])
def Need (n k:Nat) (T:List Int) (L0:List (List Int)) (old many:Nat):Nat->List (List Int)->Bool->List (List Int)->Prop
 |0,p,fr,M=>fr=true->Ln n k T p∈M
 |r+1,p,fr,M=> ∀i,i<many->Need n k T L0 old many r (p++ [L0.getD i []]) (fr||decide (old<=i)) M
theorem Need.mono {L0:List (List Int)} {old many:Nat}: ∀(r:Nat) (p:List (List Int)) (fr:Bool) {M M':List (List Int)},(∀t∈M,t∈M')->Need n k T L0 old many r p fr M->Need n k T L0 old many r p fr M'
 |0,p,fr,M,M',hs,h=>λe=>hs _ (h e)
 |r+1,p,fr,M,M',hs,h=>λi hi=>Need.mono r _ _ hs (h i hi)
end
end T
open Go Go.Va
namespace T
section
variable {p:Int} {V W N k:Nat} {ts:List (List Int)} {f:Nat->Int} {A:List (List Int)}
def TpI (p:Int) (V:Nat) (x:List Int):Prop:=x.length=V/\ ∀y∈x,0<=y/\y<p
theorem TpI.get {x:List Int} (h:TpI p V x) {i:Nat} (hi:i<V):0<=x.getD i 0/\x.getD i 0<p:=by
 have h1:i<x.length:=by have:=h.1;omega
 rw[Ai h1];exact h.2 _ (List.getElem_mem h1)
end
end T
open Go Go.Va
namespace T
section
variable {n:Int} {k:Nat} {ts W:List (List Int)}
def WitOf (ts:List (List Int)) (k:Nat) (W:List (List Int)):Prop:= ∀w,w∈W↔ ∃(i:Nat) (x y:Int) (p q:Nat),i<k/\JC ts i x y=some (p,q)/\(w=ts.getD p []∨w=ts.getD q [])
theorem WitOf.sub (h:WitOf ts k W) {w:List Int} (hw:w∈W):w∈ts:=by
 obtain⟨i,x,y,p,q,_,h2,h3⟩:=(h w).1 hw
 obtain⟨g1,g2,_⟩:=Ie h2
 rcases h3 with rfl|rfl
 ·exact Fl g1
 ·exact Fl g2
theorem WitOf.set {N:Int} {kk:Int} (h:WitOf ts kk.toNat W) (hs:KX N kk ts=true) (hi:CL W=true):KX N kk W=true:=by
 unfold KX at hs⊢
 simp only[Bool.and_eq_true,List.all_eq_true]at hs⊢
 exact⟨⟨hs.1.1,λw hw=>hs.1.2 w (h.sub hw)⟩,hi⟩
end
end T
