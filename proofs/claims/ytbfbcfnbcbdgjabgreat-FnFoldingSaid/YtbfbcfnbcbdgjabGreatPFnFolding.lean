/- Plain lemmas on the typed functions of the program, and the plain law of FnFolding; no conditions. -/
import Derived.Test.YtbfbcfnbcbdgjabGreatV1
import Derived.Test.YtbfbcfnbcbdgjabGreatV5
import Derived.KernelRfl
import Derived.Test.YtbfbcfnbcbdgjabGreatOFnFolding
set_option linter.all false
open Go Go.Va
namespace T
abbrev NS:=Bool×Int×List (List (List Int))×List (List (List ByteArray))
abbrev NIn (σ:Type):=Int×List Int×σ×NS×List Int×Unit
abbrev Me (σ:Type):=List Int×σ×NS×List Int×Bool
def hM {σ:Type}:Nat->(Int×List Int×σ×NS×List Int×Unit×Int×Bool×List (List Int)×Int×Int)->Option (Int×List Int×σ×NS×List Int×Unit×Int×Bool)
 |0,_=>none
 |n+1,(t0,t1,t2,t3,t4,t5,t8,t9,t50,t51,t52)=>
 if decide (t52<t51)then
 if inb t52 t50 then
 if t9 then
 if t3.1=true then
 if inb t0 t3.2.2.2 then
 if inb t52 (gd t3.2.2.2 t0 [])then
 (Dc (gd t50 t52 []) t1).bind λr2=>
 (DE r2).bind λr3=>
 hM n (t0,t1,t2,t3,t4,(),t8,Ybm (gd (gd t3.2.2.2 t0 []) t52 []) r3,t50,t51,w64 (t52+1))
 else none
 else none
 else none
 else
 hM n (t0,t1,t2,t3,t4,(),t8,false,t50,t51,w64 (t52+1))
 else none
 else
 some (t0,t1,t2,t3,t4,(),t8,t9)
def hL {σ:Type} (rec:NIn σ->Option (Me σ)):Nat->(Int×List Int×σ×NS×List Int×Unit×Int)->Option ((List Int×σ×NS×List Int×Unit)⊕(List Int×σ×NS×List Int×Unit×Bool))
 |0,_=>none
 |n+1,(t0,t1,t2,t3,t4,t5,t8)=>
 if t3.1=true then
 if decide (t8<t3.2.1)then
 if inb t0 t4 then
 if decide ((gd t4 t0 0)≥0)then
 if inb t0 t4 then
 if(gd t4 t0 0) !=t8 then
 hL rec n (t0,t1,t2,t3,t4,(),w64 (t8+1))
 else
 if inb t0 t1 then
 if t3.1=true then
 if inb t0 t3.2.2.1 then
 (hM Aa (t0,stt t1 t0 t8,t2,t3,t4,(),t8,true,gd t3.2.2.1 t0 [],((gd t3.2.2.1 t0 []).length:Int),0)).bind λs2=>
 if s2.2.2.2.2.2.2.2 then
 (rec (w64 (s2.1+1),s2.2.1,s2.2.2.1,s2.2.2.2.1,s2.2.2.2.2.1,())).bind λr3=>
 if !r3.2.2.2.2 then
 some (.inr (r3.1,r3.2.1,r3.2.2.1,r3.2.2.2.1,(),false))
 else
 hL rec n (s2.1,r3.1,r3.2.1,r3.2.2.1,r3.2.2.2.1,(),w64 (s2.2.2.2.2.2.2.1+1))
 else
 hL rec n (s2.1,s2.2.1,s2.2.2.1,s2.2.2.2.1,s2.2.2.2.2.1,(),w64 (s2.2.2.2.2.2.2.1+1))
 else none
 else none
 else none
 else none
 else
 if inb t0 t1 then
 if t3.1=true then
 if inb t0 t3.2.2.1 then
 (hM Aa (t0,stt t1 t0 t8,t2,t3,t4,(),t8,true,gd t3.2.2.1 t0 [],((gd t3.2.2.1 t0 []).length:Int),0)).bind λs4=>
 if s4.2.2.2.2.2.2.2 then
 (rec (w64 (s4.1+1),s4.2.1,s4.2.2.1,s4.2.2.2.1,s4.2.2.2.2.1,())).bind λr5=>
 if !r5.2.2.2.2 then
 some (.inr (r5.1,r5.2.1,r5.2.2.1,r5.2.2.2.1,(),false))
 else
 hL rec n (s4.1,r5.1,r5.2.1,r5.2.2.1,r5.2.2.2.1,(),w64 (s4.2.2.2.2.2.2.1+1))
 else
 hL rec n (s4.1,s4.2.1,s4.2.2.1,s4.2.2.2.1,s4.2.2.2.2.1,(),w64 (s4.2.2.2.2.2.2.1+1))
 else none
 else none
 else none
 else none
 else
 some (.inl (t1,t2,t3,t4,()))
 else none
def KF {σ:Type} (cb:List Int->σ->Option (σ×Bool)) (rec:NIn σ->Option (Me σ)) (x:NIn σ):Option (Me σ):=
 if x.1==(x.2.1.length:Int)then
  (cb x.2.1 x.2.2.1).bind λr1=>some (x.2.1,r1.1,x.2.2.2.1,x.2.2.2.2.1,r1.2)
 else
  (hL rec Aa (x.1,x.2.1,x.2.2.1,x.2.2.2.1,x.2.2.2.2.1,(),0)).bind λs2=>
   match s2 with
   | .inl s3=>some (s3.1,s3.2.1,s3.2.2.1,s3.2.2.2.1,true)
   | .inr s4=>some (s4.1,s4.2.1,s4.2.2.1,s4.2.2.2.1,s4.2.2.2.2.2)
def hF {σ:Type} (cb:List Int->σ->Option (σ×Bool)):Nat->NIn σ->Option (Me σ)
 |0,_=>none
 |d+1,x=>KF cb (hF cb d) x
def DG (c:Con):Nat:=c.1.foldl (λm v=>max m v.toNat) 0
def A9 (cs:List Con) (v:Nat):List Con:=cs.filter λc=>DG c==v
def AW (cs:List Con) (V:Nat):List (List (List Int)):=(List.range V).map λv=>(A9 cs v).map (·.1)
def Dj (cs:List Con) (V:Nat):List (List (List ByteArray)):=(List.range V).map λv=>(A9 cs v).map λc=>El c.2.2
def okN (cs:List Con) (pre:List Int):Bool:=(A9 cs (pre.length-1)).all (EH pre)
theorem JV: ∀(l:List Int) (m:Nat),m<=l.foldl (λm v=>max m v.toNat) m/\(∀v∈l,v.toNat<=l.foldl (λm v=>max m v.toNat) m)/\ ∀B,m<=B->(∀v∈l,v.toNat<=B)->l.foldl (λm v=>max m v.toNat) m<=B
 | [],m=>⟨Nat.le_refl _,by simp,λB h _=>h⟩
 |v::l,m=>by
  obtain⟨h1,h2,h3⟩:=JV l (max m v.toNat)
  simp only[List.foldl_cons]
  refine⟨by omega,λw hw=>?_,λB h h'=>h3 B (by have:=h' v (List.mem_cons_self ..);omega) λw hw=>h' w (List.mem_cons_of_mem _ hw)⟩
  rcases List.mem_cons.1 hw with rfl|hw
  ·omega
  ·exact h2 w hw
section
variable {V n:Nat} {cs:List Con} {given:List Int}
structure SrchOk (V n:Nat) (cs:List Con):Prop where
 hv:V<=9
 hn:1<=n/\n<=4
 hc:cs.length<=40
 con: ∀c∈cs,ConOk (V:Int) (n:Int) c
theorem GT {c:Con} {v:Nat}:c∈A9 cs v↔c∈cs/\DG c=v:=by simp[A9]
theorem Hh (h:SrchOk V n cs) {v:Nat} {c:Con} (hc:c∈A9 cs v):ConOk ((v+1:Nat):Int) (n:Int) c/\v<V:=by
 obtain⟨h1,h2⟩:=GT.1 hc
 have hk:=h.con c h1
 obtain⟨_,g2,g3⟩:=JV c.1 0
 have hv:v<V:=by
  have hm:=hk.ar
  have hsl:=hk.sl
  have h0:=hk.sv 0 (by omega)
  have:=g3 (V-1) (by omega) λw hw=>by
   obtain⟨i,hi,rfl⟩:=List.mem_iff_getElem.1 hw
   have:=hk.sv i hi
   omega
  have:DG c<=V-1:=this
  omega
 refine⟨⟨hk.ar,hk.sl,λi hi=>?_,hk.tl,hk.tv,hk.inc,hk.many⟩,hv⟩
 have h3:=hk.sv i hi
 have h4:=g2 _ (List.getElem_mem hi)
 have h4:(c.1[i]).toNat<=DG c:=h4
 omega
theorem IY (h:SrchOk V n cs) {v:Nat} {c:Con} (hc:c∈A9 cs v) (tab:List Int):EH (tab.take (v+1)) c=EH tab c:=by
 have hk:=(Hh h hc).1
 unfold EH
 have:c.1.map (B9 (tab.take (v+1)))=c.1.map (B9 tab):=List.map_congr_left λx hx=>by
  obtain⟨i,hi,rfl⟩:=List.mem_iff_getElem.1 hx
  have:=hk.sv i hi
  unfold B9
  rw[List.getD_eq_getElem?_getD,List.getD_eq_getElem?_getD,List.getElem?_take,if_pos (by omega)]
 rw[this]
theorem Iv (h:SrchOk V n cs) {v:Nat} {tab:List Int} (hv:v<tab.length):okN cs (tab.take (v+1))=(A9 cs v).all (EH tab):=by
 unfold okN
 rw[List.length_take,show min (v+1) tab.length-1=v by omega,Bool.eq_iff_iff,List.all_eq_true,List.all_eq_true]
 exact⟨λg c hc=>by rw[←IY h hc];exact g c hc,λg c hc=>by rw[IY h hc];exact g c hc⟩
theorem GC {v:Nat} (hv:v<V):(AW cs V).length=V/\(AW cs V).getD v []=(A9 cs v).map (·.1):=by
 refine⟨by simp[AW],?_⟩
 rw[Ag (by simp[AW];exact hv)];simp[AW]
theorem Jf {v:Nat} (hv:v<V):(Dj cs V).length=V/\(Dj cs V).getD v []=(A9 cs v).map λc=>El c.2.2:=by
 refine⟨by simp[Dj],?_⟩
 rw[Ag (by simp[Dj];exact hv)];simp[Dj]
theorem NF (h:SrchOk V n cs) {v:Nat} (hv:v<V) {tab:List Int} (ht:tab.length=V) (htv: ∀x∈tab,0<=x/\x<256) {σ:Type} (s:σ) (x:Int):
  hM Aa ((v:Int),tab,s,(true,((n:Int),(AW cs V,Dj cs V))),given,(),x,true,gd (AW cs V) (v:Int) [],((gd (AW cs V) (v:Int) []).length:Int),0)=
   some ((v:Int),tab,s,(true,((n:Int),(AW cs V,Dj cs V))),given,(),x,okN cs (tab.take (v+1))):=by
 obtain⟨l1,e1⟩:=GC (cs:=cs) hv
 obtain⟨l2,e2⟩:=Jf (cs:=cs) hv
 have hn:=h.hn
 have hg1:gd (AW cs V) (v:Int) []=(A9 cs v).map (·.1):=e1
 have hg2:gd (Dj cs V) (v:Int) []=(A9 cs v).map λc=>El c.2.2:=e2
 rw[Iv h (by omega),hg1]
 have hlen:(A9 cs v).length<=40:=Nat.le_trans (List.length_filter_le _ _) h.hc
 have:=Ca (A9 cs v).length (λf (o:Bool) i=>hM f ((v:Int),tab,s,(true,((n:Int),(AW cs V,Dj cs V))),given,(),x,o,(A9 cs v).map (·.1),(((A9 cs v).map (·.1)).length:Int),i)) (λk=>((A9 cs v).take k).all (EH tab)) (r:=some ((v:Int),tab,s,(true,((n:Int),(AW cs V,Dj cs V))),given,(),x,(A9 cs v).all (EH tab))) (λf k hk=>?_) (λf=>?_) (n:=Aa) (by unfold Aa;omega)
 ·exact this
 ·have hmem:=List.getElem_mem hk
  have hcon:=(Hh h hmem).1
  have hsl:=hcon.sl
  have har:=hcon.ar
  have hmany:=hcon.many
  have hin:inb (k:Int) ((A9 cs v).map (·.1)):=by unfold inb;rw[List.length_map];omega
  have hgk:gd ((A9 cs v).map (·.1)) (k:Int) []=(A9 cs v)[k].1:=by
   have:=Af (xs:=(A9 cs v).map (·.1)) (d:= []) (k:=k) (by simpa using hk)
   rw[this];simp
  have hin2:inb (k:Int) ((A9 cs v).map λc=>El c.2.2):=by unfold inb;rw[List.length_map];omega
  have hgk2:gd ((A9 cs v).map λc=>El c.2.2) (k:Int) []=El (A9 cs v)[k].2.2:=by
   have:=Af (xs:=(A9 cs v).map λc=>El c.2.2) (d:= []) (k:=k) (by simpa using hk)
   rw[this];simp
  have hsc: ∀y∈(A9 cs v)[k].1,0<=y/\y<tab.length:=λy hy=>by
   obtain⟨i,hi,rfl⟩:=List.mem_iff_getElem.1 hy
   have:=hcon.sv i hi
   omega
  have hc:=EW (f:=(A9 cs v)[k].1) (g:=tab) (by omega) hsc
  have hval: ∀y∈(A9 cs v)[k].1.map (B9 tab),0<=y/\y<256:=λy hy=>by
   obtain⟨z,hz,rfl⟩:=List.mem_map.1 hy
   have:=hsc z hz
   exact htv _ (JO (by omega))
  have hk2:=EM (l:=(A9 cs v)[k].1.map (B9 tab)) (by rw[List.length_map];omega) hval
  have hmk:=HE (l:=(A9 cs v)[k].2.2) (t:=(A9 cs v)[k].1.map (B9 tab)) (λt ht y hy=>by
   obtain⟨i,hi,rfl⟩:=List.mem_iff_getElem.1 hy
   have:=hcon.tv t ht i hi
   omega) hval
  have hiv:inb (v:Int) (Dj cs V):=by unfold inb;omega
  have htk:((A9 cs v).take (k+1)).all (EH tab)=(((A9 cs v).take k).all (EH tab)&&EH tab (A9 cs v)[k]):=by
   rw[List.take_succ_eq_append_getElem hk,List.all_append];simp
  simp only[hM,hin,hgk,hc,hk2,hiv,hg2,hin2,hgk2,hmk,Option.bind_some,Ac (show k<4611686018427387904 by omega),htk,if_true]
  rw[if_pos (by simp;omega)]
  cases ((A9 cs v).take k).all (EH tab)with
  |false=>simp
  |true=>simp[EH]
 ·simp only[hM,List.take_length]
  rw[if_neg (by simp)]
end
end T
open Go Go.Va
namespace T
section
variable {V n:Nat} {cs:List Con} {given:List Int}
abbrev Iu (V n:Nat) (cs:List Con):NS:=(true,((n:Int),(AW cs V,Dj cs V)))
theorem ND (h:SrchOk V n cs) (hg:given.length=V) {σ:Type} (cb:List Int->σ->Option (σ×Bool)): ∀(m d at':Nat) (tab:List Int) (s:σ),at'+m=V->m<d->tab.length=V->(∀x∈tab,0<=x/\x<256)->
    ∀s' b,BR cb (Dh n given (okN cs) m (tab.take at')) s=some (s',b)->
    ∃tab':List Int,tab'.length=V/\(∀x∈tab',0<=x/\x<256)/\tab'.take at'=tab.take at'/\hF cb d ((at':Int),tab,s,Iu V n cs,given,())=some (tab',s',Iu V n cs,given,b):=by
  have hn:=h.hn
  have hV:=h.hv
  intro m
  induction m with
  |zero=>
    intro d a tab s ha hd ht hv s' b hf
    obtain⟨d,rfl⟩: ∃z,d=z+1:=⟨d-1,by omega⟩
    have e:tab.take a=tab:=List.take_of_length_le (by omega)
    rw[e]at hf
    simp only[Dh,BR]at hf
    refine⟨tab,ht,hv,rfl,?_⟩
    simp only[hF,KF]
    rw[if_pos (by simp;omega)]
    cases hc:cb tab s with
    |none=>rw[hc]at hf;exact absurd hf (by simp)
    |some q=>
      obtain⟨s1,b1⟩:=q
      rw[hc]at hf
      have:s1=s'/\b1=b:=by cases b1<;>simpa using hf
      obtain⟨rfl,rfl⟩:=this
      rfl
  |succ m ih=>
    intro d a tab s ha hd ht hv s' b hf
    obtain⟨d,rfl⟩: ∃z,d=z+1:=⟨d-1,by omega⟩
    have hat:a<V:=by omega
    have key: ∀(c x f:Nat) (tab1:List Int) (s1:σ),x+c=n->c<f->tab1.length=V->(∀x∈tab1,0<=x/\x<256)->tab1.take a=tab.take a-> ∀s' b,
        BR cb ((List.range' x c).flatMap λx=>if DQ given (tab.take a).length x&&okN cs (tab.take a++ [(x:Int)])then Dh n given (okN cs) m (tab.take a++ [(x:Int)])else []) s1=some (s',b)->
        ∃tab':List Int,tab'.length=V/\(∀x∈tab',0<=x/\x<256)/\tab'.take a=tab.take a/\hL (hF cb d) f ((a:Int),tab1,s1,Iu V n cs,given,(),(x:Int))=some (if b then .inl (tab',s',Iu V n cs,given,())else .inr (tab',s',Iu V n cs,given,(),false)):=by
      intro c
      induction c with
      |zero=>
        intro x f tab1 s1 hx hf1 ht1 hv1 htk s' b hf2
        obtain⟨f,rfl⟩: ∃z,f=z+1:=⟨f-1,by omega⟩
        have:s1=s'/\true=b:=by simpa[BR]using hf2
        obtain⟨rfl,rfl⟩:=this
        refine⟨tab1,ht1,hv1,htk,?_⟩
        simp only[hL]
        rw[if_pos trivial,if_neg (by simp;omega)];rfl
      |succ c ihc=>
        intro x f tab1 s1 hx hf1 ht1 hv1 htk s' b hf2
        obtain⟨f,rfl⟩: ∃z,f=z+1:=⟨f-1,by omega⟩
        have hlen:(tab.take a).length=a:=by rw[List.length_take];omega
        have hag:a<given.length:=by omega
        have hat1:a<tab1.length:=by omega
        have hsc:a<(AW cs V).length:=by rw[(GC (cs:=cs) hat).1];exact hat
        rw[List.range'_succ,List.flatMap_cons,E6,hlen]at hf2
        rw[hlen]at ihc
        have hset:(tab1.set a (x:Int)).take (a+1)=tab.take a++ [(x:Int)]:=by
          rw[List.take_succ_eq_append_getElem (by simp;omega),List.take_set_of_le (Nat.le_refl _),List.getElem_set_self,htk]
        have hsl:(tab1.set a (x:Int)).length=V:=by simp[ht1]
        have hsv: ∀y∈tab1.set a (x:Int),0<=y/\y<256:=λy hy=>by
          rcases List.mem_or_eq_of_mem_set hy with h1|h1
          · exact hv1 y h1
          · subst h1;omega
        have hst:(tab1.set a (x:Int)).take a=tab.take a:=by rw[List.take_set_of_le (Nat.le_refl _),htk]
        have hfit:=NF (given:=given) h hat hsl hsv s1 (x:Int)
        rw[hset]at hfit
        have hw:w64 ((x:Int)+1)=((x+1:Nat):Int):=Ac (by omega)
        have hwa:w64 ((a:Int)+1)=((a+1:Nat):Int):=Ac (by omega)
        have step : DQ given a x = true → ∀ R, R = (hM Aa ((a : Int), tab1.set a (x : Int), s1, Iu V n cs, given, (), (x : Int), true, gd (AW cs V) (a : Int) [], ((gd (AW cs V) (a : Int) []).length : Int), 0)).bind (fun s4 =>
                if s4.2.2.2.2.2.2.2 then
                  (hF cb d (w64 (s4.1+1),s4.2.1,s4.2.2.1,s4.2.2.2.1,s4.2.2.2.2.1,())).bind λr5=>
                    if !r5.2.2.2.2 then
                      some (.inr (r5.1,r5.2.1,r5.2.2.1,r5.2.2.2.1,(),false))
                    else
                      hL (hF cb d) f (s4.1,r5.1,r5.2.1,r5.2.2.1,r5.2.2.2.1,(),w64 (s4.2.2.2.2.2.2.1+1))
                else
                  hL (hF cb d) f (s4.1,s4.2.1,s4.2.2.1,s4.2.2.2.1,s4.2.2.2.2.1,(),w64 (s4.2.2.2.2.2.2.1+1)))->
            ∃tab':List Int,tab'.length=V/\(∀x∈tab',0<=x/\x<256)/\tab'.take a=tab.take a/\R=some (if b then .inl (tab',s',Iu V n cs,given,())else .inr (tab',s',Iu V n cs,given,(),false)):=by
          intro hm R hR
          rw[hfit]at hR
          simp only[Option.bind_some]at hR
          rw[hm]at hf2
          cases hfi:okN cs (tab.take a++ [(x:Int)])with
          |false=>
            rw[hfi]at hf2 hR
            simp only[Bool.and_false,Bool.false_eq_true,if_false,BR]at hf2 hR
            rw[hw]at hR
            rw[hR]
            exact ihc (x+1) f _ s1 (by omega) (by omega) hsl hsv hst s' b hf2
          |true=>
            rw[hfi]at hf2 hR
            simp only[Bool.and_true,if_true]at hf2 hR
            rw[hwa]at hR
            cases hq:BR cb (Dh n given (okN cs) m (tab.take a++ [(x:Int)])) s1 with
            |none=>rw[hq]at hf2;exact absurd hf2 (by simp)
            |some q=>
              obtain⟨s2,b2⟩:=q
              rw[hq]at hf2
              rw[←hset]at hq
              obtain⟨tab2,h1,h2,h3,h4⟩:=ih d (a+1) _ s1 (by omega) (by omega) hsl hsv s2 b2 hq
              have h3':tab2.take a=tab.take a:=by
                have:=congrArg (List.take a) h3
                rw[List.take_take,List.take_take,Nat.min_eq_left (by omega)]at this
                rw[this,hst]
              rw[h4]at hR
              simp only[Option.bind_some]at hR
              cases b2 with
              |false=>
                have:s2=s'/\false=b:=by simpa using hf2
                obtain⟨rfl,rfl⟩:=this
                refine⟨tab2,h1,h2,h3',?_⟩
                rw[hR];rfl
              |true=>
                simp only[Bool.not_true,Bool.false_eq_true,if_false,hw]at hR
                rw[hR]
                exact ihc (x+1) f tab2 s2 (by omega) (by omega) h1 h2 h3' s' b hf2
        simp only[hL,CY,Ae,hag,hat1,hsc,if_true]
        rw[if_pos (by simp;omega)]
        by_cases hc1:gd given (a:Int) 0≥0
        · rw[if_pos (decide_eq_true hc1)]
          by_cases hc2:gd given (a:Int) 0=(x:Int)
          · rw[if_neg (by simpa using hc2)]
            exact step (by unfold DQ;rw[show given.getD a 0=(x:Int) from hc2];simp) _ rfl
          · rw[if_pos (by simpa using hc2),hw]
            have hm:DQ given a x=false:=by
              unfold DQ
              rw[decide_eq_true (show given.getD a 0≥0 from hc1)]
              simp only[Bool.true_and,Bool.not_eq_false',bne_iff_ne];exact hc2
            rw[hm]at hf2
            simp only[Bool.false_and,Bool.false_eq_true,if_false,BR]at hf2
            exact ihc (x+1) f tab1 s1 (by omega) (by omega) ht1 hv1 htk s' b hf2
        · rw[if_neg (by simpa using hc1)]
          exact step (by unfold DQ;rw[decide_eq_false (show¬given.getD a 0≥0 from hc1)];rfl) _ rfl
    simp only[Dh]at hf
    rw[List.range_eq_range']at hf
    obtain⟨tab',h1,h2,h3,h4⟩:=key n 0 Aa tab s (by omega) (by unfold Aa;omega) ht hv rfl s' b hf
    refine⟨tab',h1,h2,h3,?_⟩
    simp only[hF,KF]
    rw[if_neg (by simp;omega)]
    have h4:hL (hF cb d) Aa ((a:Int),tab,s,Iu V n cs,given,(),0)=_:=h4
    rw[h4]
    cases b<;>rfl
def Fq (V n:Nat) (cs:List Con) (given:List Int):List (List Int):=Dh n given (okN cs) V []
theorem MC {a b:Nat} {x:Int} (hx:x=(b:Int)):Yht (a:Int) x=((max a b:Nat):Int):=by
 subst hx;unfold Yht;split<;>omega
theorem Lb (h:SrchOk V n cs):Eu ((V:Int),((n:Int),cs))=some (Iu V n cs):=by
 have hV:=h.hv
 have hc:=h.hc
 unfold Eu
 have h3:=Ca cs.length (λf (o:Int×(List (List (List Int))×List (List (List ByteArray)))) i=>BO f (o,cs,(cs.length:Int),i)) (λk=>((n:Int),(AW (cs.take k) V,Dj (cs.take k) V))) (r:=some ((n:Int),(AW cs V,Dj cs V))) (λf k hk=>?_) (λf=>?_) (n:=Aa) (by unfold Aa;omega)
 ·have e1:AW (cs.take 0) V=List.replicate V []:=by
   unfold AW A9;simp[List.map_const']
  have e2:Dj (cs.take 0) V=List.replicate V []:=by
   unfold Dj A9;simp[List.map_const']
  rw[e1,e2]at h3
  have h3:BO Aa (((n:Int),(List.replicate (Int.toNat (V:Int)) ([]:List (List Int)),List.replicate (Int.toNat (V:Int)) ([]:List (List ByteArray)))),cs,(cs.length:Int),0)=_:=h3
  rw[if_pos (by unfold lim;omega),if_pos (by unfold lim;omega),h3];rfl
 ·have hcon:=h.con _ (List.getElem_mem hk)
  have hsl:=hcon.sl
  have har:=hcon.ar
  have hmany:=hcon.many
  have h7:=Ca cs[k].1.length (λf (o:Int) i=>BP f (((n:Int),(AW (cs.take k) V,Dj (cs.take k) V)),cs[k],o,cs,(cs.length:Int),(k:Int),cs[k].1,(cs[k].1.length:Int),i)) (λj=>(((cs[k].1.take j).foldl (λm v=>max m v.toNat) 0:Nat):Int)) (r:=some (((n:Int),(AW (cs.take k) V,Dj (cs.take k) V)),cs[k],(DG cs[k]:Int),cs,(cs.length:Int),(k:Int))) (λf j hj=>?_) (λf=>?_) (n:=Aa) (by unfold Aa;omega)
  ·have hm:DG cs[k]<V:=(Hh h (GT.2 ⟨List.getElem_mem hk,rfl⟩)).2
   have h7:BP Aa (((n:Int),(AW (cs.take k) V,Dj (cs.take k) V)),(cs[k].1,(cs[k].2.1,cs[k].2.2)),0,cs,(cs.length:Int),(k:Int),cs[k].1,(cs[k].1.length:Int),0)=_:=h7
   obtain⟨l1,e1⟩:=GC (cs:=cs.take k) hm
   obtain⟨l2,e2⟩:=Jf (cs:=cs.take k) hm
   have hi1:inb (DG cs[k]:Int) (AW (cs.take k) V):=by unfold inb;omega
   have hi2:inb (DG cs[k]:Int) (Dj (cs.take k) V):=by unfold inb;omega
   have g1:gd (AW (cs.take k) V) (DG cs[k]:Int) []=(A9 (cs.take k) (DG cs[k])).map (·.1):=e1
   have g2:gd (Dj (cs.take k) V) (DG cs[k]:Int) []=(A9 (cs.take k) (DG cs[k])).map λc=>El c.2.2:=e2
   have hts:=FO (r:=(cs[k].2.1,cs[k].2.2)) (show cs[k].2.2.length<=1048576 by omega) (λt ht=>⟨by have:=hcon.tl t ht;omega,λy hy=>by
    obtain⟨i,hi,rfl⟩:=List.mem_iff_getElem.1 hy
    have:=hcon.tv t ht i hi
    have:=h.hn
    omega⟩)
   have hcl:(A9 (cs.take k) (DG cs[k])).length<=40:=Nat.le_trans (List.length_filter_le _ _) (by rw[List.length_take];omega)
   have hca: ∀v,A9 (cs.take (k+1)) v=A9 (cs.take k) v++(if DG cs[k]=v then [cs[k]]else []):=λv=>by
    unfold A9
    rw[List.take_succ_eq_append_getElem hk,List.filter_append]
    congr 1
    by_cases e:DG cs[k]=v<;>simp[e]
   have s1:(AW (cs.take k) V).set (DG cs[k]) ((A9 (cs.take k) (DG cs[k])).map (·.1)++ [cs[k].1])=AW (cs.take (k+1)) V:=by
    apply List.ext_getElem
    ·simp[AW]
    ·intro v h1 h2
     rw[List.getElem_set]
     simp only[AW,List.getElem_map,List.getElem_range,hca,List.map_append]
     by_cases e:DG cs[k]=v
     ·rw[if_pos e,if_pos e,←e];rfl
     ·rw[if_neg e,if_neg e];simp
   have s2:(Dj (cs.take k) V).set (DG cs[k]) ((A9 (cs.take k) (DG cs[k])).map (λc=>El c.2.2)++ [El cs[k].2.2])=Dj (cs.take (k+1)) V:=by
    apply List.ext_getElem
    ·simp[Dj]
    ·intro v h1 h2
     rw[List.getElem_set]
     simp only[Dj,List.getElem_map,List.getElem_range,hca,List.map_append]
     by_cases e:DG cs[k]=v
     ·rw[if_pos e,if_pos e,←e];rfl
     ·rw[if_neg e,if_neg e];simp
   simp only[BO,Ae,hk,Af hk,h7,Option.bind_some,if_true,Ae.1 hi1,Ae.1 hi2,g1,g2,hts,CY,s1,s2,Ac (show k<4611686018427387904 by omega)]
   rw[if_pos (by simp;omega),if_pos (by simp;unfold lim;omega),if_pos (by simp;unfold lim;omega)]
  ·have hj':=hcon.sv j hj
   have e:=MC (a:=(cs[k].1.take j).foldl (λm v=>max m v.toNat) 0) (b:=(cs[k].1[j]).toNat) (x:=cs[k].1[j]) (by omega)
   have e2:(cs[k].1.take (j+1)).foldl (λm v=>max m v.toNat) 0=max ((cs[k].1.take j).foldl (λm v=>max m v.toNat) 0) (cs[k].1[j]).toNat:=by
    rw[List.take_succ_eq_append_getElem hj,List.foldl_append];rfl
   simp only[BP,Ae,hj,Af hj,e,e2,if_true,Ac (show j<4611686018427387904 by omega)]
   rw[if_pos (by simp;omega)]
  ·simp only[BP,List.take_length]
   rw[if_neg (by simp)];rfl
 ·simp only[BO,List.take_length]
  rw[if_neg (by simp)]
def Kf (t:List Int) (s:Bool×List Int):Option ((Bool×List Int)×Bool):=(CD t (s.1,s.2)).bind λr=>some ((r.1.1,r.1.2),r.2)
theorem JI (rec): ∀f x,Ak rec f x=hM f x
 |0,_=>rfl
 |f+1,(a,b,c,d,e,g,x,y,z,u,v)=>by simp only[Ak,hM,JI rec f]
theorem JH (rec): ∀f x,Ai rec f x=hL rec f x
 |0,_=>rfl
 |f+1,(a,b,c,d,e,g,x)=>by simp only[Ai,hL,JH rec f,JI]
theorem LA: ∀d x,Am d x=hF Kf d x
 |0,_=>rfl
 |d+1,(a,t,(s1,s2),ps,g,u)=>by
  have e:Am d=hF Kf d:=funext λx=>LA d x
  simp only[Am,hF,KF,Bg,JH,e]
  split
  ·unfold Kf;cases CD t (s1,s2)<;>rfl
  ·congr 1;funext z;cases z<;>rfl
def Jl (l:List (List Int)):Bool×List Int:=match l with| []=>(false,[])|t::_=>(true,t)
theorem JL (h:SrchOk V n cs) (hg:given.length=V):Ed ((V:Int),((n:Int),cs)) given=some (Jl (Fq V n cs given)):=by
 have hV:=h.hv
 unfold Ed
 have e1:=Lb h
 have hcb: ∀t s,t.length<=1048576->Kf t s=some ((true,t),false):=λt s ht=>by
  unfold Kf CD Hk
  rw[if_pos (by simp;unfold lim;omega)];rfl
 have hfold:BR Kf (Fq V n cs given) (false,[])=some (Jl (Fq V n cs given),match Fq V n cs given with| []=>true|_=>false):=by
  cases hs:Fq V n cs given with
  |nil=>rfl
  |cons t l=>
   have ht:=(Jk (n:=n) (given:=given) (ok:=okN cs) V [] t (by unfold Fq at hs;rw[hs];exact List.mem_cons_self ..)).1
   simp only[BR]
   rw[hcb t _ (by simp at ht;omega)];rfl
 obtain⟨tab',_,_,_,h4⟩:=ND h hg Kf V Aa 0 (List.replicate V 0) (false,[]) (by omega) (by unfold Aa;omega) (by simp) (λx hx=>by rw[List.eq_of_mem_replicate hx];omega) _ _ (by simpa[Fq]using hfold)
 have h4:Am Aa (0,List.replicate V 0,(false,[]),Iu V n cs,given,())=_:=(LA Aa _).trans h4
 simp only[e1,Option.bind_some]
 unfold BY
 rw[if_pos (by unfold lim;omega)]
 have hr:List.replicate (Int.toNat (given.length:Int)) (0:Int)=List.replicate V 0:=by rw[hg];rfl
 rw[hr,h4];rfl
end
end T
set_option linter.unusedVariables false
open Go Go.Va
namespace T
def CK (c:(List Int)×Int×Int):Option (((List Int)×Int×Int)×Int):=
 if decide (c.2.1<(c.1.length:Int))then
 if inb c.2.1 c.1 then
 if decide ((w64 (c.2.1+1))<=(c.1.length:Int))then
 some ((c.1,(w64 (c.2.1+1),IntKind.wrap .u64 ((IntKind.wrap .u64 ((IntKind.wrap .u64 (c.2.2*6364136223846793005))+(IntKind.wrap .u64 (w64 (gd c.1 c.2.1 0)))))+550289))),w64 (gd c.1 c.2.1 0))
 else
 if(0:Int)<=40 then
 some ((c.1,(w64 (c.2.1+1),IntKind.wrap .u64 ((IntKind.wrap .u64 ((IntKind.wrap .u64 (c.2.2*6364136223846793005))+(IntKind.wrap .u64 (w64 (gd c.1 c.2.1 0)))))+550289))),w64 (Yhj .u64 (YhC .u64 (IntKind.wrap .u64 ((IntKind.wrap .u64 ((IntKind.wrap .u64 (c.2.2*6364136223846793005))+(IntKind.wrap .u64 (w64 (gd c.1 c.2.1 0)))))+550289)) 40) 255))
 else none
 else none
 else
 if decide ((w64 (c.2.1+1))<=(c.1.length:Int))then
 some ((c.1,(w64 (c.2.1+1),IntKind.wrap .u64 ((IntKind.wrap .u64 ((IntKind.wrap .u64 (c.2.2*6364136223846793005))+(IntKind.wrap .u64 (0))))+550289))),0)
 else
 if(0:Int)<=40 then
 some ((c.1,(w64 (c.2.1+1),IntKind.wrap .u64 ((IntKind.wrap .u64 ((IntKind.wrap .u64 (c.2.2*6364136223846793005))+(IntKind.wrap .u64 (0))))+550289))),w64 (Yhj .u64 (YhC .u64 (IntKind.wrap .u64 ((IntKind.wrap .u64 ((IntKind.wrap .u64 (c.2.2*6364136223846793005))+(IntKind.wrap .u64 (0))))+550289)) 40) 255))
 else none
def Ah (c:(List Int)×Int×Int) (n_:Int):Option (((List Int)×Int×Int)×Int):=
 if decide (n_<=1)then
 some ((c.1,(c.2.1,c.2.2)),0)
 else
 (CK (c.1,(c.2.1,c.2.2))).bind λr1=>
 if decide (n_>200)then
 (CK (r1.1.1,(r1.1.2.1,r1.1.2.2))).bind λr2=>
 if n_≠0 then
 some ((r2.1.1,(r2.1.2.1,r2.1.2.2)),Int.tmod (w64 ((w64 (r1.2*256))+r2.2)) n_)
 else none
 else
 if n_≠0 then
 some ((r1.1.1,(r1.1.2.1,r1.1.2.2)),Int.tmod r1.2 n_)
 else none
def Ad (c:(List Int)×Int×Int) (list:List Int):Option (((List Int)×Int×Int)×Int):=
 (Ah (c.1,(c.2.1,c.2.2)) (list.length:Int)).bind λr1=>
 if inb r1.2 list then
 some ((r1.1.1,(r1.1.2.1,r1.1.2.2)),gd list r1.2 0)
 else none
def Ao (c:(List Int)×Int×Int) (n_:Int):Option (((List Int)×Int×Int)×Bool):=
 (Ah (c.1,(c.2.1,c.2.2)) n_).bind λr1=>
 some ((r1.1.1,(r1.1.2.1,r1.1.2.2)),r1.2==0)
end T
open Go Go.Va
namespace T
abbrev D8:=List Int×Int×Int
def Cur (k:Nat) (c:D8):Prop:=c.1.length<=65536/\(∀x∈c.1,0<=x/\x<256)/\0<=c.2.1/\c.2.1<=(k:Int)
theorem M5 (x:Int):0<=w64 (Yhj .u64 x 255)/\w64 (Yhj .u64 x 255)<256:=by
 have h1:(BitVec.ofInt 64 x&&&BitVec.ofInt 64 255).toNat<=255:=by
  rw[BitVec.toNat_and]
  have:(BitVec.ofInt 64 255).toNat=255:=by decide
  rw[this]
  exact Nat.and_le_right
 have h2:Yhj .u64 x 255=((BitVec.ofInt 64 x&&&BitVec.ofInt 64 255).toNat:Int):=by
  unfold Yhj
  have e: ∀n:Nat,n<=255->IntKind.wrap .u64 (n:Int)=(n:Int):=λn hn=>by
   simp[IntKind.wrap,IntKind.bits,IntKind.signed]
   omega
  exact e _ h1
 rw[h2,AE (by omega) (by omega)]
 omega
theorem KH {k:Nat} {c:D8} (h:Cur k c) (hk:k<=1000000000): ∃c' x,CK c=some (c',x)/\Cur (k+1) c'/\0<=x/\x<256:=by
 obtain⟨code,at',seed⟩:=c
 obtain⟨h1,h2,h3,h4⟩:=h
 dsimp only at h1 h2 h3 h4
 have hw:w64 (at'+1)=at'+1:=AE (by omega) (by omega)
 have hC: ∀s,Cur (k+1) (code,(at'+1,s)):=λs=>⟨h1,h2,by dsimp only;omega,by dsimp only;omega⟩
 unfold CK
 simp only[hw]
 by_cases hc:at'<(code.length:Int)
 ·have hin:inb at' code:=⟨h3,hc⟩
  have hle:at'+1<=(code.length:Int):=by omega
  have hb:0<=gd code at' 0/\gd code at' 0<256:=by
   have:gd code at' 0=code.getD at'.toNat 0:=rfl
   rw[this,Ag (by omega)]
   exact h2 _ (List.getElem_mem _)
  rw[if_pos (decide_eq_true hc),if_pos hin,if_pos (decide_eq_true hle)]
  exact⟨_,_,rfl,hC _,by rw[AE (by omega) (by omega)];exact hb⟩
 ·have hle: ¬at'+1<=(code.length:Int):=by omega
  rw[if_neg (by simpa using hc),if_neg (by simpa using hle),if_pos (by decide)]
  exact⟨_,_,rfl,hC _,M5 _⟩
theorem D3 {k:Nat} {c:D8} (h:Cur k c) (hk:k<=100000000) (n:Int) (hn:n<=1000000): ∃c' x,Ah c n=some (c',x)/\Cur (k+2) c'/\0<=x/\(1<=n->x<n)/\(n<=1->x=0):=by
 have mono: ∀ {c:D8} {i j:Nat},i<=j->Cur i c->Cur j c:=λhij ⟨a,b,d,e⟩=>⟨a,b,d,by omega⟩
 unfold Ah
 by_cases h1:n<=1
 ·rw[if_pos (decide_eq_true h1)]
  exact⟨_,_,rfl,mono (by omega) h,by omega,λ_=>by omega,λ_=>rfl⟩
 ·rw[if_neg (by simpa using h1)]
  obtain⟨c1,x1,e1,g1,a1,b1⟩:=KH h (by omega)
  have e1:CK (c.1,(c.2.1,c.2.2))=_:=e1
  simp only[e1,Option.bind_some]
  by_cases h2:n>200
  ·obtain⟨c2,x2,e2,g2,a2,b2⟩:=KH g1 (by omega)
   have e2:CK (c1.1,(c1.2.1,c1.2.2))=_:=e2
   rw[if_pos (decide_eq_true h2)]
   simp only[e2,Option.bind_some]
   rw[if_pos (by omega)]
   have w1:w64 (x1*256)=x1*256:=AE (by omega) (by omega)
   have w2:w64 (x1*256+x2)=x1*256+x2:=AE (by omega) (by omega)
   refine⟨_,_,rfl,g2,?_,λ_=>?_,λh=>absurd h h1⟩
   ·rw[w1,w2,Int.tmod_eq_emod_of_nonneg (by omega)];exact Int.emod_nonneg _ (by omega)
   ·rw[w1,w2,Int.tmod_eq_emod_of_nonneg (by omega)];exact Int.emod_lt_of_pos _ (by omega)
  ·rw[if_neg (by simpa using h2),if_pos (by omega)]
   refine⟨_,_,rfl,mono (by omega) g1,?_,λ_=>?_,λh=>absurd h h1⟩
   ·rw[Int.tmod_eq_emod_of_nonneg a1];exact Int.emod_nonneg _ (by omega)
   ·rw[Int.tmod_eq_emod_of_nonneg a1];exact Int.emod_lt_of_pos _ (by omega)
theorem DU {k:Nat} {c:D8} (h:Cur k c) (hk:k<=100000000) {l:List Int} (h0:0<l.length) (hl:l.length<=1000): ∃c' x,Ad c l=some (c',x)/\Cur (k+2) c'/\x∈l:=by
 obtain⟨c1,x1,e1,g1,a1,b1,_⟩:=D3 h hk (l.length:Int) (by omega)
 have b1:=b1 (by omega)
 unfold Ad
 have e1:Ah (c.1,(c.2.1,c.2.2)) (l.length:Int)=_:=e1
 simp only[e1,Option.bind_some]
 have hin:inb x1 l:=⟨a1,b1⟩
 rw[if_pos hin]
 refine⟨_,_,rfl,g1,?_⟩
 have:gd l x1 0=l.getD x1.toNat 0:=rfl
 rw[this]
 exact JO (by omega)
theorem HG {k:Nat} {c:D8} (h:Cur k c) (hk:k<=100000000) (n:Int) (hn:n<=1000000): ∃c' x,Ao c n=some (c',x)/\Cur (k+2) c':=by
 obtain⟨c1,x1,e1,g1,_⟩:=D3 h hk n hn
 unfold Ao
 have e1:Ah (c.1,(c.2.1,c.2.2)) n=_:=e1
 simp only[e1,Option.bind_some]
 exact⟨_,_,rfl,g1⟩
theorem Cur.mono {c:D8} {i j:Nat} (hij:i<=j):Cur i c->Cur j c:=λ⟨a,b,d,e⟩=>⟨a,b,d,by omega⟩
end T
set_option linter.unusedVariables false
open Go Go.Va
namespace T
def F7:Nat->((List Int)×(List Int)×(List Int)×Int)->Option ((List Int))
 |0,_=>none
 |n+1,(t,places,out,i)=>
 if decide (i<(places.length:Int))then
 if inb i places then
 if inb (gd places i 0) t then
 if out.length+ [gd t (gd places i 0) 0].length<=lim then
 F7 n (t,places,out++ [gd t (gd places i 0) 0],w64 (i+1))
 else none
 else none
 else none
 else
 some out
def HN (t:List Int) (places:List Int):Option ((List Int)):=
 (F7 Aa (t,places,[],0)).bind λs1=>
 some s1
def F8 (list:List (List Int)) (t:List Int):Option ((List (List Int))):=
 (EV list t).bind λr1=>
 if r1.2 then
 some list
 else
 if(0:Int)<=0/\0<=r1.1/\r1.1<=(list.length:Int)then
 if([]:List (List Int)).length+((list.take (Int.toNat r1.1)).drop (Int.toNat 0)).length<=lim then
 if([]++((list.take (Int.toNat r1.1)).drop (Int.toNat 0))).length+ [t].length<=lim then
 if(0:Int)<=r1.1/\r1.1<=(list.length:Int)/\(list.length:Int)<=(list.length:Int)then
 if(([]++((list.take (Int.toNat r1.1)).drop (Int.toNat 0)))++ [t]).length+((list.take (Int.toNat (list.length:Int))).drop (Int.toNat r1.1)).length<=lim then
 some ((([]++((list.take (Int.toNat r1.1)).drop (Int.toNat 0)))++ [t])++((list.take (Int.toNat (list.length:Int))).drop (Int.toNat r1.1)))
 else none
 else none
 else none
 else none
 else none
def B3:Nat->((List Int)×(Int×(List (List Int)))×(Int×(List (List Int)))×(Int×(List (List Int)))×Int)->Option ((Int×(List (List Int)))×(Int×(List (List Int))))
 |0,_=>none
 |n+1,(places,r,t4,out,i)=>
 if decide (i<(r.2.length:Int))then
 if inb i r.2 then
 (HN (gd r.2 i []) places).bind λr1=>
 (F8 out.2 r1).bind λr2=>
 B3 n (places,(r.1,r.2),(t4.1,t4.2),(out.1,r2),w64 (i+1))
 else none
 else
 some ((t4.1,t4.2),(out.1,out.2))
def D5 (r:Int×(List (List Int))) (places:List Int):Option ((Int×(List (List Int)))):=
 (B3 Aa (places,(r.1,r.2),(0,[]),((places.length:Int),[]),0)).bind λs1=>
 some (s1.2.1,s1.2.2)
end T
open Go Go.Va
namespace T
def Zn (cmp:List Int->List Int->Int) (rows:List (List Int)):List (List Int):=rows.mergeSort (λx y=>!decide (cmp y x<0))
def cmpT (s t:List Int):Int:=if s.length<t.length then-1 else if t.length<s.length then 1 else cmpL s t
theorem cmpT_refl (s:List Int):cmpT s s=0:=by unfold cmpT;rw[if_neg (by omega),if_neg (by omega),cmpL_refl]
theorem cmpT_symm (s t:List Int):cmpT t s= -cmpT s t:=by
 unfold cmpT
 by_cases h1:s.length<t.length
 ·rw[if_neg (by omega),if_pos h1,if_pos h1];rfl
 ·by_cases h2:t.length<s.length
  ·rw[if_pos h2,if_neg h1,if_pos h2]
  ·rw[if_neg h2,if_neg h1,if_neg h1,if_neg h2,cmpL_symm]
theorem cmpT_eq {s t:List Int} (h:cmpT s t=0):s=t:=by
 unfold cmpT at h
 by_cases h1:s.length<t.length
 ·rw[if_pos h1]at h;exact absurd h (by decide)
 ·rw[if_neg h1]at h
  by_cases h2:t.length<s.length
  ·rw[if_pos h2]at h;exact absurd h (by decide)
  ·rw[if_neg h2]at h;exact cmpL_eq.1 h
theorem cmpT_trans {s t u:List Int} (h1:cmpT s t<0) (h2:cmpT t u<0):cmpT s u<0:=by
 unfold cmpT at*
 by_cases a1:s.length<u.length
 ·rw[if_pos a1];decide
 ·rw[if_neg a1]
  by_cases b1:s.length<t.length
  ·have b2:u.length<t.length:=by omega
   rw[if_neg (by omega),if_pos b2]at h2;exact absurd h2 (by decide)
  ·rw[if_neg b1]at h1
   by_cases b3:t.length<s.length
   ·rw[if_pos b3]at h1;exact absurd h1 (by decide)
   ·rw[if_neg b3]at h1
    by_cases c1:t.length<u.length
    ·omega
    ·rw[if_neg c1]at h2
     by_cases c2:u.length<t.length
     ·rw[if_pos c2]at h2;exact absurd h2 (by decide)
     ·rw[if_neg c2]at h2
      rw[if_neg (by omega)]
      exact cmpL_trans h1 h2
end T
open Go Go.Va
namespace T
theorem FP {l:List (List Int)}:Ef l=true↔l.Pairwise (λa b=>cmpL a b<0):=by
 constructor
 ·intro h
  rw[List.pairwise_iff_getElem]
  exact λi j hi hj hij=>FW h i j hij hj
 ·intro h
  rw[JR]
  rw[List.pairwise_iff_getElem]at h
  exact λi hi=>h i (i+1) (by omega) hi (by omega)
theorem GZ {list:List (List Int)} {t:List Int} {k:Nat} (hl:list.length<=1000000) (hk:k<=1000000) (hv: ∀u∈list,u.length=k) (ht:t.length=k) (hi:Ef list=true):
  ∃out,F8 list t=some out/\Ef out=true/\(∀u,u∈out↔u=t∨u∈list)/\(t∉list->out.Perm (t::list)):=by
 obtain⟨c,e,k1,k2,k3⟩:=Ft (by omega) (by omega) hv ht hi
 unfold F8
 rw[e]
 simp only[Option.bind_some]
 by_cases hm:t∈list
 ·rw[decide_eq_true hm,if_pos rfl]
  exact⟨list,rfl,hi,λu=>⟨Or.inr,λh=>h.elim (λh=>h▸hm) id⟩,λh=>absurd hm h⟩
 ·rw[decide_eq_false hm,if_neg (by simp)]
  have e1:(list.take (Int.toNat (c:Int))).drop (Int.toNat 0)=list.take c:=by simp
  have e2:(list.take (Int.toNat (list.length:Int))).drop (Int.toNat (c:Int))=list.drop c:=by simp
  have hlim:lim=1099511627776:=rfl
  have t1:(list.take c).length=c:=by rw[List.length_take];omega
  rw[e1,e2,if_pos (by omega),if_pos (by simp;omega),if_pos (by simp;omega),if_pos (by omega),if_pos (by simp;omega)]
  refine⟨_,rfl,?_,λu=>?_,λ_=>?_⟩
  ·rw[FP]at hi⊢
   simp only[List.nil_append]
   have hsp:list=list.take c++list.drop c:=(List.take_append_drop c list).symm
   rw[hsp,List.pairwise_append]at hi
   have h4: ∀u∈list.take c,cmpL u t<0:=λu hu=>by
    obtain⟨i,hi',rfl⟩:=List.mem_iff_getElem.1 hu
    rw[List.getElem_take]
    exact k2 i _ (by omega)
   have h5: ∀u∈list.drop c,cmpL t u<0:=λu hu=>by
    obtain⟨i,hi',rfl⟩:=List.mem_iff_getElem.1 hu
    rw[List.length_drop]at hi'
    rw[List.getElem_drop]
    have h6:=k3 (c+i) (by omega) (by omega)
    have h7:=cmpL_symm (list[c+i]'(by omega)) t
    have h8:cmpL (list[c+i]'(by omega)) t≠0:=λh=>hm (by rw[←cmpL_eq.1 h];exact List.getElem_mem _)
    omega
   rw[List.pairwise_append,List.pairwise_append]
   refine⟨⟨hi.1,List.pairwise_singleton _ _,λa ha b hb=>by rw[List.mem_singleton.1 hb];exact h4 a ha⟩,hi.2.1,λa ha b hb=>?_⟩
   rcases List.mem_append.1 ha with ha|ha
   ·exact hi.2.2 a ha b hb
   ·rw[List.mem_singleton.1 ha];exact h5 b hb
  ·have hsp:u∈list↔u∈list.take c∨u∈list.drop c:=by rw[←List.mem_append,List.take_append_drop]
   simp only[List.nil_append,List.mem_append,List.mem_singleton,hsp]
   constructor
   ·rintro ((h|h)|h)
    ·exact Or.inr (Or.inl h)
    ·exact Or.inl h
    ·exact Or.inr (Or.inr h)
   ·rintro (h|h|h)
    ·exact Or.inl (Or.inr h)
    ·exact Or.inl (Or.inl h)
    ·exact Or.inr h
  ·simp only[List.nil_append]
   refine(List.Perm.append_right _ (List.perm_append_comm)).trans ?_
   rw[List.append_assoc,List.take_append_drop]
   exact List.Perm.refl _
theorem K1 {x y:List Int} (h1: ¬cmpL y x<0) (h2: ¬cmpL x y<0):x=y:=by
 have:=cmpL_symm x y
 exact cmpL_eq.1 (by omega)
theorem GD {out l:List (List Int)} (hi:Ef out=true) (hp:out.Perm l):Zn cmpL l=out:=by
 have hs:(Zn cmpL l).Pairwise λx y=>(!decide (cmpL y x<0))=true:=by
  unfold Zn
  refine List.pairwise_mergeSort (λa b c h1 h2=>?_) (λa b=>?_) l
  ·simp only[Bool.not_eq_true',decide_eq_false_iff_not]at*
   intro h3
   have q1:=cmpL_symm a b
   have q2:=cmpL_symm b c
   by_cases e:cmpL a b=0
   ·rw[cmpL_eq.1 e]at h3;exact h2 h3
   ·exact h2 (cmpL_trans h3 (by omega))
  ·simp only[Bool.or_eq_true,Bool.not_eq_true',decide_eq_false_iff_not]
   have q1:=cmpL_symm a b
   omega
 have ho:out.Pairwise λx y=>(!decide (cmpL y x<0))=true:=by
  refine(FP.1 hi).imp ?_
  intro a b h
  simp only[Bool.not_eq_true',decide_eq_false_iff_not]
  have q1:=cmpL_symm a b
  omega
 have hpp:(Zn cmpL l).Perm out:=(List.mergeSort_perm l _).trans hp.symm
 refine List.Perm.eq_of_pairwise (λa b _ _ h1 h2=>?_) hs ho hpp
 simp only[Bool.not_eq_true',decide_eq_false_iff_not]at h1 h2
 exact K1 h1 h2
end T
set_option linter.unusedVariables false
open Go Go.Va
namespace T
def B0 (a0:List (List Int)) (a1:Unit):Option (List (List Int)):=
 if List.length a0<=lim/\List.all a0 (λx=>decide (List.length x<=lim))=true then some (Zn cmpL a0)else none
end T
open Go Go.Va
namespace T
section
variable {p:Int} {W N V:Nat}
def coG (p:Int) (s:ES) (u:Nat) (f:Int):Int:=if HT s.2.1 u<0 then(if f=(u:Int)then 1 else 0)else p-(s.1.getD (HT s.2.1 u).toNat []).getD f.toNat 0
def Nt (p:Int) (V:Nat) (s:ES) (F x:List Int) (u:Nat):Nat->Int
 |0=>L5 V s u
 |k+1=>Nt p V s F x u k+coG p s u (F.getD k 0)*x.getD k 0
def NO (p:Int) (V:Nat) (s:ES) (F x:List Int) (k:Nat):List Int:=(List.range V).map λu=>Nt p V s F x u k%p
structure GenOk (p:Int) (W N V:Nat) (s:ES) (F x:List Int):Prop where
 hp:pr4 p
 hs:ESok p W N V s
 hV:V<W
 hW:W<=1000
 hN:N<=100000
 hF:F=NA V s.2.1
 hx:x.length=F.length
 xb: ∀v∈x,0<=v/\v<p
variable {s:ES} {F x:List Int}
theorem GenOk.pb (g:GenOk p W N V s F x):2<=p/\p<=7:=by have:=g.hp;unfold pr4 at this;omega
theorem GenOk.row (g:GenOk p W N V s F x) {u:Nat} (hu: ¬HT s.2.1 u<0):(HT s.2.1 u).toNat<s.1.length/\KI p W (s.1.getD (HT s.2.1 u).toNat []):=by
 have hm:(u:Int)∈s.2.1:=by
  rcases Decidable.em ((u:Int)∈s.2.1)with h|h
  ·exact h
  ·exact absurd (LX.2 h) hu
 obtain⟨i,hi,g1,_⟩:=KK hm
 rw[g1,Int.toNat_natCast]
 have:=g.hs.bl
 exact⟨by omega,by rw[Ag (by omega)];exact g.hs.t _ (List.getElem_mem _)⟩
theorem GenOk.base (g:GenOk p W N V s F x) (u:Nat):0<=L5 V s u/\L5 V s u<p:=by
 have:=g.pb
 unfold L5
 split
 ·omega
 ·rename_i h
  exact Nn (g.row h).2 g.hV
end
end T
open Go Go.Va
namespace T
section
variable {p:Int} {W N V:Nat} {s:ES} {F x:List Int}
theorem GenOk.zero (g:GenOk p W N V s F x):NO p V s F x 0=NM V s:=by
 unfold NO NM
 refine List.map_congr_left λu _=>?_
 have:=g.base u
 simp only[Nt]
 exact Int.emod_eq_of_lt this.1 this.2
end
end T
open Go Go.Va
namespace T
section
variable {a:Lin} {p:Int} {W N V:Nat} {s:ES} {F:List Int}
theorem Kq (l:List (List Int)):(Zn cmpL l).Perm l:=List.mergeSort_perm l _
end
end T
open Go Go.Va
namespace T
def Zm (xs:List (List Int)):List Nat:=(List.range xs.length).filter λi=>i==0||xs.getD (i-1) [] !=xs.getD i []
def Zx (xs:List (List Int)):List (List Int):=(Zm xs).map λi=>xs.getD i []
def dgP:List Int->List (List Int)->List (List Int)
 |_,[]=> []
 |p,x::l=>if p=x then dgP x l else x::dgP x l
theorem I0: ∀(l pre:List (List Int)) (p:List Int),((List.range' (pre++ [p]).length l.length).filter λi=>i==0||(pre++ [p]++l).getD (i-1) [] !=(pre++ [p]++l).getD i []).map (λi=>(pre++ [p]++l).getD i [])=dgP p l
 | [],_,_=>rfl
 |x::l,pre,p=>by
  have ih:=I0 l (pre++ [p]) x
  have e:pre++ [p]++ [x]++l=pre++ [p]++(x::l):=by simp
  rw[e]at ih
  have e2:(pre++ [p]++ [x]).length=(pre++ [p]).length+1:=by simp
  rw[e2]at ih
  have g1:(pre++ [p]++(x::l)).getD ((pre++ [p]).length-1) []=p:=by
   rw[List.getD_eq_getElem?_getD,List.getElem?_append_left (by simp),List.length_append,List.length_singleton,Nat.add_sub_cancel,List.getElem?_append_right (Nat.le_refl _),Nat.sub_self];rfl
  have g2:(pre++ [p]++(x::l)).getD (pre++ [p]).length []=x:=by
   rw[List.getD_eq_getElem?_getD,List.getElem?_append_right (Nat.le_refl _),Nat.sub_self];rfl
  have g3:((pre++ [p]).length==0)=false:=by simp
  rw[List.length_cons,List.range'_succ,List.filter_cons,g1,g2,g3,dgP]
  by_cases h:p=x
  ·rw[if_neg (by simp[h]),if_pos h];exact ih
  ·rw[if_pos (by simp[h]),if_neg h,List.map_cons,g2];exact congrArg _ ih
theorem H9 {x:List Int} {l:List (List Int)}:Zx (x::l)=x::dgP x l:=by
 have h:=I0 l [] x
 unfold Zx Zm
 rw[List.range_eq_range',List.length_cons,List.range'_succ,List.filter_cons,if_pos (by simp),List.map_cons]
 exact congrArg _ h
theorem Ky: ∀ {l:List (List Int)} {p u:List Int},(u∈dgP p l∨u=p)↔(u∈l∨u=p)
 | [],_,_=>Iff.rfl
 |x::l,p,u=>by
  have ih:=Ky (l:=l) (p:=x) (u:=u)
  unfold dgP
  by_cases h:p=x
  ·subst h
   rw[if_pos rfl,ih,List.mem_cons]
   exact⟨λh=>h.elim (λh=>Or.inl (Or.inr h)) Or.inr,λh=>h.elim (λh=>h.elim Or.inr Or.inl) Or.inr⟩
  ·rw[if_neg h,List.mem_cons,List.mem_cons]
   constructor
   ·rintro ((h|h)|h)
    ·exact Or.inl (Or.inl h)
    ·exact Or.inl ((ih.1 (Or.inl h)).elim Or.inr Or.inl)
    ·exact Or.inr h
   ·rintro ((h|h)|h)
    ·exact Or.inl (Or.inl h)
    ·exact Or.inl ((ih.2 (Or.inl h)).elim Or.inr Or.inl)
    ·exact Or.inr h
theorem K2 {l:List (List Int)} {u:List Int}:u∈Zx l↔u∈l:=by
 cases l with
 |nil=>exact Iff.rfl
 |cons x l=>
  rw[H9,List.mem_cons,List.mem_cons]
  have:=Ky (l:=l) (p:=x) (u:=u)
  exact⟨λh=>(this.1 h.symm).symm,λh=>(this.2 h.symm).symm⟩
theorem Kx: ∀ {l:List (List Int)} {p:List Int},(p::l).Pairwise (λa b=> ¬cmpL b a<0)->(p::dgP p l).Pairwise λa b=>cmpL a b<0
 | [],_,_=>List.pairwise_singleton _ _
 |x::l,p,h=>by
  have h1:=List.pairwise_cons.1 h
  have ih:=Kx (l:=l) (p:=x) h1.2
  unfold dgP
  by_cases e:p=x
  ·subst e;rw[if_pos rfl];exact ih
  ·rw[if_neg e]
   refine List.pairwise_cons.2 ⟨λb hb=>?_,ih⟩
   have hlt:cmpL p x<0:=by
    have h2:=h1.1 x (List.mem_cons_self ..)
    have h3:=cmpL_symm p x
    have h4:cmpL p x≠0:=λh=>e (cmpL_eq.1 h)
    omega
   rcases List.mem_cons.1 hb with rfl|hb
   ·exact hlt
   ·exact cmpL_trans hlt ((List.pairwise_cons.1 ih).1 b hb)
theorem L8 (l:List (List Int)):(Zn cmpL l).Pairwise λa b=> ¬cmpL b a<0:=by
 have hs:(Zn cmpL l).Pairwise λx y=>(!decide (cmpL y x<0))=true:=by
  unfold Zn
  refine List.pairwise_mergeSort (λa b c h1 h2=>?_) (λa b=>?_) l
  ·simp only[Bool.not_eq_true',decide_eq_false_iff_not]at*
   intro h3
   have q1:=cmpL_symm a b
   have q2:=cmpL_symm b c
   by_cases e:cmpL a b=0
   ·rw[cmpL_eq.1 e]at h3;exact h2 h3
   ·exact h2 (cmpL_trans h3 (by omega))
  ·simp only[Bool.or_eq_true,Bool.not_eq_true',decide_eq_false_iff_not]
   have q1:=cmpL_symm a b
   omega
 exact hs.imp fun {a b} h=>by simpa using h
def G8 (l:List (List Int)):List (List Int):=Zx (Zn cmpL l)
theorem setL_mem {l:List (List Int)} {u:List Int}:u∈G8 l↔u∈l:=by
 unfold G8;rw[K2];exact(List.mergeSort_perm l _).mem_iff
theorem IA (l:List (List Int)):Ef (G8 l)=true:=by
 rw[FP]
 unfold G8
 have h:=L8 l
 generalize Zn cmpL l=s at h
 cases s with
 |nil=>exact List.Pairwise.nil
 |cons x s=>rw[H9];exact Kx h
theorem JS: ∀ {a b:List (List Int)},Ef a=true->Ef b=true->(∀u,u∈a↔u∈b)->a=b:=by
 intro a b ha hb h
 have pa:=FP.1 ha
 have pb:=FP.1 hb
 have na:a.Nodup:=pa.imp fun {x y} h e=>by rw[e,cmpL_refl]at h;omega
 have nb:b.Nodup:=pb.imp fun {x y} h e=>by rw[e,cmpL_refl]at h;omega
 have hp:a.Perm b:=(List.perm_ext_iff_of_nodup na nb).2 h
 rw[←GD ha (List.Perm.refl _),←GD hb (List.Perm.refl _)]
 have h1:=GD ha hp
 have h2:=GD hb (List.Perm.refl b)
 have h3:=GD ha (List.Perm.refl a)
 rw[h2,h3,←h1,h2]
theorem MR {out l:List (List Int)} (hi:Ef out=true) (hm: ∀u,u∈out↔u∈l):G8 l=out:=
 JS (IA l) hi λu=>setL_mem.trans (hm u).symm
theorem Lz (l:List (List Int)):(Zx l).length<=l.length:=by
 unfold Zx Zm
 rw[List.length_map]
 exact Nat.le_trans (List.length_filter_le _ _) (by rw[List.length_range];exact Nat.le_refl _)
theorem Jx (l:List (List Int)):(G8 l).length<=l.length:=by
 unfold G8
 have:=Lz (Zn cmpL l)
 rwa [show(Zn cmpL l).length=l.length from(List.mergeSort_perm l _).length_eq]at this
end T
set_option linter.unusedVariables false
open Go Go.Va
namespace T
def Fj (a0:List (List Int)):Option (List (List Int)):=
 if List.length a0<=lim/\List.all a0 (λx=>decide (List.length x<=lim))=true then some (Zx a0)else none
end T
open Go Go.Va
namespace T
section
variable {n:Int} {k:Nat} {ts:List (List Int)}
theorem MK {out list:List (List Int)} {t:List Int} (h1:Ef out=true) (h0:Ef list=true) (h2: ∀u,u∈out↔u=t∨u∈list) (h3:t∉list->out.Perm (t::list)):out.length<=list.length+1:=by
 by_cases hm:t∈list
 ·have:out=list:=JS h1 h0 λu=>(h2 u).trans ⟨λh=>h.elim (λh=>h▸hm) id,Or.inr⟩
  rw[this];omega
 ·rw[(h3 hm).length_eq];simp
end
end T
set_option linter.unusedVariables false
open Go Go.Va
namespace T
def CJ:Nat->((List ((List Int)×Int×(List (List Int))))×(List ((List Int)×Int×(List (List Int))))×Int×((List Int)×(Int×(List (List Int))))×Int)->Option ((List ((List Int)×Int×(List (List Int))))×(List ((List Int)×Int×(List (List Int))))×Int×((List Int)×(Int×(List (List Int)))))
 |0,_=>none
 |n+1,(list,out,i,c,k)=>
 if inb i list then
 if decide (k<((((gd list i ([],(0,[]))).2).2).length:Int))then
 if inb i list then
 if inb k (((gd list i ([],(0,[]))).2).2)then
 (DI (gd (((gd list i ([],(0,[]))).2).2) k [])).bind λr2=>
 if c.2.2.length+ [r2].length<=lim then
 CJ n (list,out,i,(c.1,(c.2.1,c.2.2++ [r2])),w64 (k+1))
 else none
 else none
 else none
 else
 some (list,out,i,(c.1,(c.2.1,c.2.2)))
 else none
def CI:Nat->((List ((List Int)×Int×(List (List Int))))×(List ((List Int)×Int×(List (List Int))))×Int)->Option ((List ((List Int)×Int×(List (List Int)))))
 |0,_=>none
 |n+1,(list,out,i)=>
 if decide (i<(list.length:Int))then
 if inb i list then
 (DI ((gd list i ([],(0,[]))).1)).bind λr1=>
 if inb i list then
 (CJ Aa (list,out,i,(r1,(((gd list i ([],(0,[]))).2).1,[])),0)).bind λs2=>
 if s2.2.1.length+ [(s2.2.2.2.1,(s2.2.2.2.2.1,s2.2.2.2.2.2))].length<=lim then
 CI n (s2.1,s2.2.1++ [(s2.2.2.2.1,(s2.2.2.2.2.1,s2.2.2.2.2.2))],w64 (s2.2.2.1+1))
 else none
 else none
 else none
 else
 some out
def F4 (list:List ((List Int)×Int×(List (List Int)))):Option ((List ((List Int)×Int×(List (List Int))))):=
 (CI Aa (list,[],0)).bind λs1=>
 some s1
def Ev (list:List (List Int)):Option ((List (List Int))):=
 (Ep list).bind λr1=>
 (B0 r1 ()).bind λr2=>
 some r2
def Et (arity:Int) (tuples:List (List Int)):Option ((Int×(List (List Int)))):=
 (Ev tuples).bind λr1=>
 (Fj r1).bind λr2=>
 some (arity,r2)
def EU (net:Int×Int×(List ((List Int)×Int×(List (List Int))))) (list:List ((List Int)×Int×(List (List Int)))):Option ((Int×(Int×(List ((List Int)×Int×(List (List Int))))))×Bool):=
 if decide ((list.length:Int)>40)then
 some ((0,(0,[])),false)
 else
 some ((net.1,(net.2.1,list)),true)
end T
set_option linter.unusedVariables false
open Go Go.Va
namespace T
def Hq (net:Int×Int×(List ((List Int)×Int×(List (List Int))))):Option ((Int×Int×(List ((List Int)×Int×(List (List Int)))))×Bool):=
 (CP (net.1,(net.2.1,net.2.2))).bind λr1=>
 if !r1 then
 some ((0,(0,[])),false)
 else
 some ((net.1,(net.2.1,net.2.2)),true)
def Cm:Nat->((Int×Int×(List ((List Int)×Int×(List (List Int)))))×(Int×(Int×(List ((List Int)×Int×(List (List Int))))))×(Int×(Int×(List ((List Int)×Int×(List (List Int))))))×Int×((List Int)×Int×(List (List Int)))×Int×Int)->Option ((Int×Int×(List ((List Int)×Int×(List (List Int)))))×(Int×(Int×(List ((List Int)×Int×(List (List Int))))))×(Int×(Int×(List ((List Int)×Int×(List (List Int))))))×Int×((List Int)×Int×(List (List Int)))×Int)
 |0,_=>none
 |n+1,(t1,t2,t4,t5,t6,t7,t8)=>
 if decide (t8<(t6.1.length:Int))then
 if inb t7 t6.1 then
 if inb t8 t6.1 then
 (D5 (t6.2.1,t6.2.2) [t7,t8]).bind λr3=>
 if t4.2.2.length+ [([gd t6.1 t7 0,gd t6.1 t8 0],r3)].length<=lim then
 Cm n ((t1.1,(t1.2.1,t1.2.2)),(t2.1,(t2.2.1,t2.2.2)),(t4.1,(t4.2.1,t4.2.2++ [([gd t6.1 t7 0,gd t6.1 t8 0],r3)])),t5,(t6.1,(t6.2.1,t6.2.2)),t7,w64 (t8+1))
 else none
 else none
 else none
 else
 some ((t1.1,(t1.2.1,t1.2.2)),(t2.1,(t2.2.1,t2.2.2)),(t4.1,(t4.2.1,t4.2.2)),t5,(t6.1,(t6.2.1,t6.2.2)),t7)
def AJ:Nat->((Int×Int×(List ((List Int)×Int×(List (List Int)))))×(Int×(Int×(List ((List Int)×Int×(List (List Int))))))×(Int×(Int×(List ((List Int)×Int×(List (List Int))))))×Int×((List Int)×Int×(List (List Int)))×Int)->Option ((Int×Int×(List ((List Int)×Int×(List (List Int)))))×(Int×(Int×(List ((List Int)×Int×(List (List Int))))))×(Int×(Int×(List ((List Int)×Int×(List (List Int))))))×Int)
 |0,_=>none
 |n+1,(t1,t2,t4,t5,t6,t7)=>
 if decide (t7<(t6.1.length:Int))then
 (Cm Aa ((t1.1,(t1.2.1,t1.2.2)),(t2.1,(t2.2.1,t2.2.2)),(t4.1,(t4.2.1,t4.2.2)),t5,(t6.1,(t6.2.1,t6.2.2)),t7,w64 (t7+1))).bind λs3=>
 AJ n ((s3.1.1,(s3.1.2.1,s3.1.2.2)),(s3.2.1.1,(s3.2.1.2.1,s3.2.1.2.2)),(s3.2.2.1.1,(s3.2.2.1.2.1,s3.2.2.1.2.2)),s3.2.2.2.1,(s3.2.2.2.2.1.1,(s3.2.2.2.2.1.2.1,s3.2.2.2.2.1.2.2)),w64 (s3.2.2.2.2.2+1))
 else
 some ((t1.1,(t1.2.1,t1.2.2)),(t2.1,(t2.2.1,t2.2.2)),(t4.1,(t4.2.1,t4.2.2)),t5)
def BL:Nat->((Int×Int×(List ((List Int)×Int×(List (List Int)))))×(Int×(Int×(List ((List Int)×Int×(List (List Int))))))×(Int×(Int×(List ((List Int)×Int×(List (List Int))))))×Int)->Option ((Int×(Int×(List ((List Int)×Int×(List (List Int))))))×(Int×(Int×(List ((List Int)×Int×(List (List Int)))))))
 |0,_=>none
 |n+1,(t1,t2,t4,t5)=>
 if decide (t5<(t1.2.2.length:Int))then
 if(0:Int)<=t5/\t5<=(w64 (t5+1))/\(w64 (t5+1))<=(t1.2.2.length:Int)then
 (F4 ((t1.2.2.take (Int.toNat (w64 (t5+1)))).drop (Int.toNat t5))).bind λr2=>
 if inb 0 r2 then
 if(((gd r2 0 ([],(0,[]))).1).length:Int)==1 then
 if t4.2.2.length+ [((gd r2 0 ([],(0,[]))).1,(((gd r2 0 ([],(0,[]))).2).1,((gd r2 0 ([],(0,[]))).2).2))].length<=lim then
 (AJ Aa ((t1.1,(t1.2.1,t1.2.2)),(t2.1,(t2.2.1,t2.2.2)),(t4.1,(t4.2.1,t4.2.2++ [((gd r2 0 ([],(0,[]))).1,(((gd r2 0 ([],(0,[]))).2).1,((gd r2 0 ([],(0,[]))).2).2))])),t5,((gd r2 0 ([],(0,[]))).1,(((gd r2 0 ([],(0,[]))).2).1,((gd r2 0 ([],(0,[]))).2).2)),0)).bind λs3=>
 BL n ((s3.1.1,(s3.1.2.1,s3.1.2.2)),(s3.2.1.1,(s3.2.1.2.1,s3.2.1.2.2)),(s3.2.2.1.1,(s3.2.2.1.2.1,s3.2.2.1.2.2)),w64 (s3.2.2.2+1))
 else none
 else
 (AJ Aa ((t1.1,(t1.2.1,t1.2.2)),(t2.1,(t2.2.1,t2.2.2)),(t4.1,(t4.2.1,t4.2.2)),t5,((gd r2 0 ([],(0,[]))).1,(((gd r2 0 ([],(0,[]))).2).1,((gd r2 0 ([],(0,[]))).2).2)),0)).bind λs4=>
 BL n ((s4.1.1,(s4.1.2.1,s4.1.2.2)),(s4.2.1.1,(s4.2.1.2.1,s4.2.1.2.2)),(s4.2.2.1.1,(s4.2.2.1.2.1,s4.2.2.1.2.2)),w64 (s4.2.2.2+1))
 else none
 else none
 else
 some ((t2.1,(t2.2.1,t2.2.2)),(t4.1,(t4.2.1,t4.2.2)))
def Be (t0:Int×Int×(List ((List Int)×Int×(List (List Int))))):Option ((Int×Int×(List ((List Int)×Int×(List (List Int)))))×Bool):=
 (CP (t0.1,(t0.2.1,t0.2.2))).bind λr1=>
 if !r1 then
 some ((0,(0,[])),false)
 else
 (BL Aa ((t0.1,(t0.2.1,t0.2.2)),(0,(0,[])),(t0.1,(t0.2.1,[])),0)).bind λs2=>
 (Hq (s2.2.1,(s2.2.2.1,s2.2.2.2))).bind λr3=>
 some ((r3.1.1,(r3.1.2.1,r3.1.2.2)),r3.2)
def Eb (r:Int×(List (List Int))):Option ((Int×(List (List Int)))):=
 (Ep r.2).bind λr1=>
 some (r.1,r1)
def CR:Nat->((List ((List Int)×Int×(List (List Int))))×(List ((List Int)×Int×(List (List Int))))×Int×Int)->Option ((List ((List Int)×Int×(List (List Int)))))
 |0,_=>none
 |n+1,(copies,t7,t8,t9)=>
 if decide (t9<t8)then
 if inb t9 t7 then
 (Cv ((gd t7 t9 ([],(0,[]))).1)).bind λr1=>
 (Eb (((gd t7 t9 ([],(0,[]))).2).1,((gd t7 t9 ([],(0,[]))).2).2)).bind λr2=>
 if copies.length+ [(r1,(r2.1,r2.2))].length<=lim then
 CR n (copies++ [(r1,(r2.1,r2.2))],t7,t8,w64 (t9+1))
 else none
 else none
 else
 some copies
def CC (list:List ((List Int)×Int×(List (List Int)))):Option ((List ((List Int)×Int×(List (List Int))))):=
 (CR Aa ([],list,(list.length:Int),0)).bind λs1=>
 some s1
def Bu:Nat->((Int×Int×(List ((List Int)×Int×(List (List Int)))))×(Int×(Int×(List ((List Int)×Int×(List (List Int))))))×(List ((List Int)×Int×(List (List Int))))×((List Int)×Int×(List (List Int)))×Int×Int×(List (List Int))×(List ((List Int)×Int×(List (List Int))))×Int×Int×Int×Int×(List (List Int))×Int×Int)->Option ((Int×Int×(List ((List Int)×Int×(List (List Int)))))×(Int×(Int×(List ((List Int)×Int×(List (List Int))))))×(List ((List Int)×Int×(List (List Int))))×((List Int)×Int×(List (List Int)))×Int×Int×(List (List Int))×(List ((List Int)×Int×(List (List Int))))×Int×Int×Int×Int)
 |0,_=>none
 |n+1,(t1,t2,t4,t6,t7,t8,t9,t18,t19,t20,t35,t36,t51,t52,t53)=>
 if decide (t53<t52)then
 if inb t53 t51 then
 if inb t7 (gd t51 t53 [])then
 if inb t8 (gd t51 t53 [])then
 if t9.length+ [[gd (gd t51 t53 []) t7 0,gd (gd t51 t53 []) t8 0]].length<=lim then
 Bu n ((t1.1,(t1.2.1,t1.2.2)),(t2.1,(t2.2.1,t2.2.2)),t4,(t6.1,(t6.2.1,t6.2.2)),t7,t8,t9++ [[gd (gd t51 t53 []) t7 0,gd (gd t51 t53 []) t8 0]],t18,t19,t20,t35,t36,t51,t52,w64 (t53+1))
 else none
 else none
 else none
 else none
 else
 some ((t1.1,(t1.2.1,t1.2.2)),(t2.1,(t2.2.1,t2.2.2)),t4,(t6.1,(t6.2.1,t6.2.2)),t7,t8,t9,t18,t19,t20,t35,t36)
def Cl:Nat->((Int×Int×(List ((List Int)×Int×(List (List Int)))))×(Int×(Int×(List ((List Int)×Int×(List (List Int))))))×(List ((List Int)×Int×(List (List Int))))×((List Int)×Int×(List (List Int)))×Int×Int×(List ((List Int)×Int×(List (List Int))))×Int×Int×Int×Int)->Option ((Int×Int×(List ((List Int)×Int×(List (List Int)))))×(Int×(Int×(List ((List Int)×Int×(List (List Int))))))×(List ((List Int)×Int×(List (List Int))))×((List Int)×Int×(List (List Int)))×(List ((List Int)×Int×(List (List Int))))×Int×Int×Int×Int)
 |0,_=>none
 |n+1,(t1,t2,t4,t6,t7,t8,t18,t19,t20,t35,t36)=>
 if decide (t8<(t6.1.length:Int))then
 (Bu Aa ((t1.1,(t1.2.1,t1.2.2)),(t2.1,(t2.2.1,t2.2.2)),t4,(t6.1,(t6.2.1,t6.2.2)),t7,t8,[],t18,t19,t20,t35,t36,t6.2.2,(t6.2.2.length:Int),0)).bind λs3=>
 if inb s3.2.2.2.2.1 s3.2.2.2.1.1 then
 if inb s3.2.2.2.2.2.1 s3.2.2.2.1.1 then
 (Et 2 s3.2.2.2.2.2.2.1).bind λr4=>
 if s3.2.2.1.length+ [([gd s3.2.2.2.1.1 s3.2.2.2.2.1 0,gd s3.2.2.2.1.1 s3.2.2.2.2.2.1 0],(r4.1,r4.2))].length<=lim then
 Cl n ((s3.1.1,(s3.1.2.1,s3.1.2.2)),(s3.2.1.1,(s3.2.1.2.1,s3.2.1.2.2)),s3.2.2.1++ [([gd s3.2.2.2.1.1 s3.2.2.2.2.1 0,gd s3.2.2.2.1.1 s3.2.2.2.2.2.1 0],(r4.1,r4.2))],(s3.2.2.2.1.1,(s3.2.2.2.1.2.1,s3.2.2.2.1.2.2)),s3.2.2.2.2.1,w64 (s3.2.2.2.2.2.1+1),s3.2.2.2.2.2.2.2.1,s3.2.2.2.2.2.2.2.2.1,s3.2.2.2.2.2.2.2.2.2.1,s3.2.2.2.2.2.2.2.2.2.2.1,s3.2.2.2.2.2.2.2.2.2.2.2)
 else none
 else none
 else none
 else
 some ((t1.1,(t1.2.1,t1.2.2)),(t2.1,(t2.2.1,t2.2.2)),t4,(t6.1,(t6.2.1,t6.2.2)),t18,t19,t20,t35,t36)
def AI:Nat->((Int×Int×(List ((List Int)×Int×(List (List Int)))))×(Int×(Int×(List ((List Int)×Int×(List (List Int))))))×(List ((List Int)×Int×(List (List Int))))×((List Int)×Int×(List (List Int)))×(List ((List Int)×Int×(List (List Int))))×Int×Int×Int×Int)->Option ((Int×Int×(List ((List Int)×Int×(List (List Int)))))×(Int×(Int×(List ((List Int)×Int×(List (List Int))))))×(List ((List Int)×Int×(List (List Int))))×(List ((List Int)×Int×(List (List Int))))×Int×Int)
 |0,_=>none
 |n+1,(t1,t2,t4,t6,t18,t19,t20,t35,t36)=>
 if decide (t36<t35)then
 (Cl Aa ((t1.1,(t1.2.1,t1.2.2)),(t2.1,(t2.2.1,t2.2.2)),t4,(t6.1,(t6.2.1,t6.2.2)),t36,w64 (t36+1),t18,t19,t20,t35,t36)).bind λs3=>
 AI n ((s3.1.1,(s3.1.2.1,s3.1.2.2)),(s3.2.1.1,(s3.2.1.2.1,s3.2.1.2.2)),s3.2.2.1,(s3.2.2.2.1.1,(s3.2.2.2.1.2.1,s3.2.2.2.1.2.2)),s3.2.2.2.2.1,s3.2.2.2.2.2.1,s3.2.2.2.2.2.2.1,s3.2.2.2.2.2.2.2.1,w64 (s3.2.2.2.2.2.2.2.2+1))
 else
 some ((t1.1,(t1.2.1,t1.2.2)),(t2.1,(t2.2.1,t2.2.2)),t4,t18,t19,t20)
def Ba:Nat->((Int×Int×(List ((List Int)×Int×(List (List Int)))))×(Int×(Int×(List ((List Int)×Int×(List (List Int))))))×(List ((List Int)×Int×(List (List Int))))×(List ((List Int)×Int×(List (List Int))))×Int×Int)->Option ((Int×Int×(List ((List Int)×Int×(List (List Int)))))×(Int×(Int×(List ((List Int)×Int×(List (List Int))))))×(List ((List Int)×Int×(List (List Int)))))
 |0,_=>none
 |n+1,(t1,t2,t4,t18,t19,t20)=>
 if decide (t20<t19)then
 if inb t20 t18 then
 if(((gd t18 t20 ([],(0,[]))).1).length:Int)==1 then
 (CC [((gd t18 t20 ([],(0,[]))).1,(((gd t18 t20 ([],(0,[]))).2).1,((gd t18 t20 ([],(0,[]))).2).2))]).bind λr2=>
 if t4.length+r2.length<=lim then
 (AI Aa ((t1.1,(t1.2.1,t1.2.2)),(t2.1,(t2.2.1,t2.2.2)),t4++r2,((gd t18 t20 ([],(0,[]))).1,(((gd t18 t20 ([],(0,[]))).2).1,((gd t18 t20 ([],(0,[]))).2).2)),t18,t19,t20,(((gd t18 t20 ([],(0,[]))).1).length:Int),0)).bind λs3=>
 Ba n ((s3.1.1,(s3.1.2.1,s3.1.2.2)),(s3.2.1.1,(s3.2.1.2.1,s3.2.1.2.2)),s3.2.2.1,s3.2.2.2.1,s3.2.2.2.2.1,w64 (s3.2.2.2.2.2+1))
 else none
 else
 (AI Aa ((t1.1,(t1.2.1,t1.2.2)),(t2.1,(t2.2.1,t2.2.2)),t4,((gd t18 t20 ([],(0,[]))).1,(((gd t18 t20 ([],(0,[]))).2).1,((gd t18 t20 ([],(0,[]))).2).2)),t18,t19,t20,(((gd t18 t20 ([],(0,[]))).1).length:Int),0)).bind λs4=>
 Ba n ((s4.1.1,(s4.1.2.1,s4.1.2.2)),(s4.2.1.1,(s4.2.1.2.1,s4.2.1.2.2)),s4.2.2.1,s4.2.2.2.1,s4.2.2.2.2.1,w64 (s4.2.2.2.2.2+1))
 else none
 else
 some ((t1.1,(t1.2.1,t1.2.2)),(t2.1,(t2.2.1,t2.2.2)),t4)
def Bc (t0:Int×Int×(List ((List Int)×Int×(List (List Int))))):Option ((Int×(Int×(List ((List Int)×Int×(List (List Int))))))×Bool):=
 (BT (t0.1,(t0.2.1,t0.2.2))).bind λr1=>
 if !r1 then
 some ((0,(0,[])),false)
 else
 (Ba Aa ((t0.1,(t0.2.1,t0.2.2)),(0,(0,[])),[],t0.2.2,(t0.2.2.length:Int),0)).bind λs2=>
 (EU (s2.1.1,(s2.1.2.1,s2.1.2.2)) s2.2.2).bind λr3=>
 some ((r3.1.1,(r3.1.2.1,r3.1.2.2)),r3.2)
end T
open Go Go.Va
namespace T
theorem Lk {l:List (List Int)} (hl:l.length<=100000) (hr: ∀r∈l,r.length<=100000):Ev l=some (Zn cmpL l):=by
 unfold Ev
 rw[Hg hl hr]
 have:B0 l ()=some (Zn cmpL l):=by
  unfold B0
  rw[if_pos]
  refine⟨by unfold lim;omega,?_⟩
  rw[List.all_eq_true]
  intro r h
  rw[decide_eq_true_iff]
  have:=hr r h;unfold lim;omega
 simp only[Option.bind_some,this]
theorem Jj {l:List (List Int)} (hl:l.length<=100000) (hr: ∀r∈l,r.length<=100000):Fj l=some (Zx l):=by
 unfold Fj
 rw[if_pos]
 refine⟨by unfold lim;omega,?_⟩
 rw[List.all_eq_true]
 intro r h
 rw[decide_eq_true_iff]
 have:=hr r h;unfold lim;omega
theorem Ki {ar:Int} {l:List (List Int)} (hl:l.length<=100000) (hr: ∀r∈l,r.length<=100000):Et ar l=some (ar,G8 l):=by
 have hp:=Kq l
 unfold Et
 rw[Lk hl hr]
 simp only[Option.bind_some]
 rw[Jj (by rw[hp.length_eq];exact hl) λr h=>hr r (hp.mem_iff.1 h)]
 rfl
end T
open Go Go.Va
namespace T
section
variable {a:Net} {f:Opn} {n:Int}
theorem Lw {l:List Int} (h:l.length<=1000000):Cv l=some l:=by
 unfold Cv
 rw[if_pos (by simp;unfold lim;omega)];simp
theorem Ml {l out:List Con} {i:Nat} (hi:i<l.length) (hr: ∀r∈l[i].2.2,r.length<=1048576) (hl:l[i].2.2.length<=1048576) (s:List Int) (ar:Int):CJ Aa (l,out,(i:Int),(s,(ar,[])),0)=some (l,out,(i:Int),(s,(ar,l[i].2.2))):=by
 have:=Ca l[i].2.2.length (λm (o:List (List Int)) k=>CJ m (l,out,(i:Int),(s,(ar,o)),k)) (λk=>l[i].2.2.take k) (r:=some (l,out,(i:Int),(s,(ar,l[i].2.2)))) (λm k hk=>?_) (λm=>?_) (n:=Aa) (by unfold Aa;omega)
 ·exact this
 ·have e:=DZ (l:=l[i].2.2[k]) (by have:=hr _ (List.getElem_mem hk);omega)
  simp only[CJ,Ae,hi,Af hi,hk,Af hk,if_true,e,Option.bind_some,Ac (show k<4611686018427387904 by omega)]
  rw[if_pos (by simp;omega),if_pos (by simp;unfold lim;omega),List.take_succ_eq_append_getElem hk]
 ·simp only[CJ,Ae,hi,Af hi,if_true,List.take_length]
  rw[if_neg (by simp)]
theorem HU {l:List Con} (hl:l.length<=1000000) (hc: ∀c∈l,Lx c):F4 l=some l:=by
 have:=Ca l.length (λm (o:List Con) i=>CI m (l,o,i)) (λk=>l.take k) (r:=some l) (λm k hk=>?_) (λm=>?_) (n:=Aa) (by unfold Aa;omega)
 ·have this:CI Aa (l,[],0)=_:=this
  unfold F4
  rw[this];rfl
 ·have h:=hc _ (List.getElem_mem hk)
  have e1:=DZ (l:=l[k].1) (by have:=h.1;omega)
  have e2:=Ml (out:=l.take k) hk (λr hr=>by have:=h.2.2 r hr;omega) (by have:=h.2.1;omega) l[k].1 l[k].2.1
  simp only[CI,Ae,hk,Af hk,if_true,e1,e2,Option.bind_some,Ac (show k<4611686018427387904 by omega)]
  rw[if_pos (by simp;omega),if_pos (by simp;unfold lim;omega),List.take_succ_eq_append_getElem hk]
 ·simp only[CI,List.take_length]
  rw[if_neg (by simp)]
def L4 (a:Net):Prop:=a.2.2.length<=100/\ ∀c∈a.2.2,c.1.length<=100/\c.2.2.length<=1000/\ ∀r∈c.2.2,r.length<=100
theorem MS {a:Net} (h:L4 a):HF a:=⟨by have:=h.1;omega,λc hc=>⟨by have:=(h.2 c hc).1;omega,by have:=(h.2 c hc).2.1;omega,λr hr=>by have:=(h.2 c hc).2.2 r hr;omega⟩⟩
end
end T
open Go Go.Va
namespace T
section
variable {a:Net} {v n:Int}
def EK (p q:Nat) (t:List Int):List Int:= [t.getD p 0,t.getD q 0]
def He (c:Con) (p q:Nat):Con:=(EK p q c.1,(2,G8 (c.2.2.map (EK p q))))
def FX (c:Con) (p:Nat):List Con:=(List.range' (p+1) (c.1.length-(p+1))).map (He c p)
def Dt (c:Con):List Con:=(if c.1.length=1 then [c]else [])++(List.range c.1.length).flatMap (FX c)
theorem L9 {t:List Int} {p q:Nat} (hp:p<t.length) (hq:q<t.length):HN t [(p:Int),(q:Int)]=some (EK p q t):=by
 unfold HN
 have e:Aa=(Aa-3)+1+1+1:=by unfold Aa;omega
 rw[e]
 have w1:w64 (0+1)=1:=by rw[Ga];rfl
 have w2:w64 (1+1)=2:=by rw[Ga];rfl
 have i0:inb (0:Int) [(p:Int),(q:Int)]:=by unfold inb;simp
 have i1:inb (1:Int) [(p:Int),(q:Int)]:=by unfold inb;simp
 have g0:gd [(p:Int),(q:Int)] 0 0=(p:Int):=rfl
 have g1:gd [(p:Int),(q:Int)] 1 0=(q:Int):=rfl
 simp only[F7,w1,w2,i0,i1,g0,g1,Ae,hp,hq,if_true,Jm]
 simp[EK,lim]
structure TwoOk (c:Con):Prop where
 sl:c.1.length<=3
 tl: ∀t∈c.2.2,t.length=c.1.length
 many:c.2.2.length<=64
theorem MV {c:Con} (h:TwoOk c) {p q:Nat} (hp:p<c.1.length) (hq:q<c.1.length):D5 c.2 [(p:Int),(q:Int)]=some (He c p q).2:=by
 have hm:=h.many
 have:=Ca c.2.2.length (λm (o:List (List Int)) i=>B3 m ([(p:Int),(q:Int)],c.2,(0,[]),(2,o),i)) (λk=>G8 ((c.2.2.take k).map (EK p q))) (r:=some ((0,[]),(2,G8 (c.2.2.map (EK p q))))) (λm k hk=>?_) (λm=>?_) (n:=Aa) (by unfold Aa;omega)
 ·have e0:G8 ((c.2.2.take 0).map (EK p q))= []:=by rw[List.take_zero,List.map_nil];simp[G8,Zn,Zx,Zm]
  rw[e0]at this
  have this:B3 Aa ([(p:Int),(q:Int)],(c.2.1,c.2.2),(0,[]),((([(p:Int),(q:Int)]:List Int).length:Int),[]),0)=_:=this
  unfold D5
  rw[this];rfl
 ·have ht:=h.tl _ (List.getElem_mem hk)
  have e1:=L9 (t:=c.2.2[k]) (show p<c.2.2[k].length by omega) (show q<c.2.2[k].length by omega)
  have hle:=Jx ((c.2.2.take k).map (EK p q))
  rw[List.length_map,List.length_take]at hle
  obtain⟨out,e2,g1,g2,_⟩:=GZ (list:=G8 ((c.2.2.take k).map (EK p q))) (t:=EK p q c.2.2[k]) (k:=2) (by omega) (by omega) (λu hu=>by
   obtain⟨t,_,rfl⟩:=List.mem_map.1 (setL_mem.1 hu);rfl) rfl (IA _)
  have e3:out=G8 ((c.2.2.take (k+1)).map (EK p q)):=(MR g1 λu=>by
   rw[g2,setL_mem,List.take_succ_eq_append_getElem hk,List.map_append,List.mem_append,List.map_cons,List.map_nil,List.mem_singleton]
   exact⟨λh=>h.symm,λh=>h.symm⟩).symm
  simp only[B3,Ae,hk,Af hk,if_true,e1,e2,Option.bind_some,Ac (show k<4611686018427387904 by omega)]
  rw[if_pos (by simp;omega),e3]
 ·simp only[B3,List.take_length]
  rw[if_neg (by simp)]
theorem FQ {c:Con} {p:Nat}:(FX c p).length=c.1.length-(p+1):=by simp[FX]
theorem L2 {c:Con} (h:TwoOk c) {p:Nat} (hp:p<c.1.length) (t1 t2:Net) (x y t5:Int): ∀(d f q:Nat) (o:List Con),q+d=c.1.length->p<q->d<f->o.length+d<=100000->
  Cm f (t1,t2,(x,(y,o)),t5,c,(p:Int),(q:Int))=some (t1,t2,(x,(y,o++(List.range' q d).map (He c p))),t5,c,(p:Int)):=by
 have hsl:=h.sl
 intro d
 induction d with
 |zero=>
  intro f q o hq hpq hf ho
  obtain⟨f,rfl⟩: ∃z,f=z+1:=⟨f-1,by omega⟩
  simp only[Cm]
  rw[if_neg (by simp;omega)]
  simp
 |succ d ih=>
  intro f q o hq hpq hf ho
  obtain⟨f,rfl⟩: ∃z,f=z+1:=⟨f-1,by omega⟩
  have hql:q<c.1.length:=by omega
  have e1:=MV h hp hql
  have e1:D5 (c.2.1,c.2.2) [(p:Int),(q:Int)]=_:=e1
  have e2:=ih f (q+1) (o++ [He c p q]) (by omega) (by omega) (by omega) (by rw[List.length_append,List.length_singleton];omega)
  simp only[Cm,Ae,hp,hql,if_true,Jm,e1,Option.bind_some,Ac (show q<4611686018427387904 by omega)]
  rw[if_pos (by simp;omega),if_pos (by simp;unfold lim;omega)]
  rw[List.range'_succ,List.map_cons]
  rw[List.append_assoc]at e2
  exact e2
theorem Ff {α β:Type} {g:α->List β} {l:List α} {x:α}:(l++ [x]).flatMap g=l.flatMap g++g x:=by simp
theorem J5 {c:Con} (h:TwoOk c) (t1 t2:Net) (x y t5:Int) (o:List Con) (ho:o.length<=50000):
  AJ Aa (t1,t2,(x,(y,o)),t5,c,0)=some (t1,t2,(x,(y,o++(List.range c.1.length).flatMap (FX c))),t5):=by
 have hsl:=h.sl
 have hfl: ∀k,k<=c.1.length->((List.range k).flatMap (FX c)).length<=3*k:=λk hk=>by
  induction k with
  |zero=>simp
  |succ k ih=>
   have:=ih (by omega)
   rw[List.range_succ,Ff,List.length_append,FQ];omega
 have:=Ca c.1.length (λm (o:List Con) i=>AJ m (t1,t2,(x,(y,o)),t5,c,i)) (λk=>o++(List.range k).flatMap (FX c)) (r:=some (t1,t2,(x,(y,o++(List.range c.1.length).flatMap (FX c))),t5)) (λm k hk=>?_) (λm=>?_) (n:=Aa) (by unfold Aa;omega)
 ·rw[List.range_zero,List.flatMap_nil,List.append_nil]at this;exact this
 ·have hz:=hfl k (by omega)
  have e:=L2 h hk t1 t2 x y t5 (c.1.length-(k+1)) Aa (k+1) (o++(List.range k).flatMap (FX c)) (by omega) (by omega) (by unfold Aa;omega) (by rw[List.length_append];omega)
  simp only[AJ,Ac (show k<4611686018427387904 by omega),e,Option.bind_some]
  rw[if_pos (by simp;omega),List.range_succ,Ff,List.append_assoc]
  rfl
 ·simp only[AJ]
  rw[if_neg (by simp)]
theorem Mi {c:Con} (h:c.1.length<=3):(Dt c).length<=3:=by
 unfold Dt
 rcases Nat.lt_or_ge c.1.length 1 with h0|h0
 ·have e:c.1.length=0:=by omega
  rw[e];simp
 ·rcases Nat.lt_or_ge c.1.length 2 with h1|h1
  ·have e:c.1.length=1:=by omega
   have e1:(FX c 0).length=0:=by rw[FQ];omega
   rw[e];simp[List.range_succ,e1]
  ·have e0:(FX c 0).length=c.1.length-1:=FQ
   have e1:(FX c 1).length=c.1.length-2:=FQ
   have e2:(FX c 2).length=c.1.length-3:=FQ
   rcases Nat.lt_or_ge c.1.length 3 with h2|h2
   ·have e:c.1.length=2:=by omega
    rw[if_neg (by omega),e];simp[List.range_succ,e0,e1];omega
   ·have e:c.1.length=3:=by omega
    rw[if_neg (by omega),e];simp[List.range_succ,e0,e1,e2];omega
theorem Kv {c:Con} (h:c.1.length=1):Dt c= [c]++(List.range c.1.length).flatMap (FX c):=by unfold Dt;rw[if_pos h]
theorem Ku {c:Con} (h:c.1.length≠1):Dt c=(List.range c.1.length).flatMap (FX c):=by unfold Dt;rw[if_neg h,List.nil_append]
theorem H8 {l:List Con} (h: ∀c∈l,c.1.length<=3):(l.flatMap Dt).length<=3*l.length:=by
 induction l with
 |nil=>simp
 |cons c l ih=>
  have:=ih λc hc=>h c (List.mem_cons_of_mem _ hc)
  have:=Mi (h c (by simp))
  rw[List.flatMap_cons,List.length_append,List.length_cons];omega
theorem MP (hc: ∀c∈a.2.2,TwoOk c) (hs: ∀c∈a.2.2,Lx c) (hl:a.2.2.length<=1000) (t2:Net) (x y:Int):
  BL Aa (a,t2,(x,(y,[])),0)=some (t2,(x,(y,a.2.2.flatMap Dt))):=by
 have:=Ca a.2.2.length (λm (o:List Con) i=>BL m (a,t2,(x,(y,o)),i)) (λk=>(a.2.2.take k).flatMap Dt) (r:=some (t2,(x,(y,a.2.2.flatMap Dt)))) (λm k hk=>?_) (λm=>?_) (n:=Aa) (by unfold Aa;omega)
 ·exact this
 ·have h:=hc _ (List.getElem_mem hk)
  have hz:=H8 (l:=a.2.2.take k) λc h=>(hc c (List.mem_of_mem_take h)).sl
  rw[List.length_take]at hz
  have ew:=Ac (show k<4611686018427387904 by omega)
  have e1:(a.2.2.take (Int.toNat ((k+1:Nat):Int))).drop (Int.toNat (k:Int))= [a.2.2[k]]:=by
   rw[Int.toNat_natCast,Int.toNat_natCast,List.take_succ_eq_append_getElem hk,List.drop_append_of_le_length (by rw[List.length_take];omega),List.drop_eq_nil_of_le (by rw[List.length_take];omega)]
   rfl
  have e2:=HU (l:= [a.2.2[k]]) (by simp) λc h=>by rw[List.mem_singleton.1 h];exact hs _ (List.getElem_mem hk)
  have i0:inb (0:Int) [a.2.2[k]]:=by unfold inb;simp
  have g0:gd [a.2.2[k]] 0 ([],(0,[]))=a.2.2[k]:=rfl
  simp only[BL,ew,e1,e2,i0,g0,if_true,Option.bind_some]
  rw[if_pos (by simp;omega),if_pos (by omega),List.take_succ_eq_append_getElem hk,Ff]
  by_cases h1:a.2.2[k].1.length=1
  ·rw[if_pos (by simp[h1]),if_pos (by simp only[List.length_singleton];unfold lim;omega)]
   have e3:=J5 h a t2 x y (k:Int) ((a.2.2.take k).flatMap Dt++ [a.2.2[k]]) (by rw[List.length_append,List.length_singleton];omega)
   have e3:AJ Aa ((a.1,(a.2.1,a.2.2)),(t2.1,(t2.2.1,t2.2.2)),(x,(y,(a.2.2.take k).flatMap Dt++ [(a.2.2[k].1,(a.2.2[k].2.1,a.2.2[k].2.2))])),(k:Int),(a.2.2[k].1,(a.2.2[k].2.1,a.2.2[k].2.2)),0)=_:=e3
   rw[e3]
   simp only[Option.bind_some,ew]
   rw[Kv h1,List.append_assoc]
  ·rw[if_neg (by simp;omega)]
   have e3:=J5 h a t2 x y (k:Int) ((a.2.2.take k).flatMap Dt) (by omega)
   have e3:AJ Aa ((a.1,(a.2.1,a.2.2)),(t2.1,(t2.2.1,t2.2.2)),(x,(y,(a.2.2.take k).flatMap Dt)),(k:Int),(a.2.2[k].1,(a.2.2[k].2.1,a.2.2[k].2.2)),0)=_:=e3
   rw[e3]
   simp only[Option.bind_some,ew]
   rw[Ku h1]
 ·simp only[BL,List.take_length]
  rw[if_neg (by simp)]
theorem LJ {c:Con} (h:TwoOk c) {p q:Nat} (hp:p<c.1.length) (hq:q<c.1.length) (t1 t2:Net) (t4 t18:List Con) (x y z w:Int):
  Bu Aa (t1,t2,t4,c,(p:Int),(q:Int),[],t18,x,y,z,w,c.2.2,(c.2.2.length:Int),0)=some (t1,t2,t4,c,(p:Int),(q:Int),c.2.2.map (EK p q),t18,x,y,z,w):=by
 have hm:=h.many
 have:=Ca c.2.2.length (λm (o:List (List Int)) i=>Bu m (t1,t2,t4,c,(p:Int),(q:Int),o,t18,x,y,z,w,c.2.2,(c.2.2.length:Int),i)) (λk=>(c.2.2.take k).map (EK p q)) (r:=some (t1,t2,t4,c,(p:Int),(q:Int),c.2.2.map (EK p q),t18,x,y,z,w)) (λm k hk=>?_) (λm=>?_) (n:=Aa) (by unfold Aa;omega)
 ·exact this
 ·have ht:=h.tl _ (List.getElem_mem hk)
  simp only[Bu,Ae,hk,Af hk,show p<c.2.2[k].length by omega,show q<c.2.2[k].length by omega,if_true,Jm,Ac (show k<4611686018427387904 by omega)]
  rw[if_pos (by simp;omega),if_pos (by simp;unfold lim;omega),List.take_succ_eq_append_getElem hk,List.map_append]
  rfl
 ·simp only[Bu,List.take_length]
  rw[if_neg (by simp)]
theorem LI {c:Con} (h:TwoOk c) {p:Nat} (hp:p<c.1.length) (t1 t2:Net) (t18:List Con) (x y z w:Int): ∀(d f q:Nat) (o:List Con),q+d=c.1.length->p<q->d<f->o.length+d<=100000->
  Cl f (t1,t2,o,c,(p:Int),(q:Int),t18,x,y,z,w)=some (t1,t2,o++(List.range' q d).map (He c p),c,t18,x,y,z,w):=by
 have hsl:=h.sl
 have hm:=h.many
 intro d
 induction d with
 |zero=>
  intro f q o hq hpq hf ho
  obtain⟨f,rfl⟩: ∃z,f=z+1:=⟨f-1,by omega⟩
  simp only[Cl]
  rw[if_neg (by simp;omega)]
  simp
 |succ d ih=>
  intro f q o hq hpq hf ho
  obtain⟨f,rfl⟩: ∃z,f=z+1:=⟨f-1,by omega⟩
  have hql:q<c.1.length:=by omega
  have e1:=LJ h hp hql t1 t2 o t18 x y z w
  have e1:Bu Aa ((t1.1,(t1.2.1,t1.2.2)),(t2.1,(t2.2.1,t2.2.2)),o,(c.1,(c.2.1,c.2.2)),(p:Int),(q:Int),[],t18,x,y,z,w,c.2.2,(c.2.2.length:Int),0)=_:=e1
  have e2:=ih f (q+1) (o++ [He c p q]) (by omega) (by omega) (by omega) (by rw[List.length_append,List.length_singleton];omega)
  have e3:=Ki (ar:=2) (l:=c.2.2.map (EK p q)) (by rw[List.length_map];omega) λr hr=>by obtain⟨t,_,rfl⟩:=List.mem_map.1 hr;simp[EK]
  simp only[Cl,Ae,hp,hql,if_true,Jm,e1,e3,Option.bind_some,Ac (show q<4611686018427387904 by omega)]
  rw[if_pos (by simp;omega),if_pos (by simp;unfold lim;omega)]
  rw[List.range'_succ,List.map_cons]
  rw[List.append_assoc]at e2
  exact e2
theorem JP {c:Con} (h:TwoOk c) (t1 t2:Net) (t18:List Con) (x y:Int) (o:List Con) (ho:o.length<=50000):
  AI Aa (t1,t2,o,c,t18,x,y,(c.1.length:Int),0)=some (t1,t2,o++(List.range c.1.length).flatMap (FX c),t18,x,y):=by
 have hsl:=h.sl
 have hfl: ∀k,k<=c.1.length->((List.range k).flatMap (FX c)).length<=3*k:=λk hk=>by
  induction k with
  |zero=>simp
  |succ k ih=>
   have:=ih (by omega)
   rw[List.range_succ,Ff,List.length_append,FQ];omega
 have:=Ca c.1.length (λm (o:List Con) i=>AI m (t1,t2,o,c,t18,x,y,(c.1.length:Int),i)) (λk=>o++(List.range k).flatMap (FX c)) (r:=some (t1,t2,o++(List.range c.1.length).flatMap (FX c),t18,x,y)) (λm k hk=>?_) (λm=>?_) (n:=Aa) (by unfold Aa;omega)
 ·rw[List.range_zero,List.flatMap_nil,List.append_nil]at this;exact this
 ·have hz:=hfl k (by omega)
  have e:=LI h hk t1 t2 t18 x y (c.1.length:Int) (k:Int) (c.1.length-(k+1)) Aa (k+1) (o++(List.range k).flatMap (FX c)) (by omega) (by omega) (by unfold Aa;omega) (by rw[List.length_append];omega)
  simp only[AI,Ac (show k<4611686018427387904 by omega),e,Option.bind_some]
  rw[if_pos (by simp;omega),List.range_succ,Ff,List.append_assoc]
  rfl
 ·simp only[AI]
  rw[if_neg (by simp)]
theorem Kb {c:Con} (h:TwoOk c):CC [c]=some [c]:=by
 have hm:=h.many
 have hsl:=h.sl
 have e1:=Lw (l:=c.1) (by omega)
 have e2:=Hg (rows:=c.2.2) (by omega) λr hr=>by have:=h.tl r hr;omega
 have ef:Aa=(Aa-2)+1+1:=by unfold Aa;omega
 have w1:w64 (0+1)=1:=by rw[Ga];rfl
 have i0:inb (0:Int) [c]:=by unfold inb;simp
 have g0:gd [c] 0 ([],(0,[]))=c:=rfl
 unfold CC
 rw[ef]
 unfold Eb at*
 simp only[CR,w1,i0,g0,if_true,e1,Option.bind_some]
 unfold Eb
 simp only[e2,Option.bind_some]
 simp[lim]
theorem Mz (hc: ∀c∈a.2.2,TwoOk c) (hl:a.2.2.length<=1000) (t2:Net):
  Ba Aa (a,t2,[],a.2.2,(a.2.2.length:Int),0)=some (a,t2,a.2.2.flatMap Dt):=by
 have:=Ca a.2.2.length (λm (o:List Con) i=>Ba m (a,t2,o,a.2.2,(a.2.2.length:Int),i)) (λk=>(a.2.2.take k).flatMap Dt) (r:=some (a,t2,a.2.2.flatMap Dt)) (λm k hk=>?_) (λm=>?_) (n:=Aa) (by unfold Aa;omega)
 ·exact this
 ·have h:=hc _ (List.getElem_mem hk)
  have hz:=H8 (l:=a.2.2.take k) λc h=>(hc c (List.mem_of_mem_take h)).sl
  rw[List.length_take]at hz
  have ew:=Ac (show k<4611686018427387904 by omega)
  have e2:=Kb h
  have e2:CC [(a.2.2[k].1,(a.2.2[k].2.1,a.2.2[k].2.2))]=_:=e2
  simp only[Ba,ew,Ae,hk,Af hk,e2,if_true,Option.bind_some]
  rw[if_pos (by simp;omega),List.take_succ_eq_append_getElem hk,Ff]
  by_cases h1:a.2.2[k].1.length=1
  ·rw[if_pos (by simp[h1]),if_pos (by simp only[List.length_singleton];unfold lim;omega)]
   have e3:=JP h a t2 a.2.2 (a.2.2.length:Int) (k:Int) ((a.2.2.take k).flatMap Dt++ [a.2.2[k]]) (by rw[List.length_append,List.length_singleton];omega)
   have e3:AI Aa ((a.1,(a.2.1,a.2.2)),(t2.1,(t2.2.1,t2.2.2)),(a.2.2.take k).flatMap Dt++ [a.2.2[k]],(a.2.2[k].1,(a.2.2[k].2.1,a.2.2[k].2.2)),a.2.2,(a.2.2.length:Int),(k:Int),(a.2.2[k].1.length:Int),0)=_:=e3
   rw[e3]
   simp only[Option.bind_some,ew]
   rw[Kv h1,List.append_assoc]
  ·rw[if_neg (by simp;omega)]
   have e3:=JP h a t2 a.2.2 (a.2.2.length:Int) (k:Int) ((a.2.2.take k).flatMap Dt) (by omega)
   have e3:AI Aa ((a.1,(a.2.1,a.2.2)),(t2.1,(t2.2.1,t2.2.2)),(a.2.2.take k).flatMap Dt,(a.2.2[k].1,(a.2.2[k].2.1,a.2.2[k].2.2)),a.2.2,(a.2.2.length:Int),(k:Int),(a.2.2[k].1.length:Int),0)=_:=e3
   rw[e3]
   simp only[Option.bind_some,ew]
   rw[Ku h1]
 ·simp only[Ba,List.take_length]
  rw[if_neg (by simp)]
def KZ (a:Net):Net×Bool:=if CE a&&decide ((a.2.2.flatMap Dt).length<=40)then((a.1,(a.2.1,a.2.2.flatMap Dt)),true)else((0,(0,[])),false)
theorem Mc (h:NetOk a): ∀c∈a.2.2,TwoOk c:=λc hc=>by
 have hco:=h.con c hc
 exact⟨by have:=hco.sl;have:=hco.ar;omega,hco.tl,hco.many⟩
theorem MU {c:Con} (h:ConOk v n c) {p q:Nat} (hp:p<c.1.length) (hq:q<c.1.length):Gj v n (He c p q)=true:=by
 unfold Gj E9 He
 simp only[Bool.and_eq_true,decide_eq_true_eq,List.all_eq_true]
 refine⟨⟨⟨⟨by omega,λt ht=>?_⟩,IA _⟩,by simp[EK]⟩,?_⟩
 ·obtain⟨s,hs,rfl⟩:=List.mem_map.1 (setL_mem.1 ht)
  have hsl:=h.tl s hs
  refine⟨by simp[EK],?_⟩
  unfold BK
  rw[List.all_eq_true]
  intro x hx
  have h1:=h.tv s hs p (by omega)
  have h2:=h.tv s hs q (by omega)
  unfold EK at hx
  rw[Ag (show p<s.length by omega),Ag (show q<s.length by omega)]at hx
  rcases List.mem_cons.1 hx with rfl|hx
  ·simpa using h1
  ·rw[List.mem_singleton.1 hx];simpa using h2
 ·unfold BK
  rw[List.all_eq_true]
  intro x hx
  have h1:=h.sv p hp
  have h2:=h.sv q hq
  unfold EK at hx
  rw[Ag hp,Ag hq]at hx
  rcases List.mem_cons.1 hx with rfl|hx
  ·simpa using h1
  ·rw[List.mem_singleton.1 hx];simpa using h2
theorem HZ {c d:Con} (h:d∈Dt c):d=c∨ ∃p q,p<c.1.length/\q<c.1.length/\d=He c p q:=by
 unfold Dt at h
 rcases List.mem_append.1 h with h|h
 ·split at h
  ·exact Or.inl (List.mem_singleton.1 h)
  ·cases h
 ·obtain⟨p,hp,h⟩:=List.mem_flatMap.1 h
  obtain⟨q,hq,rfl⟩:=List.mem_map.1 h
  have:=List.mem_range.1 hp
  have:=List.mem_range'_1.1 hq
  exact Or.inr ⟨p,q,by omega,by omega,rfl⟩
theorem Kt (hb:CE a=true):CE (a.1,(a.2.1,a.2.2.flatMap Dt))=decide ((a.2.2.flatMap Dt).length<=40):=by
 have hok:=EX hb
 unfold CE at hb⊢
 simp only[Bool.and_eq_true,decide_eq_true_eq,List.all_eq_true]at hb
 obtain⟨⟨⟨h1,h2⟩,_⟩,h4⟩:=hb
 dsimp only
 have h5:(a.2.2.flatMap Dt).all (Gj a.1 a.2.1)=true:=by
  rw[List.all_eq_true]
  intro d hd
  obtain⟨c,hc,hd⟩:=List.mem_flatMap.1 hd
  rcases HZ hd with rfl|⟨p,q,hp,hq,rfl⟩
  ·exact h4 d hc
  ·exact MU (hok.con c hc) hp hq
 rw[h5,decide_eq_true h1,decide_eq_true h2]
 simp
theorem KV (hs:HF a):Bc a=some (KZ a)/\Be a=some (KZ a):=by
 obtain⟨v,n,cs⟩:=a
 unfold Bc Be KZ
 dsimp only
 rw[Cb hs,Dl hs]
 simp only[Option.bind_some]
 cases hb:CE (v,(n,cs))with
 |false=>exact⟨rfl,rfl⟩
 |true=>
  have hok:=EX hb
  have hcl:=hok.hc
  dsimp only at hcl
  have ht:=Mc hok
  have e1:=Mz (a:=(v,(n,cs))) ht (by dsimp only;omega) (0,(0,[]))
  have e1:Ba Aa ((v,(n,cs)),(0,(0,[])),[],cs,(cs.length:Int),0)=_:=e1
  have e2:=MP (a:=(v,(n,cs))) ht hs.2 (by dsimp only;omega) (0,(0,[])) v n
  have hbn:=Kt hb
  have hz:=H8 (l:=cs) λc hc=>(ht c hc).sl
  have hsb:HF (v,(n,cs.flatMap Dt)):=by
   refine⟨by dsimp only;omega,λd hd=>?_⟩
   obtain⟨c,hc,hd⟩:=List.mem_flatMap.1 hd
   rcases HZ hd with rfl|⟨p,q,hp,hq,rfl⟩
   ·exact hs.2 d hc
   ·have h5:=Jx (c.2.2.map (EK p q))
    have h6:=(ht c hc).many
    rw[List.length_map]at h5
    refine⟨by simp[He,EK],by unfold He;dsimp only;omega,λr hr=>?_⟩
    obtain⟨t,_,rfl⟩:=List.mem_map.1 (setL_mem.1 hr)
    simp[EK]
  have e3:=Dl hsb
  rw[hbn]at e3
  dsimp only at e3
  simp only[e1,e2,Option.bind_some,Bool.not_true,Bool.false_eq_true,if_false,Bool.true_and]
  unfold EU Hq
  simp only[e3,Option.bind_some]
  by_cases hle:(cs.flatMap Dt).length<=40
  ·rw[if_neg (by rw[decide_eq_true_eq];omega),if_pos (decide_eq_true hle),decide_eq_true hle,if_neg (by decide)]
   exact⟨rfl,rfl⟩
  ·rw[if_pos (by rw[decide_eq_true_eq];omega),decide_eq_false hle,if_neg (by decide),if_pos (by decide)]
   exact⟨rfl,rfl⟩
theorem K0 (hs:HF a):L4 (KZ a).1:=by
 unfold KZ
 by_cases hb:(CE a&&decide ((a.2.2.flatMap Dt).length<=40))=true
 ·rw[if_pos hb]
  simp only[Bool.and_eq_true,decide_eq_true_eq]at hb
  have hok:=EX hb.1
  have ht:=Mc hok
  refine⟨by dsimp only;omega,λd hd=>?_⟩
  obtain⟨c,hc,hd⟩:=List.mem_flatMap.1 hd
  have h1:=(ht c hc).many
  have h2:=(ht c hc).sl
  rcases HZ hd with rfl|⟨p,q,hp,hq,rfl⟩
  ·exact⟨by omega,by omega,λr hr=>by have:=(ht d hc).tl r hr;omega⟩
  ·have h5:=Jx (c.2.2.map (EK p q))
   rw[List.length_map]at h5
   refine⟨by simp[He,EK],by unfold He;dsimp only;omega,λr hr=>?_⟩
   obtain⟨t,_,rfl⟩:=List.mem_map.1 (setL_mem.1 hr)
   simp[EK]
 ·rw[if_neg hb]
  exact⟨by simp,by simp⟩
end
end T
set_option linter.unusedVariables false
open Go Go.Va
namespace T
def I7 (code:List Int):Option (Bool):=
 some (decide ((code.length:Int)>65536))
def EN (t0:Int):Option (Int×(List (Int×(List (List Int))))):=
 if t0==0 then
 some (2,[(2,[[0,0],[0,1],[1,1]])])
 else
 if t0==1 then
 some (2,[(2,[[0,1],[1,0],[1,1]]),(2,[[0,0],[0,1],[1,0]])])
 else
 if t0==2 then
 some (2,[(3,[[0,0,0],[0,1,1],[1,0,1],[1,1,0]])])
 else
 if t0==3 then
 some (2,[(3,[[0,0,1],[0,1,0],[1,0,0]])])
 else
 if t0==4 then
 some (2,[(3,[[0,0,0],[0,0,1],[0,1,0],[0,1,1],[1,0,0],[1,0,1],[1,1,1]]),(1,[[1]])])
 else
 if t0==5 then
 some (3,[(2,[[0,1],[0,2],[1,0],[1,2],[2,0],[2,1]])])
 else
 if t0==6 then
 some (3,[(2,[[0,0],[0,1],[0,2],[1,1],[1,2],[2,2]])])
 else
 if t0==7 then
 some (3,[(2,[[0,1],[1,2],[2,0]])])
 else
 if t0==8 then
 some (2,[(2,[[0,1],[1,0]])])
 else
 if t0==9 then
 some (4,[(2,[[0,1],[1,0],[1,2],[2,1],[2,3],[3,2]])])
 else
 some (2,[])
def AC:Nat->(((List Int)×Int×Int)×Int×(List Int)×Int)->Option (((List Int)×Int×Int)×(List Int))
 |0,_=>none
 |n+1,(c,n_,out,x)=>
 if decide (x<n_)then
 (Ah (c.1,(c.2.1,c.2.2)) (w64 (x+1))).bind λr1=>
 if decide (r1.2<x)then
 if inb r1.2 out then
 if out.length+ [gd out r1.2 0].length<=lim then
 AC n ((r1.1.1,(r1.1.2.1,r1.1.2.2)),n_,out++ [gd out r1.2 0],w64 (x+1))
 else none
 else none
 else
 if out.length+ [r1.2].length<=lim then
 AC n ((r1.1.1,(r1.1.2.1,r1.1.2.2)),n_,out++ [r1.2],w64 (x+1))
 else none
 else
 some ((c.1,(c.2.1,c.2.2)),out)
def Cn (c:(List Int)×Int×Int) (n_:Int):Option (((List Int)×Int×Int)×(List Int)):=
 (AC Aa ((c.1,(c.2.1,c.2.2)),n_,[],0)).bind λs1=>
 some ((s1.1.1,(s1.1.2.1,s1.1.2.2)),s1.2)
def AQ:Nat->((List Int)×(Int×(List (List Int)))×(Int×(List (List Int)))×Int×Int)->Option ((List Int)×(Int×(List (List Int)))×(Int×(List (List Int)))×Int)
 |0,_=>none
 |n+1,(p,t2,out,x,y)=>
 if decide (y<(p.length:Int))then
 if inb x p then
 if inb y p then
 if(gd p x 0)==(gd p y 0)then
 if out.2.length+ [[x,y]].length<=lim then
 AQ n (p,(t2.1,t2.2),(out.1,out.2++ [[x,y]]),x,w64 (y+1))
 else none
 else
 AQ n (p,(t2.1,t2.2),(out.1,out.2),x,w64 (y+1))
 else none
 else none
 else
 some (p,(t2.1,t2.2),(out.1,out.2),x)
def Bn:Nat->((List Int)×(Int×(List (List Int)))×(Int×(List (List Int)))×Int)->Option ((Int×(List (List Int)))×(Int×(List (List Int))))
 |0,_=>none
 |n+1,(p,t2,out,x)=>
 if decide (x<(p.length:Int))then
 (AQ Aa (p,(t2.1,t2.2),(out.1,out.2),x,0)).bind λs1=>
 Bn n (s1.1,(s1.2.1.1,s1.2.1.2),(s1.2.2.1.1,s1.2.2.1.2),w64 (s1.2.2.2+1))
 else
 some ((t2.1,t2.2),(out.1,out.2))
def DS (p:List Int):Option ((Int×(List (List Int)))):=
 (Bn Aa (p,(0,[]),(2,[]),0)).bind λs1=>
 some (s1.2.1,s1.2.2)
def CF:Nat->(Int×Int×(Int×(List (List Int)))×(Int×(List (List Int)))×Int)->Option ((Int×(List (List Int)))×(Int×(List (List Int))))
 |0,_=>none
 |n+1,(n_,arity,t4,out,at_)=>
 (Cz n_ arity).bind λr1=>
 if decide (at_<r1)then
 (FE n_ arity at_).bind λr2=>
 if out.2.length+ [r2].length<=lim then
 CF n (n_,arity,(t4.1,t4.2),(out.1,out.2++ [r2]),w64 (at_+1))
 else none
 else
 some ((t4.1,t4.2),(out.1,out.2))
def DN (n_:Int) (arity:Int):Option ((Int×(List (List Int)))):=
 (CF Aa (n_,arity,(0,[]),(arity,[]),0)).bind λs1=>
 some (s1.2.1,s1.2.2)
def Hs (list:List (List Int)) (t:List Int):Option ((List (List Int))):=
 (EV list t).bind λr1=>
 if r1.2 then
 some list
 else
 if(0:Int)<=0/\0<=r1.1/\r1.1<=(list.length:Int)then
 if([]:List (List Int)).length+((list.take (Int.toNat r1.1)).drop (Int.toNat 0)).length<=lim then
 if([]++((list.take (Int.toNat r1.1)).drop (Int.toNat 0))).length+ [t].length<=lim then
 if(0:Int)<=r1.1/\r1.1<=(list.length:Int)/\(list.length:Int)<=(list.length:Int)then
 if(([]++((list.take (Int.toNat r1.1)).drop (Int.toNat 0)))++ [t]).length+((list.take (Int.toNat (list.length:Int))).drop (Int.toNat r1.1)).length<=lim then
 some ((([]++((list.take (Int.toNat r1.1)).drop (Int.toNat 0)))++ [t])++((list.take (Int.toNat (list.length:Int))).drop (Int.toNat r1.1)))
 else none
 else none
 else none
 else none
 else none
def Bs:Nat->(((List Int)×Int×Int)×Int×Int×(Int×(List (List Int)))×(Int×(List (List Int)))×Int×(List Int)×Int)->Option (((List Int)×Int×Int)×Int×Int×(Int×(List (List Int)))×(Int×(List (List Int)))×Int×(List Int))
 |0,_=>none
 |n+1,(t0,t1,t2,t6,t7,t8,t9,t10)=>
 if decide (t10<t2)then
 (Ah (t0.1,(t0.2.1,t0.2.2)) t1).bind λr4=>
 if t9.length+ [r4.2].length<=lim then
 Bs n ((r4.1.1,(r4.1.2.1,r4.1.2.2)),t1,t2,(t6.1,t6.2),(t7.1,t7.2),t8,t9++ [r4.2],w64 (t10+1))
 else none
 else
 some ((t0.1,(t0.2.1,t0.2.2)),t1,t2,(t6.1,t6.2),(t7.1,t7.2),t8,t9)
def Bq:Nat->(((List Int)×Int×Int)×Int×Int×(Int×(List (List Int)))×(Int×(List (List Int)))×Int)->Option (((List Int)×Int×Int)×Int×Int×(Int×(List (List Int)))×(Int×(List (List Int))))
 |0,_=>none
 |n+1,(t0,t1,t2,t6,t7,t8)=>
 if decide (t8>0)then
 (Bs Aa ((t0.1,(t0.2.1,t0.2.2)),t1,t2,(t6.1,t6.2),(t7.1,t7.2),t8,[],0)).bind λs4=>
 (Hs s4.2.2.2.2.1.2 s4.2.2.2.2.2.2).bind λr5=>
 Bq n ((s4.1.1,(s4.1.2.1,s4.1.2.2)),s4.2.1,s4.2.2.1,(s4.2.2.2.1.1,s4.2.2.2.1.2),(s4.2.2.2.2.1.1,r5),w64 (s4.2.2.2.2.2.1-1))
 else
 some ((t0.1,(t0.2.1,t0.2.2)),t1,t2,(t6.1,t6.2),(t7.1,t7.2))
def BX (t0:(List Int)×Int×Int) (t1:Int) (t2:Int):Option (((List Int)×Int×Int)×(Int×(List (List Int)))):=
 (GK t1).bind λr1=>
 if !r1 then
 some ((t0.1,(t0.2.1,t0.2.2)),(t2,[]))
 else
 (Ch t2 1 3).bind λr2=>
 if !r2 then
 some ((t0.1,(t0.2.1,t0.2.2)),(t2,[]))
 else
 (Ad (t0.1,(t0.2.1,t0.2.2)) [0,1,2,3,4,6,9]).bind λr3=>
 (Bq Aa ((r3.1.1,(r3.1.2.1,r3.1.2.2)),t1,t2,(0,[]),(t2,[]),r3.2)).bind λs4=>
 if s4.2.2.1==2 then
 (Ao (s4.1.1,(s4.1.2.1,s4.1.2.2)) 3).bind λr5=>
 if r5.2 then
 (Cn (r5.1.1,(r5.1.2.1,r5.1.2.2)) s4.2.1).bind λr6=>
 (DS r6.2).bind λr7=>
 (Ao (r6.1.1,(r6.1.2.1,r6.1.2.2)) 12).bind λr8=>
 if r8.2 then
 (DN s4.2.1 s4.2.2.1).bind λr9=>
 (Ah (r8.1.1,(r8.1.2.1,r8.1.2.2)) 40).bind λr10=>
 if r10.2==0 then
 (Ad (r10.1.1,(r10.1.2.1,r10.1.2.2)) [0,4,(-1)]).bind λr11=>
 some ((r11.1.1,(r11.1.2.1,r11.1.2.2)),(r11.2,r9.2))
 else
 if r10.2==1 then
 if 0<=s4.2.2.1/\s4.2.2.1<=s4.2.2.1/\s4.2.2.1<=lim then
 if r9.2.length+ [List.replicate (Int.toNat s4.2.2.1) (0:Int)].length<=lim then
 some ((r10.1.1,(r10.1.2.1,r10.1.2.2)),(r9.1,r9.2++ [List.replicate (Int.toNat s4.2.2.1) (0:Int)]))
 else none
 else none
 else
 if r10.2==2 then
 if decide ((r9.2.length:Int)>0)then
 (Ad (r10.1.1,(r10.1.2.1,r10.1.2.2)) [(-1),s4.2.1,0]).bind λr12=>
 if inb 0 r9.2 then
 some ((r12.1.1,(r12.1.2.1,r12.1.2.2)),(r9.1,stt r9.2 0 [r12.2]))
 else none
 else
 some ((r10.1.1,(r10.1.2.1,r10.1.2.2)),(r9.1,r9.2))
 else
 some ((r10.1.1,(r10.1.2.1,r10.1.2.2)),(r9.1,r9.2))
 else
 (Ah (r8.1.1,(r8.1.2.1,r8.1.2.2)) 40).bind λr13=>
 if r13.2==0 then
 (Ad (r13.1.1,(r13.1.2.1,r13.1.2.2)) [0,4,(-1)]).bind λr14=>
 some ((r14.1.1,(r14.1.2.1,r14.1.2.2)),(r14.2,r7.2))
 else
 if r13.2==1 then
 if 0<=s4.2.2.1/\s4.2.2.1<=s4.2.2.1/\s4.2.2.1<=lim then
 if r7.2.length+ [List.replicate (Int.toNat s4.2.2.1) (0:Int)].length<=lim then
 some ((r13.1.1,(r13.1.2.1,r13.1.2.2)),(r7.1,r7.2++ [List.replicate (Int.toNat s4.2.2.1) (0:Int)]))
 else none
 else none
 else
 if r13.2==2 then
 if decide ((r7.2.length:Int)>0)then
 (Ad (r13.1.1,(r13.1.2.1,r13.1.2.2)) [(-1),s4.2.1,0]).bind λr15=>
 if inb 0 r7.2 then
 some ((r15.1.1,(r15.1.2.1,r15.1.2.2)),(r7.1,stt r7.2 0 [r15.2]))
 else none
 else
 some ((r13.1.1,(r13.1.2.1,r13.1.2.2)),(r7.1,r7.2))
 else
 some ((r13.1.1,(r13.1.2.1,r13.1.2.2)),(r7.1,r7.2))
 else
 (Ao (r5.1.1,(r5.1.2.1,r5.1.2.2)) 12).bind λr16=>
 if r16.2 then
 (DN s4.2.1 s4.2.2.1).bind λr17=>
 (Ah (r16.1.1,(r16.1.2.1,r16.1.2.2)) 40).bind λr18=>
 if r18.2==0 then
 (Ad (r18.1.1,(r18.1.2.1,r18.1.2.2)) [0,4,(-1)]).bind λr19=>
 some ((r19.1.1,(r19.1.2.1,r19.1.2.2)),(r19.2,r17.2))
 else
 if r18.2==1 then
 if 0<=s4.2.2.1/\s4.2.2.1<=s4.2.2.1/\s4.2.2.1<=lim then
 if r17.2.length+ [List.replicate (Int.toNat s4.2.2.1) (0:Int)].length<=lim then
 some ((r18.1.1,(r18.1.2.1,r18.1.2.2)),(r17.1,r17.2++ [List.replicate (Int.toNat s4.2.2.1) (0:Int)]))
 else none
 else none
 else
 if r18.2==2 then
 if decide ((r17.2.length:Int)>0)then
 (Ad (r18.1.1,(r18.1.2.1,r18.1.2.2)) [(-1),s4.2.1,0]).bind λr20=>
 if inb 0 r17.2 then
 some ((r20.1.1,(r20.1.2.1,r20.1.2.2)),(r17.1,stt r17.2 0 [r20.2]))
 else none
 else
 some ((r18.1.1,(r18.1.2.1,r18.1.2.2)),(r17.1,r17.2))
 else
 some ((r18.1.1,(r18.1.2.1,r18.1.2.2)),(r17.1,r17.2))
 else
 (Ah (r16.1.1,(r16.1.2.1,r16.1.2.2)) 40).bind λr21=>
 if r21.2==0 then
 (Ad (r21.1.1,(r21.1.2.1,r21.1.2.2)) [0,4,(-1)]).bind λr22=>
 some ((r22.1.1,(r22.1.2.1,r22.1.2.2)),(r22.2,s4.2.2.2.2.2))
 else
 if r21.2==1 then
 if 0<=s4.2.2.1/\s4.2.2.1<=s4.2.2.1/\s4.2.2.1<=lim then
 if s4.2.2.2.2.2.length+ [List.replicate (Int.toNat s4.2.2.1) (0:Int)].length<=lim then
 some ((r21.1.1,(r21.1.2.1,r21.1.2.2)),(s4.2.2.2.2.1,s4.2.2.2.2.2++ [List.replicate (Int.toNat s4.2.2.1) (0:Int)]))
 else none
 else none
 else
 if r21.2==2 then
 if decide ((s4.2.2.2.2.2.length:Int)>0)then
 (Ad (r21.1.1,(r21.1.2.1,r21.1.2.2)) [(-1),s4.2.1,0]).bind λr23=>
 if inb 0 s4.2.2.2.2.2 then
 some ((r23.1.1,(r23.1.2.1,r23.1.2.2)),(s4.2.2.2.2.1,stt s4.2.2.2.2.2 0 [r23.2]))
 else none
 else
 some ((r21.1.1,(r21.1.2.1,r21.1.2.2)),(s4.2.2.2.2.1,s4.2.2.2.2.2))
 else
 some ((r21.1.1,(r21.1.2.1,r21.1.2.2)),(s4.2.2.2.2.1,s4.2.2.2.2.2))
 else
 (Ao (s4.1.1,(s4.1.2.1,s4.1.2.2)) 12).bind λr24=>
 if r24.2 then
 (DN s4.2.1 s4.2.2.1).bind λr25=>
 (Ah (r24.1.1,(r24.1.2.1,r24.1.2.2)) 40).bind λr26=>
 if r26.2==0 then
 (Ad (r26.1.1,(r26.1.2.1,r26.1.2.2)) [0,4,(-1)]).bind λr27=>
 some ((r27.1.1,(r27.1.2.1,r27.1.2.2)),(r27.2,r25.2))
 else
 if r26.2==1 then
 if 0<=s4.2.2.1/\s4.2.2.1<=s4.2.2.1/\s4.2.2.1<=lim then
 if r25.2.length+ [List.replicate (Int.toNat s4.2.2.1) (0:Int)].length<=lim then
 some ((r26.1.1,(r26.1.2.1,r26.1.2.2)),(r25.1,r25.2++ [List.replicate (Int.toNat s4.2.2.1) (0:Int)]))
 else none
 else none
 else
 if r26.2==2 then
 if decide ((r25.2.length:Int)>0)then
 (Ad (r26.1.1,(r26.1.2.1,r26.1.2.2)) [(-1),s4.2.1,0]).bind λr28=>
 if inb 0 r25.2 then
 some ((r28.1.1,(r28.1.2.1,r28.1.2.2)),(r25.1,stt r25.2 0 [r28.2]))
 else none
 else
 some ((r26.1.1,(r26.1.2.1,r26.1.2.2)),(r25.1,r25.2))
 else
 some ((r26.1.1,(r26.1.2.1,r26.1.2.2)),(r25.1,r25.2))
 else
 (Ah (r24.1.1,(r24.1.2.1,r24.1.2.2)) 40).bind λr29=>
 if r29.2==0 then
 (Ad (r29.1.1,(r29.1.2.1,r29.1.2.2)) [0,4,(-1)]).bind λr30=>
 some ((r30.1.1,(r30.1.2.1,r30.1.2.2)),(r30.2,s4.2.2.2.2.2))
 else
 if r29.2==1 then
 if 0<=s4.2.2.1/\s4.2.2.1<=s4.2.2.1/\s4.2.2.1<=lim then
 if s4.2.2.2.2.2.length+ [List.replicate (Int.toNat s4.2.2.1) (0:Int)].length<=lim then
 some ((r29.1.1,(r29.1.2.1,r29.1.2.2)),(s4.2.2.2.2.1,s4.2.2.2.2.2++ [List.replicate (Int.toNat s4.2.2.1) (0:Int)]))
 else none
 else none
 else
 if r29.2==2 then
 if decide ((s4.2.2.2.2.2.length:Int)>0)then
 (Ad (r29.1.1,(r29.1.2.1,r29.1.2.2)) [(-1),s4.2.1,0]).bind λr31=>
 if inb 0 s4.2.2.2.2.2 then
 some ((r31.1.1,(r31.1.2.1,r31.1.2.2)),(s4.2.2.2.2.1,stt s4.2.2.2.2.2 0 [r31.2]))
 else none
 else
 some ((r29.1.1,(r29.1.2.1,r29.1.2.2)),(s4.2.2.2.2.1,s4.2.2.2.2.2))
 else
 some ((r29.1.1,(r29.1.2.1,r29.1.2.2)),(s4.2.2.2.2.1,s4.2.2.2.2.2))
def AS:Nat->(((List Int)×Int×Int)×Int×(List (Int×(List (List Int))))×(List (Int×(List (List Int))))×Int×(Int×(List (List Int)))×Int)->Option (((List Int)×Int×Int)×Int×(List (Int×(List (List Int))))×(List (Int×(List (List Int))))×Int×(Int×(List (List Int))))
 |0,_=>none
 |n+1,(t0,t4,t5,t6,t7,t8,t9)=>
 if inb t7 t5 then
 if decide (t9<(((gd t5 t7 (0,[])).2).length:Int))then
 if inb t7 t5 then
 if inb t9 ((gd t5 t7 (0,[])).2)then
 (DI (gd ((gd t5 t7 (0,[])).2) t9 [])).bind λr4=>
 if t8.2.length+ [r4].length<=lim then
 AS n ((t0.1,(t0.2.1,t0.2.2)),t4,t5,t6,t7,(t8.1,t8.2++ [r4]),w64 (t9+1))
 else none
 else none
 else none
 else
 some ((t0.1,(t0.2.1,t0.2.2)),t4,t5,t6,t7,(t8.1,t8.2))
 else none
def AR:Nat->(((List Int)×Int×Int)×Int×(List (Int×(List (List Int))))×(List (Int×(List (List Int))))×Int)->Option (((List Int)×Int×Int)×Int×(List (Int×(List (List Int)))))
 |0,_=>none
 |n+1,(t0,t4,t5,t6,t7)=>
 if decide (t7<(t5.length:Int))then
 if inb t7 t5 then
 (AS Aa ((t0.1,(t0.2.1,t0.2.2)),t4,t5,t6,t7,((gd t5 t7 (0,[])).1,[]),0)).bind λs4=>
 if s4.2.2.2.1.length+ [(s4.2.2.2.2.2.1,s4.2.2.2.2.2.2)].length<=lim then
 AR n ((s4.1.1,(s4.1.2.1,s4.1.2.2)),s4.2.1,s4.2.2.1,s4.2.2.2.1++ [(s4.2.2.2.2.2.1,s4.2.2.2.2.2.2)],w64 (s4.2.2.2.2.1+1))
 else none
 else none
 else
 some ((t0.1,(t0.2.1,t0.2.2)),t4,t6)
def A8:Nat->(((List Int)×Int×Int)×Int×(List (Int×(List (List Int))))×Int)->Option (((List Int)×Int×Int)×Int×(List (Int×(List (List Int)))))
 |0,_=>none
 |n+1,(t0,t10,t11,t12)=>
 if decide (t12>0)then
 (Ad (t0.1,(t0.2.1,t0.2.2)) [1,2,2,3]).bind λr10=>
 (BX (r10.1.1,(r10.1.2.1,r10.1.2.2)) t10 r10.2).bind λr11=>
 if t11.length+ [r11.2].length<=lim then
 A8 n ((r11.1.1,(r11.1.2.1,r11.1.2.2)),t10,t11++ [r11.2],w64 (t12-1))
 else none
 else
 some ((t0.1,(t0.2.1,t0.2.2)),t10,t11)
def CX (t0:(List Int)×Int×Int):Option (((List Int)×Int×Int)×Int×(List (Int×(List (List Int))))):=
 (Ao (t0.1,(t0.2.1,t0.2.2)) 3).bind λr1=>
 if !r1.2 then
 (Ah (r1.1.1,(r1.1.2.1,r1.1.2.2)) 11).bind λr2=>
 (EN r2.2).bind λr3=>
 (AR Aa ((r2.1.1,(r2.1.2.1,r2.1.2.2)),r3.1,r3.2,[],0)).bind λs4=>
 some ((s4.1.1,(s4.1.2.1,s4.1.2.2)),s4.2.1,s4.2.2)
 else
 (Ah (r1.1.1,(r1.1.2.1,r1.1.2.2)) 24).bind λr5=>
 if(11:Int)≠0 then
 if(0:Int)<=0/\0<=(w64 (7+(w64 (Int.tdiv r5.2 11))))/\(w64 (7+(w64 (Int.tdiv r5.2 11))))<=([1,2,2,2,3,3,4,0,5].length:Int)then
 (Ad (r5.1.1,(r5.1.2.1,r5.1.2.2)) (([1,2,2,2,3,3,4,0,5].take (Int.toNat (w64 (7+(w64 (Int.tdiv r5.2 11)))))).drop (Int.toNat 0))).bind λr6=>
 (Ah (r6.1.1,(r6.1.2.1,r6.1.2.2)) 24).bind λr7=>
 if(23:Int)≠0 then
 if(0:Int)<=0/\0<=(w64 (5+(w64 (Int.tdiv r7.2 23))))/\(w64 (5+(w64 (Int.tdiv r7.2 23))))<=([0,1,1,2,4,5].length:Int)then
 (Ad (r7.1.1,(r7.1.2.1,r7.1.2.2)) (([0,1,1,2,4,5].take (Int.toNat (w64 (5+(w64 (Int.tdiv r7.2 23)))))).drop (Int.toNat 0))).bind λr8=>
 (A8 Aa ((r8.1.1,(r8.1.2.1,r8.1.2.2)),r6.2,[],r8.2)).bind λs9=>
 some ((s9.1.1,(s9.1.2.1,s9.1.2.2)),s9.2.1,s9.2.2)
 else none
 else none
 else none
 else none
def Dq:Nat->((List Int)×(List Int)×Int)->Option ((Unit)⊕(Bool))
 |0,_=>none
 |n+1,(a,b,i)=>
 if decide (i<(a.length:Int))then
 if inb i a then
 if inb i b then
 if(gd a i 0) !=(gd b i 0)then
 some (.inr false)
 else
 Dq n (a,b,w64 (i+1))
 else none
 else none
 else
 some (.inl ())
def Fo (a:List Int) (b:List Int):Option (Bool):=
 if(a.length:Int) !=(b.length:Int)then
  some false
 else
  (Dq Aa (a,b,0)).bind λs1=>
   match s1 with
   | .inl s2=>
    some true
   | .inr s3=>
    some s3
def C5:Nat->((List (List Int))×(List (List Int))×Int)->Option ((Unit)⊕(Bool))
 |0,_=>none
 |n+1,(a,b,i)=>
 if decide (i<(a.length:Int))then
 if inb i a then
 if inb i b then
 (Fo (gd a i []) (gd b i [])).bind λr1=>
 if !r1 then
 some (.inr false)
 else
 C5 n (a,b,w64 (i+1))
 else none
 else none
 else
 some (.inl ())
def Gz (a:List (List Int)) (b:List (List Int)):Option (Bool):=
 if(a.length:Int) !=(b.length:Int)then
  some false
 else
  (C5 Aa (a,b,0)).bind λs1=>
   match s1 with
   | .inl s2=>
    some true
   | .inr s3=>
    some s3
end T
set_option linter.unusedVariables false
open Go Go.Va
namespace T
def Hm (a:Int×(List Int)) (b:Int×(List Int)):Option (Bool):=
 if a.1==b.1 then
 (Fo a.2 b.2).bind λr1=>
 some r1
 else
 some false
end T
open Go Go.Va
namespace T
def rowsB (R W:Nat) (l:List (List Int)):Prop:=l.length<=R/\ ∀r∈l,r.length<=W
theorem rowsB.mono {R W R' W':Nat} {l:List (List Int)} (h:rowsB R W l) (h1:R<=R') (h2:W<=W'):rowsB R' W' l:=⟨by have:=h.1;omega,λr hr=>by have:=h.2 r hr;omega⟩
theorem rowsB.app {R W:Nat} {l:List (List Int)} {t:List Int} (h:rowsB R W l) (ht:t.length<=W):rowsB (R+1) W (l++ [t]):=⟨by rw[List.length_append,List.length_singleton];have:=h.1;omega,λr hr=>by
 rcases List.mem_append.1 hr with hr|hr
 ·exact h.2 r hr
 ·rw[List.mem_singleton.1 hr];exact ht⟩
theorem NJ:Hs=F8:=rfl
theorem MH {N:Nat} (hN:N<=8): ∀(d f k x:Nat) (c:D8) (o:List Int),x+d=N->d<f->Cur k c->k+2*d<=1000000->o.length=x->
  ∃c' o',AC f (c,(N:Int),o,(x:Int))=some (c',o')/\Cur (k+2*d) c'/\o'.length=N:=by
 intro d
 induction d with
 |zero=>
  intro f k x c o hx hf hc hk ho
  obtain⟨f,rfl⟩: ∃z,f=z+1:=⟨f-1,by omega⟩
  refine⟨c,o,?_,hc,by omega⟩
  simp only[AC]
  rw[if_neg (by simp;omega)]
 |succ d ih=>
  intro f k x c o hx hf hc hk ho
  obtain⟨f,rfl⟩: ∃z,f=z+1:=⟨f-1,by omega⟩
  obtain⟨c1,x1,e1,g1,a1,b1,_⟩:=D3 hc (by omega) ((x+1:Nat):Int) (by omega)
  have b1:=b1 (by omega)
  have e1:Ah (c.1,(c.2.1,c.2.2)) ((x+1:Nat):Int)=_:=e1
  have ew:=Ac (show x<4611686018427387904 by omega)
  simp only[AC,ew,e1,Option.bind_some]
  rw[if_pos (by simp;omega)]
  by_cases h:x1<(x:Int)
  ·obtain⟨c',o',e2,g2,l2⟩:=ih f (k+2) (x+1) c1 (o++ [gd o x1 0]) (by omega) (by omega) g1 (by omega) (by simp;omega)
   refine⟨c',o',?_,g2.mono (by omega),l2⟩
   rw[if_pos (by simpa using h),if_pos (by unfold inb;omega),if_pos (by simp;unfold lim;omega)]
   exact e2
  ·obtain⟨c',o',e2,g2,l2⟩:=ih f (k+2) (x+1) c1 (o++ [x1]) (by omega) (by omega) g1 (by omega) (by simp;omega)
   refine⟨c',o',?_,g2.mono (by omega),l2⟩
   rw[if_neg (by simpa using h),if_pos (by simp;unfold lim;omega)]
   exact e2
theorem Jw {N k:Nat} {c:D8} (hN:N<=8) (hc:Cur k c) (hk:k<=500000): ∃c' o,Cn c (N:Int)=some (c',o)/\Cur (k+16) c'/\o.length=N:=by
 obtain⟨c',o,e,g,l⟩:=MH hN N Aa k 0 c [] (by omega) (by unfold Aa;omega) hc (by omega) rfl
 refine⟨c',o,?_,g.mono (by omega),l⟩
 unfold Cn
 have e:AC Aa ((c.1,(c.2.1,c.2.2)),(N:Int),[],0)=_:=e
 rw[e];rfl
theorem Lc {p:List Int} (hp:p.length<=8): ∃out,DS p=some (2,out)/\rowsB 64 2 out:=by
 have in6: ∀(x:Nat),x<p.length-> ∀(d f y:Nat) (o:List (List Int)),y+d=p.length->d<f->rowsB (8*x+y) 2 o->
   ∃o',AQ f (p,(0,[]),(2,o),(x:Int),(y:Int))=some (p,(0,[]),(2,o'),(x:Int))/\rowsB (8*x+p.length) 2 o':=by
  intro x hx d
  induction d with
  |zero=>
   intro f y o hy hf ho
   obtain⟨f,rfl⟩: ∃z,f=z+1:=⟨f-1,by omega⟩
   refine⟨o,?_,ho.mono (by omega) (by omega)⟩
   simp only[AQ]
   rw[if_neg (by simp;omega)]
  |succ d ih=>
   intro f y o hy hf ho
   obtain⟨f,rfl⟩: ∃z,f=z+1:=⟨f-1,by omega⟩
   have hyl:y<p.length:=by omega
   have hol:=ho.1
   simp only[AQ,Ae,hx,hyl,if_true,Ac (show y<4611686018427387904 by omega)]
   rw[if_pos (by simp;omega)]
   by_cases h:(gd p (x:Int) 0==gd p (y:Int) 0)=true
   ·obtain⟨o',e,g⟩:=ih f (y+1) (o++ [[(x:Int),(y:Int)]]) (by omega) (by omega) (by rw[←Nat.add_assoc];exact ho.app (by simp))
    refine⟨o',?_,g⟩
    rw[if_pos h,if_pos (by simp;unfold lim;omega)]
    exact e
   ·obtain⟨o',e,g⟩:=ih f (y+1) o (by omega) (by omega) (ho.mono (by omega) (by omega))
    refine⟨o',?_,g⟩
    rw[if_neg h]
    exact e
 have in3: ∀(d f x:Nat) (o:List (List Int)),x+d=p.length->d<f->rowsB (8*x) 2 o->
   ∃o',Bn f (p,(0,[]),(2,o),(x:Int))=some ((0,[]),(2,o'))/\rowsB 64 2 o':=by
  intro d
  induction d with
  |zero=>
   intro f x o hx hf ho
   obtain⟨f,rfl⟩: ∃z,f=z+1:=⟨f-1,by omega⟩
   refine⟨o,?_,ho.mono (by omega) (by omega)⟩
   simp only[Bn]
   rw[if_neg (by simp;omega)]
  |succ d ih=>
   intro f x o hx hf ho
   obtain⟨f,rfl⟩: ∃z,f=z+1:=⟨f-1,by omega⟩
   obtain⟨o1,e1,g1⟩:=in6 x (by omega) p.length Aa 0 o (by omega) (by unfold Aa;omega) ho
   have e1:AQ Aa (p,(0,[]),(2,o),(x:Int),0)=_:=e1
   obtain⟨o',e2,g2⟩:=ih f (x+1) o1 (by omega) (by omega) (g1.mono (by omega) (by omega))
   refine⟨o',?_,g2⟩
   simp only[Bn,e1,Option.bind_some,Ac (show x<4611686018427387904 by omega)]
   rw[if_pos (by simp;omega)]
   exact e2
 obtain⟨o,e,g⟩:=in3 p.length Aa 0 [] (by omega) (by unfold Aa;omega) ⟨by simp,by simp⟩
 refine⟨o,?_,g⟩
 unfold DS
 have e:Bn Aa (p,(0,[]),(2,[]),0)=_:=e
 rw[e];rfl
theorem K8 {N A:Nat} (hN:1<=N/\N<=8) (hA:1<=A/\A<=3): ∃out,DN (N:Int) (A:Int)=some ((A:Int),out)/\rowsB 512 3 out:=by
 have hp:N^A<=512:=by
  have:N^A<=8^3:=Nat.le_trans (Nat.pow_le_pow_left hN.2 A) (Nat.pow_le_pow_right (by omega) hA.2)
  omega
 have e1:=FK (n:=(N:Int)) (by omega) (by omega) (k:=A) (by omega)
 have e0:(N:Int)^A=((N^A:Nat):Int):=by rw[Int.natCast_pow]
 rw[e0]at e1
 have key: ∀(d f x:Nat) (o:List (List Int)),x+d=N^A->d<f->rowsB x 3 o->
   ∃o',CF f ((N:Int),(A:Int),(0,[]),((A:Int),o),(x:Int))=some ((0,[]),((A:Int),o'))/\rowsB (N^A) 3 o':=by
  intro d
  induction d with
  |zero=>
   intro f x o hx hf ho
   obtain⟨f,rfl⟩: ∃z,f=z+1:=⟨f-1,by omega⟩
   refine⟨o,?_,ho.mono (by omega) (by omega)⟩
   simp only[CF,e1,Option.bind_some]
   rw[if_neg (by simp only[decide_eq_true_eq];omega)]
  |succ d ih=>
   intro f x o hx hf ho
   obtain⟨f,rfl⟩: ∃z,f=z+1:=⟨f-1,by omega⟩
   have hol:=ho.1
   have e2:=GH (b:=N) (k:=A) (i:=x) (by omega) (by omega) (by omega)
   have hl2:(cI (dg N A x)).length=A:=by rw[Dz,Hv]
   obtain⟨o',e3,g3⟩:=ih f (x+1) (o++ [cI (dg N A x)]) (by omega) (by omega) (ho.app (by omega))
   refine⟨o',?_,g3⟩
   simp only[CF,e1,e2,Option.bind_some,Ac (show x<4611686018427387904 by omega)]
   rw[if_pos (by simp only[decide_eq_true_eq];omega),if_pos (by simp;unfold lim;omega)]
   exact e3
 obtain⟨o,e,g⟩:=key (N^A) Aa 0 [] (by omega) (by unfold Aa;omega) ⟨by simp,by simp⟩
 refine⟨o,?_,g.mono hp (by omega)⟩
 unfold DN
 have e:CF Aa ((N:Int),(A:Int),(0,[]),((A:Int),[]),0)=_:=e
 rw[e];rfl
theorem Nq {N:Int} (hN:N<=100) {A:Nat} (hA:A<=3) (t6 t7:Int×List (List Int)) (t8:Int): ∀(d f k x:Nat) (c:D8) (o:List Int),x+d=A->d<f->Cur k c->k+2*d<=1000000->o.length=x->
  ∃c' o',Bs f (c,N,(A:Int),t6,t7,t8,o,(x:Int))=some (c',N,(A:Int),t6,t7,t8,o')/\Cur (k+2*d) c'/\o'.length=A:=by
 intro d
 induction d with
 |zero=>
  intro f k x c o hx hf hc hk ho
  obtain⟨f,rfl⟩: ∃z,f=z+1:=⟨f-1,by omega⟩
  refine⟨c,o,?_,hc,by omega⟩
  simp only[Bs]
  rw[if_neg (by simp;omega)]
 |succ d ih=>
  intro f k x c o hx hf hc hk ho
  obtain⟨f,rfl⟩: ∃z,f=z+1:=⟨f-1,by omega⟩
  obtain⟨c1,x1,e1,g1,_⟩:=D3 hc (by omega) N (by omega)
  have e1:Ah (c.1,(c.2.1,c.2.2)) N=_:=e1
  obtain⟨c',o',e2,g2,l2⟩:=ih f (k+2) (x+1) c1 (o++ [x1]) (by omega) (by omega) g1 (by omega) (by simp;omega)
  refine⟨c',o',?_,g2.mono (by omega),l2⟩
  simp only[Bs,e1,Option.bind_some,Ac (show x<4611686018427387904 by omega)]
  rw[if_pos (by simp;omega),if_pos (by simp;unfold lim;omega)]
  exact e2
theorem Np {N:Int} (hN:N<=100) {A:Nat} (hA:A<=3) (t6:Int×List (List Int)): ∀(d f k:Nat) (c:D8) (o:List (List Int)),d<f->Cur k c->k+10*d<=500000->o.length+d<=1000->Ef o=true->(∀u∈o,u.length=A)->
  ∃c' o',Bq f (c,N,(A:Int),t6,((A:Int),o),(d:Int))=some (c',N,(A:Int),t6,((A:Int),o'))/\Cur (k+10*d) c'/\rowsB (o.length+d) A o':=by
 intro d
 induction d with
 |zero=>
  intro f k c o hf hc hk ho hi hl
  obtain⟨f,rfl⟩: ∃z,f=z+1:=⟨f-1,by omega⟩
  refine⟨c,o,?_,hc,⟨by omega,λu hu=>by rw[hl u hu];exact Nat.le_refl _⟩⟩
  simp only[Bq]
  rw[if_neg (by simp)]
 |succ d ih=>
  intro f k c o hf hc hk ho hi hl
  obtain⟨f,rfl⟩: ∃z,f=z+1:=⟨f-1,by omega⟩
  obtain⟨c1,t,e1,g1,l1⟩:=Nq hN hA t6 ((A:Int),o) ((d+1:Nat):Int) A Aa k 0 c [] (by omega) (by unfold Aa;omega) hc (by omega) rfl
  have e1:Bs Aa ((c.1,(c.2.1,c.2.2)),N,(A:Int),(t6.1,t6.2),((A:Int),o),((d+1:Nat):Int),[],0)=_:=e1
  obtain⟨o1,p1,p2,p3,p4⟩:=GZ (list:=o) (t:=t) (k:=A) (by omega) (by omega) hl l1 hi
  have z1:=MK p2 hi p3 p4
  obtain⟨c',o',e2,g2,l2⟩:=ih f (k+2*A) c1 o1 (by omega) g1 (by omega) (by omega) p2 (λu hu=>((p3 u).1 hu).elim (λh=>by rw[h];exact l1) (hl u))
  refine⟨c',o',?_,g2.mono (by omega),l2.mono (by omega) (by omega)⟩
  have ew:w64 (((d+1:Nat):Int)-1)=(d:Int):=by rw[AE (by omega) (by omega)];omega
  simp only[Bq,e1,NJ,p1,Option.bind_some,ew]
  rw[if_pos (by simp)]
  exact e2
def Hp (c:D8) (N A:Int) (out:Int×List (List Int)):Option (D8×(Int×List (List Int))):=
 (Ah (c.1,(c.2.1,c.2.2)) 40).bind λr10=>
 if r10.2==0 then
 (Ad (r10.1.1,(r10.1.2.1,r10.1.2.2)) [0,4,(-1)]).bind λr11=>
 some ((r11.1.1,(r11.1.2.1,r11.1.2.2)),(r11.2,out.2))
 else
 if r10.2==1 then
 if 0<=A/\A<=A/\A<=lim then
 if out.2.length+ [List.replicate (Int.toNat A) (0:Int)].length<=lim then
 some ((r10.1.1,(r10.1.2.1,r10.1.2.2)),(out.1,out.2++ [List.replicate (Int.toNat A) (0:Int)]))
 else none
 else none
 else
 if r10.2==2 then
 if decide ((out.2.length:Int)>0)then
 (Ad (r10.1.1,(r10.1.2.1,r10.1.2.2)) [(-1),N,0]).bind λr12=>
 if inb 0 out.2 then
 some ((r12.1.1,(r12.1.2.1,r12.1.2.2)),(out.1,stt out.2 0 [r12.2]))
 else none
 else
 some ((r10.1.1,(r10.1.2.1,r10.1.2.2)),(out.1,out.2))
 else
 some ((r10.1.1,(r10.1.2.1,r10.1.2.2)),(out.1,out.2))
theorem Kn {k:Nat} {c:D8} (hc:Cur k c) (hk:k<=1000000) {N:Int} {A:Nat} (hA:A<=3) {out:Int×List (List Int)} (ho:rowsB 600 3 out.2): ∃c' r,Hp c N (A:Int) out=some (c',r)/\Cur (k+4) c'/\rowsB 601 3 r.2:=by
 obtain⟨c1,x1,e1,g1,_⟩:=D3 hc (by omega) 40 (by omega)
 have e1:Ah (c.1,(c.2.1,c.2.2)) 40=_:=e1
 have hol:=ho.1
 unfold Hp
 simp only[e1,Option.bind_some]
 by_cases h0:x1=0
 ·rw[if_pos (by simpa using h0)]
  obtain⟨c2,x2,e2,g2,_⟩:=DU g1 (by omega) (l:= [0,4,(-1)]) (by simp) (by simp)
  have e2:Ad (c1.1,(c1.2.1,c1.2.2)) [0,4,(-1)]=_:=e2
  simp only[e2,Option.bind_some]
  exact⟨_,_,rfl,g2.mono (by omega),ho.mono (by omega) (by omega)⟩
 ·rw[if_neg (by simpa using h0)]
  by_cases h1:x1=1
  ·rw[if_pos (by simpa using h1),if_pos (by unfold lim;omega),if_pos (by simp;unfold lim;omega)]
   exact⟨_,_,rfl,g1.mono (by omega),ho.app (by simp;omega)⟩
  ·rw[if_neg (by simpa using h1)]
   by_cases h2:x1=2
   ·rw[if_pos (by simpa using h2)]
    by_cases h3:(out.2.length:Int)>0
    ·rw[if_pos (by simpa using h3)]
     obtain⟨c2,x2,e2,g2,_⟩:=DU g1 (by omega) (l:= [(-1),N,0]) (by simp) (by simp)
     have e2:Ad (c1.1,(c1.2.1,c1.2.2)) [(-1),N,0]=_:=e2
     simp only[e2,Option.bind_some]
     rw[if_pos (by unfold inb;omega)]
     refine⟨_,_,rfl,g2.mono (by omega),⟨by show(List.set out.2 _ _).length<=601;rw[List.length_set];omega,λr hr=>?_⟩⟩
     have hr:r∈List.set out.2 (0:Int).toNat [x2]:=hr
     rcases List.mem_or_eq_of_mem_set hr with hr|rfl
     ·exact ho.2 r hr
     ·simp
    ·rw[if_neg (by simpa using h3)]
     exact⟨_,_,rfl,g1.mono (by omega),ho.mono (by omega) (by omega)⟩
   ·rw[if_neg (by simpa using h2)]
    exact⟨_,_,rfl,g1.mono (by omega),ho.mono (by omega) (by omega)⟩
theorem HQ {k:Nat} {c:D8} (hc:Cur k c) (hk:k<=100000) {N A:Int} (hN:N<=100): ∃c' r,BX c N A=some (c',r)/\Cur (k+200) c'/\rowsB 601 3 r.2:=by
 unfold BX
 rw[IE,Bt]
 simp only[Option.bind_some]
 cases hs:KR N with
 |false=>exact⟨_,_,rfl,hc.mono (by omega),⟨by simp,by simp⟩⟩
 |true=>
  simp only[Bool.not_true,Bool.false_eq_true,if_false]
  by_cases hA:1<=A/\A<=3
  ·rw[if_neg (by simp;omega)]
   obtain⟨a,rfl⟩: ∃a:Nat,A=(a:Int):=⟨A.toNat,by omega⟩
   have hn:1<=N/\N<=8:=by unfold KR at hs;simpa using hs
   obtain⟨n,rfl⟩: ∃n:Nat,N=(n:Int):=⟨N.toNat,by omega⟩
   obtain⟨c1,x1,e1,g1,m1⟩:=DU hc (by omega) (l:= [0,1,2,3,4,6,9]) (by simp) (by simp)
   have hx1:0<=x1/\x1<=9:=by simp at m1;omega
   obtain⟨m,rfl⟩: ∃m:Nat,x1=(m:Int):=⟨x1.toNat,by omega⟩
   obtain⟨c2,o,e2,g2,r2⟩:=Np (N:=(n:Int)) (by omega) (A:=a) (by omega) (0,[]) m Aa (k+2) c1 [] (by unfold Aa;omega) g1 (by omega) (by simp;omega) rfl (by simp)
   have r2:rowsB 600 3 o:=r2.mono (by simp;omega) (by omega)
   have e1:Ad (c.1,(c.2.1,c.2.2)) [0,1,2,3,4,6,9]=_:=e1
   have e2:Bq Aa ((c1.1,(c1.2.1,c1.2.2)),(n:Int),(a:Int),(0,[]),((a:Int),[]),(m:Int))=_:=e2
   simp only[e1,e2,Option.bind_some]
   have hn':1<=n/\n<=8:=by omega
   have ha':1<=a/\a<=3:=by omega
   have fin: ∀(c:D8) (out:Int×List (List Int)),Cur (k+150) c->rowsB 600 3 out.2-> ∃c' r,Hp c (n:Int) (a:Int) out=some (c',r)/\Cur (k+200) c'/\rowsB 601 3 r.2:=λc out hc ho=>by
    obtain⟨c',r,e,g,h⟩:=Kn hc (by omega) (N:=(n:Int)) (A:=a) (by omega) ho
    exact⟨c',r,e,g.mono (by omega),h⟩
   have mid: ∀(c:D8) (out:Int×List (List Int)),Cur (k+130) c->rowsB 600 3 out.2-> ∃c' r,((Ao (c.1,(c.2.1,c.2.2)) 12).bind λr8=>if r8.2 then(DN (n:Int) (a:Int)).bind λr9=>Hp r8.1 (n:Int) (a:Int) r9 else Hp r8.1 (n:Int) (a:Int) out)=some (c',r)/\Cur (k+200) c'/\rowsB 601 3 r.2:=λc out hc ho=>by
    obtain⟨c3,b3,e3,g3⟩:=HG hc (by omega) 12 (by omega)
    have e3:Ao (c.1,(c.2.1,c.2.2)) 12=_:=e3
    simp only[e3,Option.bind_some]
    cases b3 with
    |true=>
     obtain⟨w,e4,h4⟩:=K8 hn' ha'
     simp only[if_true,e4,Option.bind_some]
     exact fin c3 ((a:Int),w) (g3.mono (by omega)) (h4.mono (by omega) (by omega))
    |false=>
     simp only[Bool.false_eq_true,if_false]
     exact fin c3 out (g3.mono (by omega)) ho
   by_cases h2:((a:Int)==2)=true
   ·rw[if_pos h2]
    obtain⟨c3,b3,e3,g3⟩:=HG g2 (by omega) 3 (by omega)
    have e3:Ao (c2.1,(c2.2.1,c2.2.2)) 3=_:=e3
    simp only[e3,Option.bind_some]
    cases b3 with
    |true=>
     obtain⟨c4,p,e4,g4,l4⟩:=Jw (N:=n) (by omega) g3 (by omega)
     have e4:Cn (c3.1,(c3.2.1,c3.2.2)) (n:Int)=_:=e4
     obtain⟨w,e5,h5⟩:=Lc (p:=p) (by omega)
     simp only[if_true,e4,e5,Option.bind_some]
     exact mid c4 (2,w) (g4.mono (by omega)) (h5.mono (by omega) (by omega))
    |false=>
     simp only[Bool.false_eq_true,if_false]
     exact mid c3 ((a:Int),o) (g3.mono (by omega)) r2
   ·rw[if_neg h2]
    exact mid c2 ((a:Int),o) (g2.mono (by omega)) r2
  ·rw[if_pos (by simp;omega)]
   exact⟨_,_,rfl,hc.mono (by omega),⟨by simp,by simp⟩⟩
end T
open Go Go.Va
namespace T
def J2 (l:List AT):Prop:=l.length<=5/\ ∀r∈l,rowsB 601 3 r.2
def LN (o:Option (Int×List AT)):Bool:=match o with
 |some (n,rels)=>decide (0<=n/\n<=5)&&(decide (rels.length<=5)&&rels.all λr=>decide (r.2.length<=601)&&r.2.all λt=>decide (t.length<=3))
 |none=>false
theorem MB (x:Int):LN (EN x)=true:=by
 unfold EN
 repeat' split
 all_goals rfl
theorem LO (x:Int): ∃n rels,EN x=some (n,rels)/\0<=n/\n<=5/\J2 rels:=by
 have h:=MB x
 unfold LN at h
 split at h
 ·rename_i n rels e
  simp only[Bool.and_eq_true,decide_eq_true_eq,List.all_eq_true]at h
  exact⟨n,rels,e,h.1.1,h.1.2,h.2.1,λr hr=>h.2.2 r hr⟩
 ·simp at h
theorem Nv {l:List AT} {i:Nat} (hi:i<l.length) (hr:rowsB 1000 1000 l[i].2) (c:D8) (n:Int) (o:List AT) (ar:Int):AS Aa (c,n,l,o,(i:Int),(ar,[]),0)=some (c,n,l,o,(i:Int),(ar,l[i].2)):=by
 have h1:=hr.1
 have:=Ca l[i].2.length (λm (q:List (List Int)) k=>AS m (c,n,l,o,(i:Int),(ar,q),k)) (λk=>l[i].2.take k) (r:=some (c,n,l,o,(i:Int),(ar,l[i].2))) (λm k hk=>?_) (λm=>?_) (n:=Aa) (by unfold Aa;omega)
 ·exact this
 ·have e:=DZ (l:=l[i].2[k]) (by have:=hr.2 _ (List.getElem_mem hk);omega)
  simp only[AS,Ae,hi,Af hi,hk,Af hk,if_true,e,Option.bind_some,Ac (show k<4611686018427387904 by omega)]
  rw[if_pos (by simp;omega),if_pos (by simp;unfold lim;omega),List.take_succ_eq_append_getElem hk]
 ·simp only[AS,Ae,hi,Af hi,if_true,List.take_length]
  rw[if_neg (by simp)]
theorem Nu {l:List AT} (h:J2 l) (c:D8) (n:Int):AR Aa (c,n,l,[],0)=some (c,n,l):=by
 have h1:=h.1
 have:=Ca l.length (λm (q:List AT) k=>AR m (c,n,l,q,k)) (λk=>l.take k) (r:=some (c,n,l)) (λm k hk=>?_) (λm=>?_) (n:=Aa) (by unfold Aa;omega)
 ·exact this
 ·have e:=Nv hk ((h.2 _ (List.getElem_mem hk)).mono (by omega) (by omega)) c n (l.take k) l[k].1
  have e:AS Aa ((c.1,(c.2.1,c.2.2)),n,l,l.take k,(k:Int),(l[k].1,[]),0)=_:=e
  simp only[AR,Ae,hk,Af hk,if_true,e,Option.bind_some,Ac (show k<4611686018427387904 by omega)]
  rw[if_pos (by simp;omega),if_pos (by simp;unfold lim;omega),List.take_succ_eq_append_getElem hk]
 ·simp only[AR,List.take_length]
  rw[if_neg (by simp)]
theorem MT {n:Int} (hn:n<=100): ∀(d f k:Nat) (c:D8) (o:List AT),d<f->Cur k c->k+300*d<=50000->o.length+d<=5->(∀r∈o,rowsB 601 3 r.2)->
  ∃c' o',A8 f (c,n,o,(d:Int))=some (c',n,o')/\Cur (k+300*d) c'/\J2 o':=by
 intro d
 induction d with
 |zero=>
  intro f k c o hf hc hk ho hr
  obtain⟨f,rfl⟩: ∃z,f=z+1:=⟨f-1,by omega⟩
  refine⟨c,o,?_,hc,⟨by omega,hr⟩⟩
  simp only[A8]
  rw[if_neg (by simp)]
 |succ d ih=>
  intro f k c o hf hc hk ho hr
  obtain⟨f,rfl⟩: ∃z,f=z+1:=⟨f-1,by omega⟩
  obtain⟨c1,x1,e1,g1,_⟩:=DU hc (by omega) (l:= [1,2,2,3]) (by simp) (by simp)
  have e1:Ad (c.1,(c.2.1,c.2.2)) [1,2,2,3]=_:=e1
  obtain⟨c2,r,e2,g2,h2⟩:=HQ (N:=n) (A:=x1) g1 (by omega) hn
  have e2:BX (c1.1,(c1.2.1,c1.2.2)) n x1=_:=e2
  obtain⟨c',o',e3,g3,h3⟩:=ih f (k+202) c2 (o++ [r]) (by omega) (g2.mono (by omega)) (by omega) (by simp;omega) (λq hq=>by
   rcases List.mem_append.1 hq with hq|hq
   ·exact hr q hq
   ·rw[List.mem_singleton.1 hq];exact h2)
  refine⟨c',o',?_,g3.mono (by omega),h3⟩
  have ew:w64 (((d+1:Nat):Int)-1)=(d:Int):=by rw[AE (by omega) (by omega)];omega
  simp only[A8,e1,e2,Option.bind_some,ew]
  rw[if_pos (by simp),if_pos (by simp;unfold lim;omega)]
  exact e3
theorem Jb {k:Nat} {c:D8} (hc:Cur k c) (hk:k<=1000000) (l:List Int) (b m:Nat) (hm:11<=m/\m<=24) (hb:0<b) (hl:b+(23/m)<=l.length) (hl2:l.length<=100):
  ∃c1 x1 c' x,Ah (c.1,(c.2.1,c.2.2)) 24=some (c1,x1)/\((0:Int)<=0/\0<=(w64 ((b:Int)+(w64 (Int.tdiv x1 (m:Int)))))/\(w64 ((b:Int)+(w64 (Int.tdiv x1 (m:Int)))))<=(l.length:Int))/\
   Ad (c1.1,(c1.2.1,c1.2.2)) ((l.take (Int.toNat (w64 ((b:Int)+(w64 (Int.tdiv x1 (m:Int))))))).drop (Int.toNat 0))=some (c',x)/\Cur (k+4) c'/\x∈l:=by
 obtain⟨c1,x1,e1,g1,a1,b1,_⟩:=D3 hc (by omega) 24 (by omega)
 have b1:=b1 (by omega)
 obtain⟨y,rfl⟩: ∃y:Nat,x1=(y:Int):=⟨x1.toNat,by omega⟩
 have hqb:y/m<=23/m:=Nat.div_le_div_right (by omega)
 have hq:Int.tdiv (y:Int) (m:Int)=((y/m:Nat):Int):=by rw[Int.tdiv_eq_ediv_of_nonneg (by omega)];rfl
 obtain⟨q,eq⟩: ∃q,q=y/m:=⟨_,rfl⟩
 obtain⟨z,ez⟩: ∃z,z=23/m:=⟨_,rfl⟩
 rw[←ez]at hqb hl
 rw[←eq]at hqb hq
 clear eq ez
 refine⟨c1,(y:Int),?_⟩
 rw[hq]
 clear hq
 have w1:w64 ((q:Nat):Int)=(q:Int):=AE (by omega) (by omega)
 have w2:w64 ((b:Int)+(q:Int))=((b+q:Nat):Int):=by rw[AE (by omega) (by omega)];omega
 rw[w1,w2]
 have e0:(l.take (Int.toNat ((b+q:Nat):Int))).drop (Int.toNat 0)=l.take (b+q):=by rw[Int.toNat_natCast];rfl
 rw[e0]
 obtain⟨c2,x2,e2,g2,m2⟩:=DU g1 (by omega) (l:=l.take (b+q)) (by rw[List.length_take];omega) (by rw[List.length_take];omega)
 exact⟨c2,x2,e1,by omega,e2,g2.mono (by omega),List.mem_of_mem_take m2⟩
theorem J8 {k:Nat} {c:D8} (hc:Cur k c) (hk:k<=10000): ∃c' n rels,CX c=some (c',n,rels)/\Cur (k+2000) c'/\0<=n/\n<=5/\J2 rels:=by
 obtain⟨c1,b1,e1,g1⟩:=HG hc (by omega) 3 (by omega)
 have e1:Ao (c.1,(c.2.1,c.2.2)) 3=_:=e1
 unfold CX
 simp only[e1,Option.bind_some]
 cases b1 with
 |false=>
  obtain⟨c2,x2,e2,g2,_⟩:=D3 g1 (by omega) 11 (by omega)
  have e2:Ah (c1.1,(c1.2.1,c1.2.2)) 11=_:=e2
  obtain⟨n,rels,e3,h1,h2,h3⟩:=LO x2
  have e4:=Nu h3 c2 n
  have e4:AR Aa ((c2.1,(c2.2.1,c2.2.2)),n,rels,[],0)=_:=e4
  simp only[Bool.not_false,if_true,e2,e3,e4,Option.bind_some]
  exact⟨_,_,_,rfl,g2.mono (by omega),h1,h2,h3⟩
 |true=>
  simp only[Bool.not_true,Bool.false_eq_true,if_false]
  obtain⟨d1,y1,c2,n,e2,i2,f2,g2,m2⟩:=Jb g1 (by omega) [1,2,2,2,3,3,4,0,5] 7 11 (by omega) (by omega) (by simp) (by simp)
  obtain⟨d2,y2,c3,d,e3,i3,f3,g3,m3⟩:=Jb g2 (by omega) [0,1,1,2,4,5] 5 23 (by omega) (by omega) (by simp) (by simp)
  have hn:0<=n/\n<=5:=by simp at m2;omega
  have hd:0<=d/\d<=5:=by simp at m3;omega
  obtain⟨D,rfl⟩: ∃D:Nat,d=(D:Int):=⟨d.toNat,by omega⟩
  obtain⟨c4,rels,e4,g4,h4⟩:=MT (n:=n) (by omega) D Aa (k+10) c3 [] (by unfold Aa;omega) (g3.mono (by omega)) (by omega) (by simp;omega) (by simp)
  have e4:A8 Aa ((c3.1,(c3.2.1,c3.2.2)),n,[],(D:Int))=_:=e4
  simp only[e2,Option.bind_some]
  rw[if_pos (by decide),if_pos (show(0:Int)<=0/\0<=(w64 (7+(w64 (Int.tdiv y1 11))))/\(w64 (7+(w64 (Int.tdiv y1 11))))<=([1,2,2,2,3,3,4,0,5].length:Int) from i2)]
  have f2:Ad (d1.1,(d1.2.1,d1.2.2)) (([1,2,2,2,3,3,4,0,5].take (Int.toNat (w64 (7+(w64 (Int.tdiv y1 11)))))).drop (Int.toNat 0))=_:=f2
  rw[f2]
  simp only[Option.bind_some,e3]
  rw[if_pos (by decide),if_pos (show(0:Int)<=0/\0<=(w64 (5+(w64 (Int.tdiv y2 23))))/\(w64 (5+(w64 (Int.tdiv y2 23))))<=([0,1,1,2,4,5].length:Int) from i3)]
  have f3:Ad (d2.1,(d2.2.1,d2.2.2)) (([0,1,1,2,4,5].take (Int.toNat (w64 (5+(w64 (Int.tdiv y2 23)))))).drop (Int.toNat 0))=_:=f3
  rw[f3]
  simp only[Option.bind_some,e4]
  exact⟨_,_,_,rfl,g4.mono (by omega),hn.1,hn.2,h4⟩
end T
open Go Go.Va
namespace T
theorem Ks {α:Type} [DecidableEq α] {l l':List α} (d:α) (h:l.length=l'.length):(List.range l.length).all (λk=>decide (l.getD k d=l'.getD k d))=decide (l=l'):=by
 rw[Bool.eq_iff_iff]
 simp only[List.all_eq_true,List.mem_range,decide_eq_true_eq]
 constructor
 ·intro hx
  refine List.ext_getElem h λi h1 h2=>?_
  have:=hx i h1
  rwa [Ag h1,Ag h2]at this
 ·rintro rfl _ _;rfl
section
variable {A B:Nat->Nat} {m j:Nat}
end
section
variable {n k m:Nat} {r:AT} {rels:List AT}
end
end T
open Go Go.Va
namespace T
section
variable {V n k:Nat} {cs:List Con} {rels:List AT}
theorem L7 {given:List Int} {t:List Int} (h:t∈Fq V n cs given):t.length=V:=by
 have:=(Jk (n:=n) (given:=given) (ok:=okN cs) V [] t h).1
 simpa using this
theorem Ja (h:SrchOk V n cs):CE ((V:Int),((n:Int),cs))=true:=by
 have hv:=h.hv
 have hn:=h.hn
 have hc:=h.hc
 unfold CE
 simp only[Bool.and_eq_true,decide_eq_true_eq,List.all_eq_true]
 refine⟨⟨⟨by omega,by omega⟩,hc⟩,λc hcm=>?_⟩
 have h1:=h.con c hcm
 have h3:=h1.sl
 unfold Gj E9 BK
 simp only[Bool.and_eq_true,decide_eq_true_eq,List.all_eq_true]
 refine⟨⟨⟨⟨h1.ar,λt ht=>⟨by have:=h1.tl t ht;omega,λx hx=>?_⟩⟩,h1.inc⟩,h3⟩,λx hx=>?_⟩
 ·obtain⟨j,hj,rfl⟩:=List.mem_iff_getElem.1 hx
  exact h1.tv t ht j hj
 ·obtain⟨j,hj,rfl⟩:=List.mem_iff_getElem.1 hx
  exact h1.sv j hj
end
end T
open Go Go.Va
namespace T
section
variable {V n k:Nat} {cs:List Con} {rels:List AT}
theorem Iy {a b:List Int} (h:a.length<=1048576):Fo a b=some (decide (a=b)):=by
 unfold Fo
 by_cases h2:a.length=b.length
 ·rw[if_neg (by simp[h2])]
  have:=FN a.length (λn (_:Unit) i=>Dq n (a,b,i)) (λ_=>()) (λk=>decide (a.getD k 0=b.getD k 0)) (r:=some (.inr false)) (e:=some (.inl ())) (λf k hk=>?_) (λf=>?_) (n:=Aa) (by unfold Aa;omega)
  ·rw[Ks 0 h2]at this
   have this:Dq Aa (a,b,0)=_:=this
   rw[this]
   by_cases e:a=b
   ·subst e;simp
   ·simp[e]
  ·simp only[Dq,Ae,hk,Af hk,h2▸hk,Af (h2▸hk),if_true,Ag hk,Ag (h2▸hk:k<b.length),Ac (show k<4611686018427387904 by omega)]
   rw[if_pos (by simp;omega)]
   by_cases e:a[k]=b[k]<;>simp[e]
  ·simp only[Dq]
   rw[if_neg (by simp)]
 ·rw[if_pos (by simpa using λh=>h2 (by omega))]
  rw[decide_eq_false λh=>h2 (by rw[h])]
theorem Lf {a b:List (List Int)} (h:a.length<=1048576) (ht: ∀t∈a,t.length<=1048576):Gz a b=some (decide (a=b)):=by
 unfold Gz
 by_cases h2:a.length=b.length
 ·rw[if_neg (by simp[h2])]
  have:=FN a.length (λn (_:Unit) i=>C5 n (a,b,i)) (λ_=>()) (λk=>decide (a.getD k []=b.getD k [])) (r:=some (.inr false)) (e:=some (.inl ())) (λf k hk=>?_) (λf=>?_) (n:=Aa) (by unfold Aa;omega)
  ·rw[Ks [] h2]at this
   have this:C5 Aa (a,b,0)=_:=this
   rw[this]
   by_cases e:a=b
   ·subst e;simp
   ·simp[e]
  ·have e:=Iy (a:=a[k]) (b:=b[k]) (ht _ (List.getElem_mem hk))
   simp only[C5,Ae,hk,Af hk,h2▸hk,Af (h2▸hk),e,Option.bind_some,if_true,Ag hk,Ag (h2▸hk:k<b.length),Ac (show k<4611686018427387904 by omega)]
   rw[if_pos (by simp;omega)]
   by_cases e:a[k]=b[k]<;>simp[e]
  ·simp only[C5]
   rw[if_neg (by simp)]
 ·rw[if_pos (by simpa using λh=>h2 (by omega))]
  rw[decide_eq_false λh=>h2 (by rw[h])]
end
end T
open Go Go.Va
namespace T
section
variable {n k m:Nat} {r:AT} {rels:List AT} {given t:List Int}
def JY (n k:Nat) (rels:List AT) (t:List Int):Bool:=rels.all λr=>kB n k r.1.toNat ((k:Int),t) r
theorem MO {i:Nat}:Nr n ((k:Int),t) r.2 r.1.toNat (dg r.2.length k i)=(cI (PL n k r i)).map (B9 t):=by
 unfold Nr PL cI
 rw[List.map_map,List.map_map]
 rfl
theorem JZ:JY n k rels t=true↔ ∀r∈rels,∀i,i<r.2.length^k->(cI (PL n k r i)).map (B9 t)∈r.2:=by
 unfold JY kB
 simp only[List.all_eq_true,List.mem_range,decide_eq_true_eq,MO]
theorem H4 {ok:List Int->Bool}: ∀(m:Nat) (pre t:List Int),t∈Dh n given ok m pre↔t.length=pre.length+m/\t.take pre.length=pre/\
  ∀q,pre.length<=q->q<t.length->(0<=t.getD q 0/\t.getD q 0<(n:Int))/\DQ given q (t.getD q 0).toNat=true/\ok (t.take (q+1))=true
 |0,pre,t=>by
  simp only[Dh,List.mem_singleton,Nat.add_zero]
  constructor
  ·rintro rfl
   exact⟨rfl,by simp,λq h1 h2=>by omega⟩
  ·rintro ⟨h1,h2,_⟩
   rw[←h2,List.take_of_length_le (by omega)]
 |m+1,pre,t=>by
  simp only[Dh,List.mem_flatMap,List.mem_range]
  constructor
  ·rintro ⟨x,hx,h⟩
   by_cases hc:(DQ given pre.length x&&ok (pre++ [(x:Int)]))=true
   ·rw[if_pos hc]at h
    obtain⟨h1,h2,h3⟩:=(H4 m (pre++ [(x:Int)]) t).1 h
    rw[Bool.and_eq_true]at hc
    rw[List.length_append,List.length_singleton]at h1 h2 h3
    have hv:t.getD pre.length 0=(x:Int):=by
     have hl:pre.length<t.length:=by omega
     have e:(t.take (pre.length+1)).getD pre.length 0=t.getD pre.length 0:=by simp[List.getD_eq_getElem?_getD,List.getElem?_take]
     rw[←e,h2];simp[List.getD_eq_getElem?_getD]
    refine⟨by omega,?_,λq h4 h5=>?_⟩
    ·have:(t.take (pre.length+1)).take pre.length=pre:=by rw[h2];simp
     rw[List.take_take]at this
     rwa [Nat.min_eq_left (by omega)]at this
    ·by_cases e:q=pre.length
     ·subst e
      rw[hv,h2]
      exact⟨by omega,by rw[Int.toNat_natCast];exact hc.1,hc.2⟩
     ·exact h3 q (by omega) h5
   ·rw[if_neg hc]at h;simp at h
  ·rintro ⟨h1,h2,h3⟩
   have hl:pre.length<t.length:=by omega
   obtain⟨a1,a2,a3⟩:=h3 pre.length (Nat.le_refl _) hl
   have hx:(((t.getD pre.length 0).toNat:Nat):Int)=t.getD pre.length 0:=Int.toNat_of_nonneg a1.1
   have ht:t.take (pre.length+1)=pre++ [(((t.getD pre.length 0).toNat:Nat):Int)]:=by
    rw[hx,List.take_succ_eq_append_getElem hl,h2,Ag hl]
   refine⟨(t.getD pre.length 0).toNat,by omega,?_⟩
   rw[if_pos (by rw[Bool.and_eq_true];exact⟨a2,by rw[←ht];exact a3⟩)]
   refine(H4 m _ t).2 ⟨by simp;omega,by rw[List.length_append,List.length_singleton];exact ht,λq h4 h5=>h3 q (by rw[List.length_append,List.length_singleton]at h4;omega) h5⟩
theorem JB (h:RelsOk n k rels):t∈Yhi n k rels given↔t.length=n^k/\(∀x∈t,0<=x/\x<(n:Int))/\(∀q,q<n^k->DQ given q (t.getD q 0).toNat=true)/\JY n k rels t=true:=by
 unfold Yhi
 rw[H4,JZ]
 simp only[List.length_nil,Nat.zero_add,List.take_zero,true_and,Nat.zero_le,true_implies]
 have hok: ∀q,q<t.length->(okB n k rels (t.take (q+1))=true↔HD n k rels q t=true):=λq hq=>by
  unfold okB
  rw[List.length_take,Nat.min_eq_left (by omega),Nat.add_sub_cancel,I8]
 constructor
 ·rintro ⟨h1,h3⟩
  refine⟨h1,λx hx=>?_,λq hq=>(h3 q (by omega)).2.1,λr hr i hi=>?_⟩
  ·obtain⟨j,hj,rfl⟩:=List.mem_iff_getElem.1 hx
   have:=(h3 j hj).1
   rwa [Ag hj]at this
  ·have hlt:=Ju (h.ok r hr) h.hn h.hk.1 hi
   have hm:=(hok _ (by omega)).1 (h3 _ (show BJ (PL n k r i)<t.length by omega)).2.2
   unfold HD at hm
   simp only[List.all_eq_true,List.mem_range,Bool.or_eq_true,Bool.not_eq_true',decide_eq_false_iff_not,decide_eq_true_eq]at hm
   exact(hm r hr i hi).resolve_left λhne=>hne rfl
 ·rintro ⟨h1,h2,h3,h4⟩
  refine⟨h1,λq hq=>⟨?_,h3 q (by omega),(hok q hq).2 ?_⟩⟩
  ·rw[Ag hq];exact h2 _ (List.getElem_mem hq)
  ·unfold HD
   simp only[List.all_eq_true,List.mem_range,Bool.or_eq_true,Bool.not_eq_true',decide_eq_false_iff_not,decide_eq_true_eq]
   exact λr hr i hi=> .inr (h4 r hr i hi)
theorem LU {N q x:Nat} (hq:q<N):DQ (List.replicate N (-1)) q x=true:=by
 unfold DQ
 rw[Ag (by simpa using hq)];simp
theorem Mo {b:Nat}: ∀(k:Nat) (ys:List Nat),ys.length=k->(∀y∈ys,y<b)-> ∃i,i<b^k/\dg b k i=ys:=by
 intro k
 induction k with
 |zero=>intro ys hl _;exact⟨0,by simp,by rw[List.eq_nil_of_length_eq_zero hl];rfl⟩
 |succ k ih=>
  intro ys hl hy
  obtain⟨z,y,rfl⟩: ∃z y,ys=z++ [y]:=⟨ys.dropLast,ys.getLast (by intro e;rw[e]at hl;simp at hl),(List.dropLast_concat_getLast _).symm⟩
  have hyb:=hy y (by simp)
  obtain⟨i,h1,h2⟩:=ih z (by simpa using hl) λx hx=>hy x (by simp[hx])
  refine⟨i*b+y,?_,?_⟩
  ·rw[Nat.pow_succ]
   calc i*b+y<i*b+b:=by omega
    _=(i+1)*b:=by rw[Nat.succ_mul]
    _<=b^k*b:=Nat.mul_le_mul_right _ h1
  ·simp only[dg]
   have e1:(i*b+y)/b=i:=by rw[Nat.mul_comm,Nat.mul_add_div (by omega),Nat.div_eq_of_lt hyb];omega
   have e2:(i*b+y)%b=y:=by rw[Nat.mul_comm,Nat.mul_add_mod,Nat.mod_eq_of_lt hyb]
   rw[e1,e2,h2]
theorem M4 {i j:Nat} (hj:j<r.1.toNat):((cI (PL n k r i)).map (B9 t)).getD j 0=t.getD (atF n r.2 j (dg r.2.length k i)) 0:=by
 unfold PL cI
 rw[Ag (by simpa using hj)]
 simp[B9]
theorem MI (h:ROk n m r) (hk:JY n k [r] t=true) {ys:List Nat} (hl:ys.length=k) (hy: ∀y∈ys,y<r.2.length):
  ∃z,z<r.2.length/\ ∀j,j<m->t.getD (atF n r.2 j ys) 0=(r.2.getD z []).getD j 0:=by
 obtain⟨i,h1,h2⟩:=Mo (b:=r.2.length) k ys hl hy
 have hm:=JZ.1 hk r (by simp) i h1
 obtain⟨z,hz,e⟩:=List.mem_iff_getElem.1 hm
 refine⟨z,hz,λj hj=>?_⟩
 rw[Ag hz,e,←h2,M4 (by have:=h.ar;omega)]
end
end T
open Go Go.Va
namespace T
section
variable {n k:Int} {rels:List AT} {op:Opn}
theorem Kh (hs:Je rels) (hn:1<=n/\n<=4):Ex n rels=some (decide (rels.length<=4)&&rels.all (E9 n)):=by
 have hl:=hs.1
 unfold Ex
 by_cases h2:rels.length<=4
 ·rw[if_neg (by simp;omega)]
  have e1:=FR rels (λf i=>BZ f (n,rels,i)) (E9 n) (.inr false) (.inl ()) (λf i hi=>by
   have:=hs.2 _ (List.getElem_mem hi)
   simp only[BZ,Ae,hi,Af hi,EY (n:=n) this (by omega),Option.bind_some,Ac (show i<4611686018427387904 by omega)]
   rw[if_pos (by simp;omega)]
   cases E9 n rels[i]<;>simp) (λf=>by simp[BZ]) (n:=Aa) (by unfold Aa;omega)
  rw[e1,decide_eq_true h2,Bool.true_and]
  cases rels.all (E9 n)<;>simp
 ·rw[if_pos (by simp;omega),decide_eq_false h2,Bool.false_and]
end
end T
open Go Go.Va
namespace T
section
variable {n k:Nat} {t f:List Int} {inner:List (List Int)}
end
theorem No {a b:Opn} (h:a.2.length<=1048576):Hm a b=some (decide (a=b)):=by
 obtain⟨a1,a2⟩:=a
 obtain⟨b1,b2⟩:=b
 dsimp only at h
 unfold Hm
 dsimp only
 by_cases e:a1=b1
 ·subst e
  rw[if_pos (by simp),Iy h]
  by_cases e':a2=b2
  ·subst e';simp
  ·simp[e']
 ·rw[if_neg (by simpa using e)]
  simp[e]
end T
open Go Go.Va
namespace T
theorem Fz {c:Prop} [Decidable c] {α β:Type} {g:α->β} {a b:Option β} {a' b':Option α} (h1:a=a'.map g) (h2:b=b'.map g):(if c then a else b)=(if c then a' else b').map g:=by
 by_cases h:c
 ·rw[if_pos h,if_pos h,h1]
 ·rw[if_neg h,if_neg h,h2]
section
variable {vars:List Int}
variable {V n:Nat}
end
end T
set_option linter.unusedVariables false
open Go Go.Va
namespace T
def EB:Nat->((Int×(List (Int×(List Int))))×Int)->Option ((Unit)⊕(Bool))
 |0,_=>none
 |n+1,(a,i)=>
 if decide (i<(a.2.length:Int))then
 if inb i a.2 then
 (GU a.1 (gd a.2 i (0,[]))).bind λr2=>
 if !r2 then
 some (.inr false)
 else
 EB n ((a.1,a.2),w64 (i+1))
 else none
 else
 some (.inl ())
def HR (a:Int×(List (Int×(List Int)))):Option (Bool):=
 (Ch a.1 1 8).bind λr1=>
  if !r1 then
   some false
  else
   if decide ((a.2.length:Int)>4)then
    some false
   else
    (EB Aa ((a.1,a.2),0)).bind λs2=>
     match s2 with
     | .inl s3=>
      some true
     | .inr s4=>
      some s4
def Fe (a:Int×(List (Int×(List Int)))) (op:Int):Option (Bool):=
 (HR (a.1,a.2)).bind λr1=>
 if r1 then
 (Ch op 0 (w64 ((a.2.length:Int)-1))).bind λr2=>
 some r2
 else
 some false
def D6:Nat->(Int×(List Int)×(Int×(List (Int×(List Int))))×Int×Int)->Option (Int×(Int×(List (Int×(List Int))))×Int)
 |0,_=>none
 |n+1,(op,args,a,at_,i)=>
 if decide (i<(args.length:Int))then
 if inb i args then
 D6 n (op,args,(a.1,a.2),w64 ((w64 (at_*a.1))+(gd args i 0)),w64 (i+1))
 else none
 else
 some (op,(a.1,a.2),at_)
def CQ (a:Int×(List (Int×(List Int)))) (op:Int) (args:List Int):Option (Int):=
 (D6 Aa (op,args,(a.1,a.2),0,0)).bind λs1=>
 if inb s1.1 s1.2.1.2 then
 if inb s1.2.2 ((gd s1.2.1.2 s1.1 (0,[])).2)then
 some (gd ((gd s1.2.1.2 s1.1 (0,[])).2) s1.2.2 0)
 else none
 else none
def BE:Nat->(Int×(Int×(List (Int×(List Int))))×Int×Int)->Option ((Int×(Int×(List (Int×(List Int))))×Int)⊕(Bool×Bool))
 |0,_=>none
 |n+1,(op,a,x,y)=>
 if decide (y<x)then
 (CQ (a.1,a.2) op [x,y]).bind λr2=>
 (CQ (a.1,a.2) op [y,x]).bind λr3=>
 if r2 !=r3 then
 some (.inr (false,true))
 else
 BE n (op,(a.1,a.2),x,w64 (y+1))
 else
 some (.inl (op,(a.1,a.2),x))
def BD:Nat->(Int×(Int×(List (Int×(List Int))))×Int)->Option ((Unit)⊕(Bool×Bool))
 |0,_=>none
 |n+1,(op,a,x)=>
  if decide (x<a.1)then
   (BE Aa (op,(a.1,a.2),x,0)).bind λs2=>
    match s2 with
    | .inl s3=>
     BD n (s3.1,(s3.2.1.1,s3.2.1.2),w64 (s3.2.2+1))
    | .inr s4=>
     some (.inr (s4.1,s4.2))
  else
   some (.inl ())
def Eh (a:Int×(List (Int×(List Int)))) (op:Int):Option (Bool×Bool):=
 (Fe (a.1,a.2) op).bind λr1=>
  if !r1 then
   some (false,false)
  else
   if inb op a.2 then
    if((gd a.2 op (0,[])).1) !=2 then
     some (false,false)
    else
     (BD Aa (op,(a.1,a.2),0)).bind λs2=>
      match s2 with
      | .inl s3=>
       some (true,true)
      | .inr s4=>
       some (s4.1,s4.2)
   else none
def Bm:Nat->(Int×(Int×(List (Int×(List Int))))×Int×Int×Int)->Option ((Int×(Int×(List (Int×(List Int))))×Int×Int)⊕(Bool×Bool))
 |0,_=>none
 |n+1,(op,a,x,y,z)=>
 if decide (z<a.1)then
 (CQ (a.1,a.2) op [x,y]).bind λr2=>
 (CQ (a.1,a.2) op [r2,z]).bind λr3=>
 (CQ (a.1,a.2) op [y,z]).bind λr4=>
 (CQ (a.1,a.2) op [x,r4]).bind λr5=>
 if r3 !=r5 then
 some (.inr (false,true))
 else
 Bm n (op,(a.1,a.2),x,y,w64 (z+1))
 else
 some (.inl (op,(a.1,a.2),x,y))
def BC:Nat->(Int×(Int×(List (Int×(List Int))))×Int×Int)->Option ((Int×(Int×(List (Int×(List Int))))×Int)⊕(Bool×Bool))
 |0,_=>none
 |n+1,(op,a,x,y)=>
  if decide (y<a.1)then
   (Bm Aa (op,(a.1,a.2),x,y,0)).bind λs2=>
    match s2 with
    | .inl s3=>
     BC n (s3.1,(s3.2.1.1,s3.2.1.2),s3.2.2.1,w64 (s3.2.2.2+1))
    | .inr s4=>
     some (.inr (s4.1,s4.2))
  else
   some (.inl (op,(a.1,a.2),x))
def BB:Nat->(Int×(Int×(List (Int×(List Int))))×Int)->Option ((Unit)⊕(Bool×Bool))
 |0,_=>none
 |n+1,(op,a,x)=>
  if decide (x<a.1)then
   (BC Aa (op,(a.1,a.2),x,0)).bind λs2=>
    match s2 with
    | .inl s3=>
     BB n (s3.1,(s3.2.1.1,s3.2.1.2),w64 (s3.2.2+1))
    | .inr s4=>
     some (.inr (s4.1,s4.2))
  else
   some (.inl ())
def Eg (a:Int×(List (Int×(List Int)))) (op:Int):Option (Bool×Bool):=
 (Fe (a.1,a.2) op).bind λr1=>
  if !r1 then
   some (false,false)
  else
   if inb op a.2 then
    if((gd a.2 op (0,[])).1) !=2 then
     some (false,false)
    else
     (BB Aa (op,(a.1,a.2),0)).bind λs2=>
      match s2 with
      | .inl s3=>
       some (true,true)
      | .inr s4=>
       some (s4.1,s4.2)
   else none
def Aq:Nat->(Int×(Int×(List Int))×(List (List Int))×Int)->Option (((Int×(List Int)))⊕((Int×(List Int))×Bool))
 |0,_=>none
 |n+1,(n_,t4,all,i)=>
 if decide (i<(all.length:Int))then
 if inb i all then
 (Eh (n_,[(2,gd all i [])]) 0).bind λr4=>
 (Eg (n_,[(2,gd all i [])]) 0).bind λr5=>
 if r4.1 then
 if r5.1 then
 if inb 0 [(2,gd all i [])]then
 some (.inr (((gd [(2,gd all i [])] 0 (0,[])).1,(gd [(2,gd all i [])] 0 (0,[])).2),true))
 else none
 else
 Aq n (n_,(t4.1,t4.2),all,w64 (i+1))
 else
 Aq n (n_,(t4.1,t4.2),all,w64 (i+1))
 else none
 else
 some (.inl (t4.1,t4.2))
def BI (n_:Int) (rels:List (Int×(List (List Int)))):Option ((Int×(List Int))×Bool):=
 (FI n_ rels 2).bind λr1=>
  if !r1 then
   some ((0,[]),false)
  else
   if decide (n_>3)then
    some ((0,[]),false)
   else
    (Df n_ 2).bind λr2=>
     (FC n_ rels 2 r2 729).bind λr3=>
      (Aq Aa (n_,(0,[]),r3.1,0)).bind λs4=>
       match s4 with
       | .inl s5=>
        some ((0,[]),false)
       | .inr s6=>
        some ((s6.1.1,s6.1.2),s6.2)
def Dw:Nat->((Int×(List (Int×(List Int))))×(List (Int×(List Int)))×Int×Int)->Option ((Unit)⊕(Bool))
 |0,_=>none
 |n+1,(a,t20,t21,t22)=>
 if decide (t22<t21)then
 if inb t22 t20 then
 (GR ((gd t20 t22 (0,[])).1,(gd t20 t22 (0,[])).2) a.1).bind λr1=>
 if !r1 then
 some (.inr false)
 else
 Dw n ((a.1,a.2),t20,t21,w64 (t22+1))
 else none
 else
 some (.inl ())
def Gl (a:Int×(List (Int×(List Int)))):Option (Bool):=
 if decide (a.1<1)then
  some false
 else
  if decide (a.1>8)then
   some false
  else
   if decide ((a.2.length:Int)>4)then
    some false
   else
    (Dw Aa ((a.1,a.2),a.2,(a.2.length:Int),0)).bind λs1=>
     match s1 with
     | .inl s2=>
      some true
     | .inr s3=>
      some s3
def FV (a:Int×(List (Int×(List Int)))) (op:Int):Option (Bool):=
 (Gl (a.1,a.2)).bind λr1=>
 if r1 then
 if decide (op≥0)then
 some (decide (op<(a.2.length:Int)))
 else
 some false
 else
 some false
def CB:Nat->((Int×(List (Int×(List Int))))×(Int×(List Int))×Int×Int×Int)->Option ((Int×(List (Int×(List Int))))×(Int×(List Int))×Int×Int)
 |0,_=>none
 |n+1,(a,f,x,i,k)=>
 if decide (k<f.1)then
 CB n ((a.1,a.2),(f.1,f.2),x,w64 ((w64 (i*a.1))+x),w64 (k+1))
 else
 some ((a.1,a.2),(f.1,f.2),x,i)
def BM:Nat->((Int×(List (Int×(List Int))))×(Int×(List Int))×Int)->Option ((Unit)⊕(Bool×Bool))
 |0,_=>none
 |n+1,(a,f,x)=>
 if decide (x<a.1)then
 (CB Aa ((a.1,a.2),(f.1,f.2),x,0,0)).bind λs2=>
 if inb s2.2.2.2 s2.2.1.2 then
 if(gd s2.2.1.2 s2.2.2.2 0) !=s2.2.2.1 then
 some (.inr (false,true))
 else
 BM n ((s2.1.1,s2.1.2),(s2.2.1.1,s2.2.1.2),w64 (s2.2.2.1+1))
 else none
 else
 some (.inl ())
def Eo (a:Int×(List (Int×(List Int)))) (op:Int):Option (Bool×Bool):=
 (FV (a.1,a.2) op).bind λr1=>
  if !r1 then
   some (false,false)
  else
   if inb op a.2 then
    if((gd a.2 op (0,[])).1)==0 then
     some (a.1==1,true)
    else
     (BM Aa ((a.1,a.2),((gd a.2 op (0,[])).1,(gd a.2 op (0,[])).2),0)).bind λs2=>
      match s2 with
      | .inl s3=>
       some (true,true)
      | .inr s4=>
       some (s4.1,s4.2)
   else none
def EL (a:Int×(List (Int×(List Int)))) (op:Int):Option (Bool):=
 (FV (a.1,a.2) op).bind λr1=>
 if r1 then
 if inb op a.2 then
 some (((gd a.2 op (0,[])).1)==2)
 else none
 else
 some false
def Bz:Nat->(Int×(List Int)×Int×Int)->Option ((Int×(List Int)×Int)⊕(Bool×Bool))
 |0,_=>none
 |n+1,(n_,t,x,y)=>
 if decide (y<x)then
 if inb (w64 ((w64 (x*n_))+y)) t then
 if inb (w64 ((w64 (y*n_))+x)) t then
 if(gd t (w64 ((w64 (x*n_))+y)) 0) !=(gd t (w64 ((w64 (y*n_))+x)) 0)then
 some (.inr (false,true))
 else
 Bz n (n_,t,x,w64 (y+1))
 else none
 else none
 else
 some (.inl (n_,t,x))
def By:Nat->(Int×(List Int)×Int)->Option ((Unit)⊕(Bool×Bool))
 |0,_=>none
 |n+1,(n_,t,x)=>
  if decide (x<n_)then
   (Bz Aa (n_,t,x,0)).bind λs2=>
    match s2 with
    | .inl s3=>
     By n (s3.1,s3.2.1,w64 (s3.2.2+1))
    | .inr s4=>
     some (.inr (s4.1,s4.2))
  else
   some (.inl ())
def Ea (a:Int×(List (Int×(List Int)))) (op:Int):Option (Bool×Bool):=
 (EL (a.1,a.2) op).bind λr1=>
  if !r1 then
   some (false,false)
  else
   if inb op a.2 then
    (By Aa (a.1,(gd a.2 op (0,[])).2,0)).bind λs2=>
     match s2 with
     | .inl s3=>
      some (true,true)
     | .inr s4=>
      some (s4.1,s4.2)
   else none
def Bh:Nat->(Int×(List Int)×Int×Int×Int)->Option ((Int×(List Int)×Int×Int)⊕(Bool×Bool))
 |0,_=>none
 |n+1,(t6,t7,t8,t9,t10)=>
 if decide (t10<t6)then
 if inb (w64 ((w64 (t8*t6))+t9)) t7 then
 if inb (w64 ((w64 ((gd t7 (w64 ((w64 (t8*t6))+t9)) 0)*t6))+t10)) t7 then
 if inb (w64 ((w64 (t9*t6))+t10)) t7 then
 if inb (w64 ((w64 (t8*t6))+(gd t7 (w64 ((w64 (t9*t6))+t10)) 0))) t7 then
 if(gd t7 (w64 ((w64 ((gd t7 (w64 ((w64 (t8*t6))+t9)) 0)*t6))+t10)) 0) !=(gd t7 (w64 ((w64 (t8*t6))+(gd t7 (w64 ((w64 (t9*t6))+t10)) 0))) 0)then
 some (.inr (false,true))
 else
 Bh n (t6,t7,t8,t9,w64 (t10+1))
 else none
 else none
 else none
 else none
 else
 some (.inl (t6,t7,t8,t9))
def Bx:Nat->(Int×(List Int)×Int×Int)->Option ((Int×(List Int)×Int)⊕(Bool×Bool))
 |0,_=>none
 |n+1,(t6,t7,t8,t9)=>
  if decide (t9<t6)then
   (Bh Aa (t6,t7,t8,t9,0)).bind λs2=>
    match s2 with
    | .inl s3=>
     Bx n (s3.1,s3.2.1,s3.2.2.1,w64 (s3.2.2.2+1))
    | .inr s4=>
     some (.inr (s4.1,s4.2))
  else
   some (.inl (t6,t7,t8))
def Bw:Nat->(Int×(List Int)×Int)->Option ((Unit)⊕(Bool×Bool))
 |0,_=>none
 |n+1,(t6,t7,t8)=>
  if decide (t8<t6)then
   (Bx Aa (t6,t7,t8,0)).bind λs2=>
    match s2 with
    | .inl s3=>
     Bw n (s3.1,s3.2.1,w64 (s3.2.2+1))
    | .inr s4=>
     some (.inr (s4.1,s4.2))
  else
   some (.inl ())
def D9 (t0:Int×(List (Int×(List Int)))) (t1:Int):Option (Bool×Bool):=
 (EL (t0.1,t0.2) t1).bind λr1=>
  if !r1 then
   some (false,false)
  else
   if inb t1 t0.2 then
    (Bw Aa (t0.1,(gd t0.2 t1 (0,[])).2,0)).bind λs2=>
     match s2 with
     | .inl s3=>
      some (true,true)
     | .inr s4=>
      some (s4.1,s4.2)
   else none
def Fm (n_:Int) (table:List Int):Option (Bool):=
 (Eo (n_,[(2,table)]) 0).bind λr1=>
 (Ea (n_,[(2,table)]) 0).bind λr2=>
 (D9 (n_,[(2,table)]) 0).bind λr3=>
 if r1.1 then
 if r2.1 then
 some r3.1
 else
 some false
 else
 some false
def Al (table:List Int) (t1:Bool×Int):Option (Bool):=
 if t1.1=true then
 (Fm t1.2 table).bind λr1=>
 some r1
 else none
def Bf (table:List Int) (t1:Bool×Int) (t2:Int) (t3:Int×(List Int)) (t4:Bool):Option (Int×(Int×(List Int))×Bool×Bool):=
 (Al table t1).bind λr1=>
 if r1 then
 (Cv table).bind λr2=>
 some (t2,(t2,r2),true,!true)
 else
 some (t2,(t3.1,t3.2),t4,!t4)
def Ab (rec:(Int×(List Int)×((Bool×Int)×(Int×((Int×(List Int))×Bool)))×(Bool×Int×Int×(List (List ((List Int)×(List ByteArray)))))×(List Int)×Unit)->Option ((List Int)×(Unit×(Int×((Int×(List Int))×Bool)))×(Bool×Int×Int×(List (List ((List Int)×(List ByteArray)))))×(List Int)×Bool)):Nat->(Int×(List Int)×((Bool×Int)×(Int×((Int×(List Int))×Bool)))×(Bool×Int×Int×(List (List ((List Int)×(List ByteArray)))))×(List Int)×Unit×Int)->Option (((List Int)×((Bool×Int)×(Int×((Int×(List Int))×Bool)))×(Bool×Int×Int×(List (List ((List Int)×(List ByteArray)))))×(List Int)×Unit)⊕((List Int)×((Bool×Int)×(Int×((Int×(List Int))×Bool)))×(Bool×Int×Int×(List (List ((List Int)×(List ByteArray)))))×(List Int)×Unit×Bool))
 |0,_=>none
 |n+1,(at_,t1,t2,t3,t4,t5,x)=>
 if t3.1=true then
 if decide (x<t3.2.1)then
 if inb at_ t4 then
 if decide ((gd t4 at_ 0)≥0)then
 if inb at_ t4 then
 if(gd t4 at_ 0) !=x then
 Ab rec n (at_,t1,(t2.1,(t2.2.1,((t2.2.2.1.1,t2.2.2.1.2),t2.2.2.2))),t3,t4,(),w64 (x+1))
 else
 if inb at_ t1 then
 (Au t3 (stt t1 at_ x) at_).bind λr2=>
 if r2 then
 (rec (w64 (at_+1),stt t1 at_ x,(t2.1,(t2.2.1,((t2.2.2.1.1,t2.2.2.1.2),t2.2.2.2))),t3,t4,())).bind λr3=>
 if !r3.2.2.2.2 then
 some (.inr (r3.1,(t2.1,(r3.2.1.2.1,((r3.2.1.2.2.1.1,r3.2.1.2.2.1.2),r3.2.1.2.2.2))),r3.2.2.1,r3.2.2.2.1,(),false))
 else
 Ab rec n (at_,r3.1,(t2.1,(r3.2.1.2.1,((r3.2.1.2.2.1.1,r3.2.1.2.2.1.2),r3.2.1.2.2.2))),r3.2.2.1,r3.2.2.2.1,(),w64 (x+1))
 else
 Ab rec n (at_,stt t1 at_ x,(t2.1,(t2.2.1,((t2.2.2.1.1,t2.2.2.1.2),t2.2.2.2))),t3,t4,(),w64 (x+1))
 else none
 else none
 else
 if inb at_ t1 then
 (Au t3 (stt t1 at_ x) at_).bind λr4=>
 if r4 then
 (rec (w64 (at_+1),stt t1 at_ x,(t2.1,(t2.2.1,((t2.2.2.1.1,t2.2.2.1.2),t2.2.2.2))),t3,t4,())).bind λr5=>
 if !r5.2.2.2.2 then
 some (.inr (r5.1,(t2.1,(r5.2.1.2.1,((r5.2.1.2.2.1.1,r5.2.1.2.2.1.2),r5.2.1.2.2.2))),r5.2.2.1,r5.2.2.2.1,(),false))
 else
 Ab rec n (at_,r5.1,(t2.1,(r5.2.1.2.1,((r5.2.1.2.2.1.1,r5.2.1.2.2.1.2),r5.2.1.2.2.2))),r5.2.2.1,r5.2.2.2.1,(),w64 (x+1))
 else
 Ab rec n (at_,stt t1 at_ x,(t2.1,(t2.2.1,((t2.2.2.1.1,t2.2.2.1.2),t2.2.2.2))),t3,t4,(),w64 (x+1))
 else none
 else none
 else
 some (.inl (t1,(t2.1,(t2.2.1,((t2.2.2.1.1,t2.2.2.1.2),t2.2.2.2))),t3,t4,()))
 else none
def Ar (rec:(Int×(List Int)×((Bool×Int)×(Int×((Int×(List Int))×Bool)))×(Bool×Int×Int×(List (List ((List Int)×(List ByteArray)))))×(List Int)×Unit)->Option ((List Int)×(Unit×(Int×((Int×(List Int))×Bool)))×(Bool×Int×Int×(List (List ((List Int)×(List ByteArray)))))×(List Int)×Bool)) (at_:Int) (t1:List Int) (t2:(Bool×Int)×(Int×((Int×(List Int))×Bool))) (t3:Bool×Int×Int×(List (List ((List Int)×(List ByteArray))))) (t4:List Int) (t5:Unit):Option ((List Int)×(Unit×(Int×((Int×(List Int))×Bool)))×(Bool×Int×Int×(List (List ((List Int)×(List ByteArray)))))×(List Int)×Bool):=
 if at_==(t1.length:Int)then
  (Bf t1 t2.1 t2.2.1 (t2.2.2.1.1,t2.2.2.1.2) t2.2.2.2).bind λr1=>
   some (t1,((),(r1.1,((r1.2.1.1,r1.2.1.2),r1.2.2.1))),t3,t4,r1.2.2.2)
 else
  (Ab rec Aa (at_,t1,(t2.1,(t2.2.1,((t2.2.2.1.1,t2.2.2.1.2),t2.2.2.2))),t3,t4,(),0)).bind λs2=>
   match s2 with
   | .inl s3=>
    some (s3.1,((),(s3.2.1.2.1,((s3.2.1.2.2.1.1,s3.2.1.2.2.1.2),s3.2.1.2.2.2))),s3.2.2.1,s3.2.2.2.1,true)
   | .inr s4=>
    some (s4.1,((),(s4.2.1.2.1,((s4.2.1.2.2.1.1,s4.2.1.2.2.1.2),s4.2.1.2.2.2))),s4.2.2.1,s4.2.2.2.1,s4.2.2.2.2.2)
def Aj:Nat->(Int×(List Int)×((Bool×Int)×(Int×((Int×(List Int))×Bool)))×(Bool×Int×Int×(List (List ((List Int)×(List ByteArray)))))×(List Int)×Unit)->Option ((List Int)×(Unit×(Int×((Int×(List Int))×Bool)))×(Bool×Int×Int×(List (List ((List Int)×(List ByteArray)))))×(List Int)×Bool)
 |0,_=>none
 |d+1,x=>Ar (Aj d) x.1 x.2.1 x.2.2.1 x.2.2.2.1 x.2.2.2.2.1 x.2.2.2.2.2
def Ax (s:Bool×Int×Int×(List (List ((List Int)×(List ByteArray))))) (given:List Int) (found:(Bool×Int)×(Int×((Int×(List Int))×Bool))):Option ((Unit×(Int×((Int×(List Int))×Bool)))):=
 if 0<=(given.length:Int)/\(given.length:Int)<=(given.length:Int)/\(given.length:Int)<=lim then
 (Aj Aa (0,List.replicate (Int.toNat (given.length:Int)) (0:Int),(found.1,(found.2.1,((found.2.2.1.1,found.2.2.1.2),found.2.2.2))),s,given,())).bind λr1=>
 some ((),(r1.2.1.2.1,((r1.2.1.2.2.1.1,r1.2.1.2.2.1.2),r1.2.1.2.2.2)))
 else none
def As (n_:Int) (rels:List (Int×(List (List Int)))) (k:Int) (given:List Int) (good:Bool×Int):Option ((Int×(List Int))×Bool):=
 (Ee n_ rels k).bind λr1=>
 (Ax r1 given (good,(k,((0,[]),false)))).bind λr2=>
 some ((r2.2.2.1.1,r2.2.2.1.2),r2.2.2.2)
def Ci (n_:Int) (rels:List (Int×(List (List Int)))):Option ((Int×(List Int))×Bool):=
 (Gr n_ rels 2).bind λr1=>
 if !r1 then
 some ((0,[]),false)
 else
 if decide (n_>3)then
 some ((0,[]),false)
 else
 (CN n_ 2).bind λr2=>
 (As n_ rels 2 r2 (true,n_)).bind λr3=>
 some ((r3.1.1,r3.1.2),r3.2)
end T
open Go Go.Va
namespace T
abbrev GS:=Int×(Opn×Bool)
abbrev NP:=Int×List Int×((Bool×Int)×GS)×PS×List Int×Unit
abbrev Nx:=List Int×(Unit×GS)×PS×List Int×Bool
def Kg (good:List Int->Option Bool) (t:List Int) (s:GS):Option (GS×Bool):=(good t).bind λr1=>if r1 then(Cv t).bind λr2=>some ((s.1,((s.1,r2),true)),!true)else some ((s.1,((s.2.1.1,s.2.1.2),s.2.2)),!s.2.2)
theorem JJ {g:Bool×Int} (rec:NP->Option Nx) (rec0:SIn GS->Option (KW GS)) (hrec: ∀a t (s:GS) n q u,rec (a,t,(g,s),n,q,u)=(rec0 (a,t,s,n,q,u)).map λy=>(y.1,((),y.2.1),y.2.2)):
    ∀f at_ t1 (s:GS) t3 t4 t5 x,Ab rec f (at_,t1,(g,s),t3,t4,t5,x)=(gL rec0 f (at_,t1,s,t3,t4,t5,x)).map λy=>match y with
      | .inl y=> .inl (y.1,(g,y.2.1),y.2.2)
      | .inr y=> .inr (y.1,(g,y.2.1),y.2.2)
  |0,_,_,_,_,_,_,_=>rfl
  |f+1,at_,t1,(p,((q1,q2),r)),t3,t4,t5,x=>by
    have ih:=JJ rec rec0 hrec f
    have key : (Au t3 (stt t1 at_ x) at_).bind (fun r2 =>
                    if r2 then
                      (rec (w64 (at_+1),stt t1 at_ x,(g,(p,((q1,q2),r))),t3,t4,())).bind λr3=>
                        if !r3.2.2.2.2 then
                          some (.inr (r3.1,(g,(r3.2.1.2.1,((r3.2.1.2.2.1.1,r3.2.1.2.2.1.2),r3.2.1.2.2.2))),r3.2.2.1,r3.2.2.2.1,(),false))
                        else
                          Ab rec f (at_,r3.1,(g,(r3.2.1.2.1,((r3.2.1.2.2.1.1,r3.2.1.2.2.1.2),r3.2.1.2.2.2))),r3.2.2.1,r3.2.2.2.1,(),w64 (x+1))
                    else
                      Ab rec f (at_,stt t1 at_ x,(g,(p,((q1,q2),r))),t3,t4,(),w64 (x+1)))
        = ((Au t3 (stt t1 at_ x) at_).bind fun r2 =>
                    if r2 then
                      (rec0 (w64 (at_+1),stt t1 at_ x,(p,((q1,q2),r)),t3,t4,())).bind λr3=>
                        if !r3.2.2.2.2 then
                          some (.inr (r3.1,r3.2.1,r3.2.2.1,r3.2.2.2.1,(),false))
                        else
                          gL rec0 f (at_,r3.1,r3.2.1,r3.2.2.1,r3.2.2.2.1,(),w64 (x+1))
                    else
                      gL rec0 f (at_,stt t1 at_ x,(p,((q1,q2),r)),t3,t4,(),w64 (x+1))).map λy=>match y with
      | .inl y=> .inl (y.1,(g,y.2.1),y.2.2)
      | .inr y=> .inr (y.1,(g,y.2.1),y.2.2):=by
      generalize Au t3 (stt t1 at_ x) at_=o
      cases o with
      |none=>rfl
      |some b=>
        rw[Option.bind_some,Option.bind_some]
        cases b with
        |false=>exact ih ..
        |true=>
          rw[if_pos rfl,if_pos rfl,hrec]
          generalize rec0 (w64 (at_+1),stt t1 at_ x,(p,((q1,q2),r)),t3,t4,())=o
          cases o with
          |none=>rfl
          |some z=>
            obtain⟨z0,⟨z1,⟨⟨z2,z3⟩,z4⟩⟩,z5,z6,z7⟩:=z
            rw[Option.map_some,Option.bind_some,Option.bind_some]
            dsimp only
            cases z7 with
            |false=>rfl
            |true=>exact ih ..
    rw[Ab,gL]
    dsimp only
    rw[key]
    exact Fz (Fz (Fz (Fz (Fz (Fz (ih ..) (Fz rfl rfl)) rfl) (Fz rfl rfl)) rfl) rfl) rfl
theorem LB {g:Bool×Int}: ∀d a t (s:GS) n q u,Aj d (a,t,(g,s),n,q,u)=(gF (Kg λt=>Al t g) d (a,t,s,n,q,u)).map λy=>(y.1,((),y.2.1),y.2.2)
 |0,_,_,_,_,_,_=>rfl
 |d+1,a,t,(p,((q1,q2),r)),n,q,u=>by
  have ih:=LB d (g:=g)
  rw[Aj,gF]
  unfold KE Ar
  dsimp only
  split
  ·unfold Kg Bf
   dsimp only
   cases Al t g with
   |none=>rfl
   |some b=>
    rw[Option.bind_some,Option.bind_some]
    cases b with
    |false=>rfl
    |true=>cases Cv t<;>rfl
  ·have:=JJ _ (gF (Kg λt=>Al t g) d) ih Aa a t (p,((q1,q2),r)) n q () 0
   rw[this]
   cases gL (gF (Kg λt=>Al t g) d) Aa (a,t,(p,((q1,q2),r)),n,q,(),0)with
   |none=>rfl
   |some z=>cases z<;>rfl
theorem KC {good:List Int->Option Bool} {p:List Int->Bool} {k:Nat}: ∀(l:List (List Int)),(∀t∈l,t.length<=1000/\good t=some (p t))-> ∃b,BR (Kg good) l ((k:Int),((0,[]),false))=some (((k:Int),Fi k (l.filter p)),b)
 | [],_=>⟨true,rfl⟩
 |t::l,h=>by
  obtain⟨h1,h2⟩:=h t (List.mem_cons_self ..)
  obtain⟨b,ih⟩:=KC (k:=k) l λt ht=>h t (List.mem_cons_of_mem _ ht)
  simp only[BR,Kg,h2,Option.bind_some,List.filter_cons]
  cases p t with
  |false=>exact⟨b,ih⟩
  |true=>
   have hcl:Cv t=some t:=by
    unfold Cv
    rw[if_pos (by simp;unfold lim;omega)];simp
   simp only[hcl,Option.bind_some,if_true]
   exact⟨false,rfl⟩
end T
open Go Go.Va
namespace T
section
variable {n:Nat} {t:List Int}
def Ap (n:Nat) (t:List Int) (x y:Nat):Nat:=(t.getD (x*n+y) 0).toNat
def Em (n:Nat) (t:List Int):Bool:=(List.range n).all λx=>(List.range x).all λy=>Ap n t x y==Ap n t y x
def Ds (n:Nat) (t:List Int):Bool:=(List.range n).all λx=>(List.range n).all λy=>(List.range n).all λz=>Ap n t (Ap n t x y) z==Ap n t x (Ap n t y z)
def Hj (n:Nat) (t:List Int):Bool:=(List.range n).all λx=>Ap n t x x==x
structure TabOk (n:Nat) (t:List Int):Prop where
 hn:1<=n/\n<=4
 len:t.length=n*n
 val: ∀x∈t,0<=x/\x<(n:Int)
theorem ix2 (hn:n<=4) {x y:Nat} (hx:x<n) (hy:y<n):w64 (w64 ((x:Int)*(n:Int))+(y:Int))=((x*n+y:Nat):Int)/\x*n+y<n*n:=by
 have h1:x*n+y<n*n:=by
  calc x*n+y<x*n+n:=by omega
   _=(x+1)*n:=by rw[Nat.succ_mul]
   _<=n*n:=Nat.mul_le_mul_right _ hx
 have h2:n*n<=4*4:=Nat.mul_le_mul hn hn
 have e:(x:Int)*(n:Int)=((x*n:Nat):Int):=by simp
 have a1:w64 ((x*n:Nat):Int)=((x*n:Nat):Int):=AE (by omega) (by omega)
 rw[e,a1,AE (by omega) (by omega)]
 exact⟨by omega,h1⟩
theorem TabOk.at (h:TabOk n t) {x y:Nat} (hx:x<n) (hy:y<n):w64 (w64 ((x:Int)*(n:Int))+(y:Int))=((x*n+y:Nat):Int)/\inb ((x*n+y:Nat):Int) t/\gd t ((x*n+y:Nat):Int) 0=((Ap n t x y:Nat):Int)/\Ap n t x y<n:=by
 obtain⟨h1,h2⟩:=ix2 h.hn.2 hx hy
 have hl:x*n+y<t.length:=by rw[h.len];exact h2
 have hv:=h.val _ (List.getElem_mem hl)
 refine⟨h1,by rw[Ae];exact hl,?_,?_⟩
 ·rw[Af hl];unfold Ap;rw[Ag hl];omega
 ·unfold Ap;rw[Ag hl];omega
theorem TabOk.op (h:TabOk n t):opB (n:Int) (2,t)=true:=by
 have hn:=h.hn
 have h1:=h.len
 have e:((t.length:Nat):Int)=(n:Int)^2:=by rw[h1,Int.pow_succ,Int.pow_succ,Int.pow_zero,Int.one_mul];simp
 have hb:BK (n:Int) t=true:=by
  unfold BK
  rw[List.all_eq_true]
  exact λx hx=>by simpa using h.val x hx
 unfold opB
 rw[Bool.and_eq_true,Bool.and_eq_true]
 exact⟨⟨by simp,decide_eq_true e⟩,hb⟩
theorem GY (h:TabOk n t):FV ((n:Int),[(2,t)]) 0=some true:=by
 have hn:=h.hn
 have h1:=h.len
 have h2:n*n<=4*4:=Nat.mul_le_mul hn.2 hn.2
 have e:=Hl (n:=(n:Int)) (by omega) (f:=(2,t)) (by dsimp only;omega)
 rw[h.op]at e
 unfold FV Gl
 obtain⟨f,hf⟩: ∃f,Aa=f+3:=⟨Aa-3,by unfold Aa;omega⟩
 have hL:Dw Aa (((n:Int),[(2,t)]),[(2,t)],(([(2,t)]:List Opn).length:Int),0)=some (.inl ()):=by
  rw[hf]
  simp only[Dw,List.length_singleton]
  have e0:gd ([(2,t)]:List Opn) (0:Int) (0,[])=(2,t):=rfl
  have w1:w64 (0+1)=1:=by decide
  have i0:inb (0:Int) ([(2,t)]:List Opn):=by unfold inb;simp
  simp[e0,e,w1,show w64 1=1 from by decide,i0]
 dsimp only
 rw[if_neg (by simp;omega),if_neg (by simp;omega),if_neg (by simp),hL]
 simp
theorem G0 (h:TabOk n t):Fe ((n:Int),[(2,t)]) 0=some true:=by
 have hn:=h.hn
 have h1:=h.len
 have h2:n*n<=4*4:=Nat.mul_le_mul hn.2 hn.2
 have e:=Hr (n:=(n:Int)) (by omega) (f:=(2,t)) (by dsimp only;omega)
 rw[h.op]at e
 unfold Fe HR
 obtain⟨f,hf⟩: ∃f,Aa=f+3:=⟨Aa-3,by unfold Aa;omega⟩
 have hL:EB Aa (((n:Int),[(2,t)]),0)=some (.inl ()):=by
  rw[hf]
  simp only[EB,List.length_singleton]
  have e0:gd ([(2,t)]:List Opn) (0:Int) (0,[])=(2,t):=rfl
  have w1:w64 (0+1)=1:=by decide
  have i0:inb (0:Int) ([(2,t)]:List Opn):=by unfold inb;simp
  simp[e0,e,w1,show w64 1=1 from by decide,i0]
 have c1:decide ((1:Int)<=(n:Int)/\(n:Int)<=8)=true:=by simp;omega
 have w0:w64 (((1:Nat):Int)-1)=0:=by decide
 dsimp only
 rw[Bt,c1,hL]
 simp only[Option.bind_some,Bool.not_true,Bool.false_eq_true,if_false]
 rw[if_neg (by simp)]
 simp only[Option.bind_some,if_true]
 rw[show(([(2,t)]:List Opn).length:Int)=((1:Nat):Int) from rfl,w0,Bt]
 rfl
theorem Dr (h:TabOk n t) {x y:Nat} (hx:x<n) (hy:y<n):CQ ((n:Int),[(2,t)]) 0 [(x:Int),(y:Int)]=some ((Ap n t x y:Nat):Int):=by
 obtain⟨h1,h2,h3,_⟩:=h.at hx hy
 obtain⟨f,hf⟩: ∃f,Aa=f+3:=⟨Aa-3,by unfold Aa;omega⟩
 have hL:D6 Aa (0,[(x:Int),(y:Int)],((n:Int),[(2,t)]),0,0)=some (0,((n:Int),[(2,t)]),((x*n+y:Nat):Int)):=by
  rw[hf]
  have a0:gd [(x:Int),(y:Int)] (0:Int) 0=x:=rfl
  have a1:gd [(x:Int),(y:Int)] (1:Int) 0=y:=rfl
  have i0:inb (0:Int) [(x:Int),(y:Int)]:=by unfold inb;simp
  have i1:inb (1:Int) [(x:Int),(y:Int)]:=by unfold inb;simp
  have w1:w64 (0+1)=1:=by decide
  have w2:w64 (1+1)=2:=by decide
  have w3:w64 (w64 (0*(n:Int))+(x:Int))=x:=by have:=h.hn;rw[Int.zero_mul,show w64 0=0 from by decide,AE (by omega) (by omega)];omega
  simp only[D6,List.length_cons,List.length_nil,a0,a1,i0,i1,w1,w2,w3,h1,if_true]
  simp
 unfold CQ
 have e0:gd ([(2,t)]:List Opn) (0:Int) (0,[])=(2,t):=rfl
 have i0:inb (0:Int) ([(2,t)]:List Opn):=by unfold inb;simp
 simp only[hL,Option.bind_some,e0,i0,if_true]
 rw[if_pos h2,h3]
theorem Is (a b:Nat):(((a:Nat):Int) !=((b:Nat):Int))=!(a==b):=by
 rw[bne]
 congr 1
 rw[Bool.eq_iff_iff,beq_iff_eq,beq_iff_eq]
 omega
theorem Js (h:TabOk n t):Eo ((n:Int),[(2,t)]) 0=some (Hj n t,true):=by
 have hn:=h.hn
 unfold Eo
 have e0:gd ([(2,t)]:List Opn) (0:Int) (0,[])=(2,t):=rfl
 have i0:inb (0:Int) ([(2,t)]:List Opn):=by unfold inb;simp
 have hL11: ∀x:Nat,x<n->CB Aa (((n:Int),[(2,t)]),(2,t),(x:Int),0,0)=some (((n:Int),[(2,t)]),(2,t),(x:Int),((x*n+x:Nat):Int)):=λx hx=>by
  obtain⟨h1,_⟩:=h.at hx hx
  obtain⟨f,hf⟩: ∃f,Aa=f+3:=⟨Aa-3,by unfold Aa;omega⟩
  rw[hf]
  have w1:w64 (0+1)=1:=by decide
  have w2:w64 (1+1)=2:=by decide
  have w3:w64 (w64 (0*(n:Int))+(x:Int))=x:=by rw[Int.zero_mul,show w64 0=0 from by decide,AE (by omega) (by omega)];omega
  simp only[CB,w1,w2,w3,h1]
  simp
 have:=FN n (λf (_:Unit) x=>BM f (((n:Int),[(2,t)]),(2,t),x)) (λ_=>()) (λx=>Ap n t x x==x) (r:=some (.inr (false,true))) (e:=some (.inl ())) (λf x hx=>by
  obtain⟨_,h2,h3,_⟩:=h.at hx hx
  simp only[BM,hL11 x hx,Option.bind_some,h2,h3,if_true,Is,Ac (show x<4611686018427387904 by omega)]
  rw[if_pos (by rw[decide_eq_true_eq];omega)]
  cases Ap n t x x==x<;>rfl) (λf=>by simp only[BM];rw[if_neg (by simp)]) (n:=Aa) (by unfold Aa;omega)
 have this:BM Aa (((n:Int),[(2,t)]),(2,t),0)=_:=this
 simp only[GY h,Option.bind_some,e0,i0,if_true,this]
 show(if !true=true then _ else if(2:Int)==0 then _ else _)=_
 rw[if_neg (by simp),if_neg (by decide)]
 unfold Hj
 cases (List.range n).all λx=>Ap n t x x==x<;>rfl
theorem Gq (h:TabOk n t):EL ((n:Int),[(2,t)]) 0=some true:=by
 unfold EL
 have e0:gd ([(2,t)]:List Opn) (0:Int) (0,[])=(2,t):=rfl
 have i0:inb (0:Int) ([(2,t)]:List Opn):=by unfold inb;simp
 simp only[GY h,Option.bind_some,e0,i0,if_true]
 rfl
theorem Jp (h:TabOk n t):Ea ((n:Int),[(2,t)]) 0=some (Em n t,true):=by
 have hn:=h.hn
 unfold Ea
 have e0:gd ([(2,t)]:List Opn) (0:Int) (0,[])=(2,t):=rfl
 have i0:inb (0:Int) ([(2,t)]:List Opn):=by unfold inb;simp
 have hL8: ∀x:Nat,x<n->Bz Aa ((n:Int),t,(x:Int),0)=if(List.range x).all λy=>Ap n t x y==Ap n t y x then some (.inl ((n:Int),t,(x:Int)))else some (.inr (false,true)):=λx hx=>by
  have:=FN x (λf (_:Unit) y=>Bz f ((n:Int),t,(x:Int),y)) (λ_=>()) (λy=>Ap n t x y==Ap n t y x) (r:=some (.inr (false,true))) (e:=some (.inl ((n:Int),t,(x:Int)))) (λf y hy=>by
   obtain⟨h1,h2,h3,_⟩:=h.at hx (show y<n by omega)
   obtain⟨g1,g2,g3,_⟩:=h.at (show y<n by omega) hx
   simp only[Bz,h1,h2,h3,g1,g2,g3,if_true,Is,Ac (show y<4611686018427387904 by omega)]
   rw[if_pos (by rw[decide_eq_true_eq];omega)]
   cases Ap n t x y==Ap n t y x<;>rfl) (λf=>by simp only[Bz];rw[if_neg (by simp)]) (n:=Aa) (by unfold Aa;omega)
  exact this
 have:=FN n (λf (_:Unit) x=>By f ((n:Int),t,x)) (λ_=>()) (λx=>(List.range x).all λy=>Ap n t x y==Ap n t y x) (r:=some (.inr (false,true))) (e:=some (.inl ())) (λf x hx=>by
  simp only[By,hL8 x hx]
  rw[if_pos (by rw[decide_eq_true_eq];omega)]
  cases (List.range x).all λy=>Ap n t x y==Ap n t y x
  ·rfl
  ·simp only[if_true,Option.bind_some,Ac (show x<4611686018427387904 by omega)]) (λf=>by simp only[By];rw[if_neg (by simp)]) (n:=Aa) (by unfold Aa;omega)
 have this:By Aa ((n:Int),t,0)=_:=this
 simp only[Gq h,Option.bind_some,e0,i0,if_true,this,Bool.not_true,Bool.false_eq_true,if_false]
 unfold Em
 cases (List.range n).all λx=>(List.range x).all λy=>Ap n t x y==Ap n t y x<;>rfl
theorem IL (h:TabOk n t):D9 ((n:Int),[(2,t)]) 0=some (Ds n t,true):=by
 have hn:=h.hn
 unfold D9
 have e0:gd ([(2,t)]:List Opn) (0:Int) (0,[])=(2,t):=rfl
 have i0:inb (0:Int) ([(2,t)]:List Opn):=by unfold inb;simp
 have hL11: ∀x y:Nat,x<n->y<n->Bh Aa ((n:Int),t,(x:Int),(y:Int),0)=if(List.range n).all λz=>Ap n t (Ap n t x y) z==Ap n t x (Ap n t y z)then some (.inl ((n:Int),t,(x:Int),(y:Int)))else some (.inr (false,true)):=λx y hx hy=>by
  have:=FN n (λf (_:Unit) z=>Bh f ((n:Int),t,(x:Int),(y:Int),z)) (λ_=>()) (λz=>Ap n t (Ap n t x y) z==Ap n t x (Ap n t y z)) (r:=some (.inr (false,true))) (e:=some (.inl ((n:Int),t,(x:Int),(y:Int)))) (λf z hz=>by
   obtain⟨a1,a2,a3,a4⟩:=h.at hx hy
   obtain⟨b1,b2,b3,b4⟩:=h.at hy hz
   obtain⟨c1,c2,c3,_⟩:=h.at a4 hz
   obtain⟨d1,d2,d3,_⟩:=h.at hx b4
   simp only[Bh,a1,a2,a3,b1,b2,b3,c1,c2,c3,d1,d2,d3,if_true,Is,Ac (show z<4611686018427387904 by omega)]
   rw[if_pos (by rw[decide_eq_true_eq];omega)]
   cases Ap n t (Ap n t x y) z==Ap n t x (Ap n t y z)<;>rfl) (λf=>by simp only[Bh];rw[if_neg (by simp)]) (n:=Aa) (by unfold Aa;omega)
  exact this
 have hL8: ∀x:Nat,x<n->Bx Aa ((n:Int),t,(x:Int),0)=if(List.range n).all λy=>(List.range n).all λz=>Ap n t (Ap n t x y) z==Ap n t x (Ap n t y z)then some (.inl ((n:Int),t,(x:Int)))else some (.inr (false,true)):=λx hx=>by
  have:=FN n (λf (_:Unit) y=>Bx f ((n:Int),t,(x:Int),y)) (λ_=>()) (λy=>(List.range n).all λz=>Ap n t (Ap n t x y) z==Ap n t x (Ap n t y z)) (r:=some (.inr (false,true))) (e:=some (.inl ((n:Int),t,(x:Int)))) (λf y hy=>by
   simp only[Bx,hL11 x y hx hy]
   rw[if_pos (by rw[decide_eq_true_eq];omega)]
   cases (List.range n).all λz=>Ap n t (Ap n t x y) z==Ap n t x (Ap n t y z)
   ·rfl
   ·simp only[if_true,Option.bind_some,Ac (show y<4611686018427387904 by omega)]) (λf=>by simp only[Bx];rw[if_neg (by simp)]) (n:=Aa) (by unfold Aa;omega)
  exact this
 have:=FN n (λf (_:Unit) x=>Bw f ((n:Int),t,x)) (λ_=>()) (λx=>(List.range n).all λy=>(List.range n).all λz=>Ap n t (Ap n t x y) z==Ap n t x (Ap n t y z)) (r:=some (.inr (false,true))) (e:=some (.inl ())) (λf x hx=>by
  simp only[Bw,hL8 x hx]
  rw[if_pos (by rw[decide_eq_true_eq];omega)]
  cases (List.range n).all λy=>(List.range n).all λz=>Ap n t (Ap n t x y) z==Ap n t x (Ap n t y z)
  ·rfl
  ·simp only[if_true,Option.bind_some,Ac (show x<4611686018427387904 by omega)]) (λf=>by simp only[Bw];rw[if_neg (by simp)]) (n:=Aa) (by unfold Aa;omega)
 have this:Bw Aa ((n:Int),t,0)=_:=this
 simp only[Gq h,Option.bind_some,e0,i0,if_true,this,Bool.not_true,Bool.false_eq_true,if_false]
 unfold Ds
 cases (List.range n).all λx=>(List.range n).all λy=>(List.range n).all λz=>Ap n t (Ap n t x y) z==Ap n t x (Ap n t y z)<;>rfl
theorem Jy (h:TabOk n t):Eh ((n:Int),[(2,t)]) 0=some (Em n t,true):=by
 have hn:=h.hn
 unfold Eh
 have e0:gd ([(2,t)]:List Opn) (0:Int) (0,[])=(2,t):=rfl
 have i0:inb (0:Int) ([(2,t)]:List Opn):=by unfold inb;simp
 have hL7: ∀x:Nat,x<n->BE Aa (0,((n:Int),[(2,t)]),(x:Int),0)=if(List.range x).all λy=>Ap n t x y==Ap n t y x then some (.inl (0,((n:Int),[(2,t)]),(x:Int)))else some (.inr (false,true)):=λx hx=>by
  have:=FN x (λf (_:Unit) y=>BE f (0,((n:Int),[(2,t)]),(x:Int),y)) (λ_=>()) (λy=>Ap n t x y==Ap n t y x) (r:=some (.inr (false,true))) (e:=some (.inl (0,((n:Int),[(2,t)]),(x:Int)))) (λf y hy=>by
   simp only[BE,Dr h hx (show y<n by omega),Dr h (show y<n by omega) hx,Option.bind_some,Is,Ac (show y<4611686018427387904 by omega)]
   rw[if_pos (by rw[decide_eq_true_eq];omega)]
   cases Ap n t x y==Ap n t y x<;>rfl) (λf=>by simp only[BE];rw[if_neg (by simp)]) (n:=Aa) (by unfold Aa;omega)
  exact this
 have:=FN n (λf (_:Unit) x=>BD f (0,((n:Int),[(2,t)]),x)) (λ_=>()) (λx=>(List.range x).all λy=>Ap n t x y==Ap n t y x) (r:=some (.inr (false,true))) (e:=some (.inl ())) (λf x hx=>by
  simp only[BD,hL7 x hx]
  rw[if_pos (by rw[decide_eq_true_eq];omega)]
  cases (List.range x).all λy=>Ap n t x y==Ap n t y x
  ·rfl
  ·simp only[if_true,Option.bind_some,Ac (show x<4611686018427387904 by omega)]) (λf=>by simp only[BD];rw[if_neg (by simp)]) (n:=Aa) (by unfold Aa;omega)
 have this:BD Aa (0,((n:Int),[(2,t)]),0)=_:=this
 simp only[G0 h,Option.bind_some,e0,i0,if_true,this,Bool.not_true,Bool.false_eq_true,if_false]
 show(if(2:Int) !=2 then _ else _)=_
 rw[if_neg (by decide)]
 unfold Em
 cases (List.range n).all λx=>(List.range x).all λy=>Ap n t x y==Ap n t y x<;>rfl
theorem IQ (h:TabOk n t):Eg ((n:Int),[(2,t)]) 0=some (Ds n t,true):=by
 have hn:=h.hn
 unfold Eg
 have e0:gd ([(2,t)]:List Opn) (0:Int) (0,[])=(2,t):=rfl
 have i0:inb (0:Int) ([(2,t)]:List Opn):=by unfold inb;simp
 have hL10: ∀x y:Nat,x<n->y<n->Bm Aa (0,((n:Int),[(2,t)]),(x:Int),(y:Int),0)=if(List.range n).all λz=>Ap n t (Ap n t x y) z==Ap n t x (Ap n t y z)then some (.inl (0,((n:Int),[(2,t)]),(x:Int),(y:Int)))else some (.inr (false,true)):=λx y hx hy=>by
  have:=FN n (λf (_:Unit) z=>Bm f (0,((n:Int),[(2,t)]),(x:Int),(y:Int),z)) (λ_=>()) (λz=>Ap n t (Ap n t x y) z==Ap n t x (Ap n t y z)) (r:=some (.inr (false,true))) (e:=some (.inl (0,((n:Int),[(2,t)]),(x:Int),(y:Int)))) (λf z hz=>by
   obtain⟨_,_,_,a4⟩:=h.at hx hy
   obtain⟨_,_,_,b4⟩:=h.at hy hz
   simp only[Bm,Dr h hx hy,Dr h hy hz,Dr h a4 hz,Dr h hx b4,Option.bind_some,Is,Ac (show z<4611686018427387904 by omega)]
   rw[if_pos (by rw[decide_eq_true_eq];omega)]
   cases Ap n t (Ap n t x y) z==Ap n t x (Ap n t y z)<;>rfl) (λf=>by simp only[Bm];rw[if_neg (by simp)]) (n:=Aa) (by unfold Aa;omega)
  exact this
 have hL7: ∀x:Nat,x<n->BC Aa (0,((n:Int),[(2,t)]),(x:Int),0)=if(List.range n).all λy=>(List.range n).all λz=>Ap n t (Ap n t x y) z==Ap n t x (Ap n t y z)then some (.inl (0,((n:Int),[(2,t)]),(x:Int)))else some (.inr (false,true)):=λx hx=>by
  have:=FN n (λf (_:Unit) y=>BC f (0,((n:Int),[(2,t)]),(x:Int),y)) (λ_=>()) (λy=>(List.range n).all λz=>Ap n t (Ap n t x y) z==Ap n t x (Ap n t y z)) (r:=some (.inr (false,true))) (e:=some (.inl (0,((n:Int),[(2,t)]),(x:Int)))) (λf y hy=>by
   simp only[BC,hL10 x y hx hy]
   rw[if_pos (by rw[decide_eq_true_eq];omega)]
   cases (List.range n).all λz=>Ap n t (Ap n t x y) z==Ap n t x (Ap n t y z)
   ·rfl
   ·simp only[if_true,Option.bind_some,Ac (show y<4611686018427387904 by omega)]) (λf=>by simp only[BC];rw[if_neg (by simp)]) (n:=Aa) (by unfold Aa;omega)
  exact this
 have:=FN n (λf (_:Unit) x=>BB f (0,((n:Int),[(2,t)]),x)) (λ_=>()) (λx=>(List.range n).all λy=>(List.range n).all λz=>Ap n t (Ap n t x y) z==Ap n t x (Ap n t y z)) (r:=some (.inr (false,true))) (e:=some (.inl ())) (λf x hx=>by
  simp only[BB,hL7 x hx]
  rw[if_pos (by rw[decide_eq_true_eq];omega)]
  cases (List.range n).all λy=>(List.range n).all λz=>Ap n t (Ap n t x y) z==Ap n t x (Ap n t y z)
  ·rfl
  ·simp only[if_true,Option.bind_some,Ac (show x<4611686018427387904 by omega)]) (λf=>by simp only[BB];rw[if_neg (by simp)]) (n:=Aa) (by unfold Aa;omega)
 have this:BB Aa (0,((n:Int),[(2,t)]),0)=_:=this
 simp only[G0 h,Option.bind_some,e0,i0,if_true,this,Bool.not_true,Bool.false_eq_true,if_false]
 show(if(2:Int) !=2 then _ else _)=_
 rw[if_neg (by decide)]
 unfold Ds
 cases (List.range n).all λx=>(List.range n).all λy=>(List.range n).all λz=>Ap n t (Ap n t x y) z==Ap n t x (Ap n t y z)<;>rfl
theorem Jt (h:TabOk n t):Al t (true,(n:Int))=some (Hj n t&&Em n t&&Ds n t):=by
 unfold Al Fm
 simp only[Js h,Jp h,IL h,Option.bind_some,if_true]
 cases Hj n t<;>cases Em n t<;>rfl
end
end T
open Go Go.Va
namespace T
def frN (given:List Int):Nat->Nat->Nat
 |_,0=>0
 |q,m+1=>(if given.getD q 0<0 then 1 else 0)+frN given (q+1) m
section
variable {n:Nat} {given:List Int}
theorem JK {ok:List Int->Bool}: ∀(m:Nat) (pre:List Int),(Dh n given ok m pre).length<=n^frN given pre.length m
 |0,pre=>by simp[Dh,frN]
 |m+1,pre=>by
  simp only[Dh,frN]
  have hx: ∀x:Nat,(if DQ given pre.length x&&ok (pre++ [(x:Int)])then Dh n given ok m (pre++ [(x:Int)])else []).length<=n^frN given (pre.length+1) m:=λx=>by
   split
   ·have:=JK (ok:=ok) m (pre++ [(x:Int)])
    rw[List.length_append,List.length_singleton]at this
    exact this
   ·simp
  by_cases h:given.getD pre.length 0<0
  ·rw[if_pos h]
   have key: ∀(l:List Nat),(l.flatMap λx=>if DQ given pre.length x&&ok (pre++ [(x:Int)])then Dh n given ok m (pre++ [(x:Int)])else []).length<=l.length*n^frN given (pre.length+1) m:=by
    intro l
    induction l with
    |nil=>simp
    |cons x l ih=>
     rw[List.flatMap_cons,List.length_append,List.length_cons,Nat.succ_mul]
     have:=hx x
     omega
   have:=key (List.range n)
   rw[List.length_range]at this
   rw[Nat.add_comm,Nat.pow_succ,Nat.mul_comm]
   exact this
  ·rw[if_neg h,Nat.zero_add]
   have key: ∀(l:List Nat),l.Nodup->(l.flatMap λx=>if DQ given pre.length x&&ok (pre++ [(x:Int)])then Dh n given ok m (pre++ [(x:Int)])else []).length<=if(given.getD pre.length 0).toNat∈l then n^frN given (pre.length+1) m else 0:=by
    intro l
    induction l with
    |nil=>intro _;simp
    |cons x l ih=>
     intro hn
     obtain⟨h1,h2⟩:=List.nodup_cons.1 hn
     have ih:=ih h2
     rw[List.flatMap_cons,List.length_append]
     by_cases e:(given.getD pre.length 0).toNat=x
     ·rw[e,if_neg h1]at ih
      rw[e,if_pos (List.mem_cons_self ..)]
      have:=hx x
      omega
     ·have hm:DQ given pre.length x=false:=by
       unfold DQ
       have a1:given.getD pre.length 0≥0:=by omega
       have a2:(given.getD pre.length 0 !=(x:Int))=true:=by
        rw[bne_iff_ne];intro e';exact e (by rw[e'];rfl)
       rw[decide_eq_true a1,a2];rfl
      rw[hm,Bool.false_and,if_neg (by simp),List.length_nil,Nat.zero_add]
      refine Nat.le_trans ih ?_
      split
      ·rename_i hm'
       rw[if_pos (List.mem_cons_of_mem _ hm')];exact Nat.le_refl _
      ·exact Nat.zero_le _
   have:=key (List.range n) List.nodup_range
   refine Nat.le_trans this ?_
   split
   ·exact Nat.le_refl _
   ·exact Nat.zero_le _
end
theorem LK: ∀n:Fin 4,(1<=n.val->n.val^frN (CZ n.val 2) 0 (n.val^2)<=729)/\ ∀x:Fin 4,x.val<n.val->(CZ n.val 2).getD (x.val*n.val+x.val) 0=(x.val:Int):=by decide+kernel
section
variable {n:Nat} {rels:List AT} {t:List Int}
theorem JQ (hR:RelsOk n 2 rels) (h3:n<=3):(Yhi n 2 rels (CZ n 2)).length<=729/\ ∀t∈Yhi n 2 rels (CZ n 2),TabOk n t/\Hj n t=true:=by
 have hn:=hR.hn
 obtain⟨b1,b2⟩:=LK ⟨n,by omega⟩
 refine⟨Nat.le_trans (JK _ _) (b1 hn.1),λt ht=>?_⟩
 obtain⟨h1,h2,h4,_⟩:=(JB hR).1 ht
 have hl:t.length=n*n:=by rw[h1,Nat.pow_succ,Nat.pow_one]
 have hT:TabOk n t:=⟨hn,hl,h2⟩
 refine⟨hT,?_⟩
 unfold Hj
 rw[List.all_eq_true]
 intro x hx
 have hx:=List.mem_range.1 hx
 obtain⟨a1,a2⟩:=ix2 hn.2 hx hx
 have hq:x*n+x<n^2:=by rw[Nat.pow_succ,Nat.pow_one];exact a2
 have:=h4 _ hq
 unfold DQ at this
 rw[b2 ⟨x,by omega⟩ hx]at this
 unfold Ap
 simp only[Bool.not_eq_true',Bool.and_eq_false_iff,decide_eq_false_iff_not,bne_eq_false_iff_eq]at this
 rw[beq_iff_eq]
 rcases this with h|h
 ·omega
 ·omega
theorem J6 (N:Opn): ∀(l:List (List Int)),l.length<=1000000->(∀t∈l,TabOk n t)->Aq Aa ((n:Int),N,l,0)=match Fi 2 (l.filter λt=>Em n t&&Ds n t)with|(_,false)=>some (.inl N)|(R,true)=>some (.inr (R,true)):=λl hl ht=>by
 have:=LQ l (λf (N:Opn) i=>Aq f ((n:Int),N,l,i)) (λN t=>if Em n t&&Ds n t then some (.inr (.inr ((2,t),true)))else some (.inl N)) (λN=>some (.inl N)) (λf N k hk=>?_) (λf N=>?_) (n:=Aa) (by unfold Aa;omega) N
 ·rw[this]
  clear this ht hl
  induction l with
  |nil=>rfl
  |cons t l ih=>
   simp only[Kp,List.filter_cons]
   cases Em n t&&Ds n t with
   |false=>exact ih
   |true=>rfl
 ·have hT:=ht _ (List.getElem_mem hk)
  have e0:gd ([(2,l[k])]:List Opn) (0:Int) (0,[])=(2,l[k]):=rfl
  have i0:inb (0:Int) ([(2,l[k])]:List Opn):=by unfold inb;simp
  simp only[Aq,Ae,hk,Af hk,Jy hT,IQ hT,Option.bind_some,if_true,e0,i0,Ac (show k<4611686018427387904 by omega)]
  rw[if_pos (by rw[decide_eq_true_eq];omega)]
  cases Em n l[k]<;>cases Ds n l[k]<;>rfl
 ·simp only[Aq]
  rw[if_neg (by simp)]
theorem Jq (h:RelsOk n 2 rels) (h3:n<=3):As (n:Int) rels ((2:Nat):Int) (CZ n 2) (true,(n:Int))=some (Fi 2 ((Yhi n 2 rels (CZ n 2)).filter λt=>Em n t&&Ds n t)):=by
 have hp:=Dx (n:=n) (k:=2) h.hn.2 (by omega)
 obtain⟨_,hA⟩:=JQ h h3
 have hg:(CZ n 2).length=n^2:=I5
 obtain⟨b,h1⟩:=KC (good:=λt=>Al t (true,(n:Int))) (p:=λt=>Em n t&&Ds n t) (k:=2) (Yhi n 2 rels (CZ n 2)) (λt ht=>by
  obtain⟨h4,h5⟩:=hA t ht
  refine⟨by rw[h4.len];have:=h4.hn;have:n*n<=4*4:=Nat.mul_le_mul h4.hn.2 h4.hn.2;omega,?_⟩
  rw[Jt h4,h5,Bool.true_and])
 obtain⟨r,h4,h5⟩:=Mp h hg (Kg λt=>Al t (true,(n:Int))) h1
 have h6:=LB (g:=(true,(n:Int))) Aa 0 (List.replicate (Int.toNat ((CZ n 2).length:Int)) (0:Int)) (((2:Nat):Int),((0,[]),false)) (true,(n:Int),((2:Nat):Int),EP n 2 rels) (CZ n 2) ()
 rw[h4]at h6
 unfold As Ax
 rw[Gh h]
 simp only[Option.bind_some,h6,Option.map_some]
 rw[if_pos (by rw[hg];unfold lim;omega)]
 simp only[Option.bind_some,h5]
end
section
variable {n:Int} {rels:List AT}
theorem K3 {k B:Nat} {l:List (List Int)} (h: ∀t∈l,t.length<=B):(Fi k l).1.2.length<=B:=by
 cases l with
 |nil=>simp[Fi]
 |cons t l=>exact h t (List.mem_cons_self ..)
def M0 (n:Int) (rels:List AT) (f:Opn):Prop:= ∃m:Nat,n=(m:Int)/\RelsOk m 2 rels/\ ∃t,f=(2,t)/\TabOk m t/\Hj m t=true/\Em m t=true/\Ds m t=true/\t∈Yhi m 2 rels (CZ m 2)
theorem Dy (h:Je rels): ∃R:Opn×Bool,Ci n rels=some R/\BI n rels=some R/\R.1.2.length<=1000/\(R.2=true->M0 n rels R.1):=by
 unfold Ci BI
 rw[Ik h,HK h]
 rw[show(G1 n rels&&decide (1<=(2:Int)/\(2:Int)<=3)&&Kd 2 rels)=(G1 n rels&&Kd 2 rels) by simp]
 cases hc:G1 n rels&&Kd 2 rels with
 |false=>exact⟨((0,[]),false),by simp,by simp,by simp,by simp⟩
 |true=>
  rw[Bool.and_eq_true]at hc
  obtain⟨hn,_⟩:=KU hc.1
  have hR:=MN (k:=2) hc.1 (by omega)
  simp only[Option.bind_some,Bool.not_true,Bool.false_eq_true,if_false]
  by_cases h3:n>3
  ·rw[if_pos (by simpa using h3),if_pos (by simpa using h3)];exact⟨((0,[]),false),rfl,rfl,by simp,by simp⟩
  ·rw[if_neg (by simpa using h3),if_neg (by simpa using h3)]
   obtain⟨m,rfl⟩: ∃m:Nat,n=m:=⟨n.toNat,by omega⟩
   rw[Int.toNat_natCast]at hR
   have hm3:m<=3:=by omega
   obtain⟨i1,i2⟩:=MA (n:=m) (k:=2) (by omega) (by omega)
   have i1:CN (m:Int) 2=_:=i1
   have i2:Df (m:Int) 2=_:=i2
   obtain⟨hA1,hA2⟩:=JQ hR hm3
   have hz:m^m^2<=4611686018427387904:=by
    have:m=1∨m=2∨m=3:=by omega
    rcases this with rfl|rfl|rfl<;>decide
   obtain⟨s,b,s1,s2⟩:=IC hR (given:=CZ m 2) I5 hz (most:=729) (by omega)
   rw[If (by omega)]at s1
   have s3:=(Option.some.inj s1).symm
   simp only[Prod.mk.injEq]at s3
   obtain⟨rfl,rfl⟩:=s3
   have s2:FC (m:Int) rels 2 (CZ m 2) 729=_:=s2
   have et:([]++(Yhi m 2 rels (CZ m 2)).take ((729:Int)-(([]:List (List Int)).length:Int)).toNat)=Yhi m 2 rels (CZ m 2):=by
    rw[List.nil_append,List.take_of_length_le (by simp;omega)]
   rw[et]at s2
   have q1:=Jq hR hm3
   have q1:As (m:Int) rels 2 (CZ m 2) (true,(m:Int))=_:=q1
   have q2:=J6 (n:=m) (0,[]) (Yhi m 2 rels (CZ m 2)) (by omega) (λt ht=>(hA2 t ht).1)
   have q3:=K3 (k:=2) (B:=1000) (l:=(Yhi m 2 rels (CZ m 2)).filter λt=>Em m t&&Ds m t) (λt ht=>by
    have h4:=(hA2 t (List.mem_filter.1 ht).1).1
    rw[h4.len];have:m*m<=4*4:=Nat.mul_le_mul h4.hn.2 h4.hn.2;omega)
   simp only[i1,i2,s2,q1,q2,Option.bind_some]
   have hfr: ∀l:List (List Int),(Fi 2 l).2=false->Fi 2 l=((0,[]),false):=λl hl=>by
    cases l with
    |nil=>rfl
    |cons=>simp[Fi]at hl
   generalize hF:Fi 2 ((Yhi m 2 rels (CZ m 2)).filter λt=>Em m t&&Ds m t)=F at*
   obtain⟨⟨f1,f2⟩,fb⟩:=F
   cases fb with
   |false=>
    have:=hfr _ (by rw[hF])
    rw[hF]at this
    obtain⟨e1,_⟩:=Prod.mk.inj this
    obtain⟨rfl,rfl⟩:=Prod.mk.inj e1
    exact⟨_,rfl,rfl,by simp,by simp⟩
   |true=>
    refine⟨_,rfl,rfl,q3,λ_=>⟨m,rfl,hR,f2,?_⟩⟩
    cases hl:(Yhi m 2 rels (CZ m 2)).filter λt=>Em m t&&Ds m t with
    |nil=>rw[hl]at hF;simp[Fi]at hF
    |cons t l=>
     rw[hl]at hF
     have hm:t∈(Yhi m 2 rels (CZ m 2)).filter λt=>Em m t&&Ds m t:=by rw[hl];exact List.mem_cons_self ..
     obtain⟨m1,m2⟩:=List.mem_filter.1 hm
     rw[Bool.and_eq_true]at m2
     simp only[Fi,Prod.mk.injEq]at hF
     obtain⟨⟨e1,rfl⟩,_⟩:=hF
     exact⟨by rw[←e1];rfl,(hA2 t m1).1,(hA2 t m1).2,m2.1,m2.2,m1⟩
end
end T
set_option linter.unusedVariables false
open Go Go.Va
namespace T
def Ay:Nat->(((List Int)×Int×Int)×(Int×(Int×(List ((List Int)×Int×(List (List Int))))))×Int×(List (Int×(List (List Int))))×(Int×(Int×(List ((List Int)×Int×(List (List Int))))))×Int×(Int×(List (List Int)))×((List Int)×(Int×(List (List Int))))×Int)->Option (((List Int)×Int×Int)×(Int×(Int×(List ((List Int)×Int×(List (List Int))))))×Int×(List (Int×(List (List Int))))×(Int×(Int×(List ((List Int)×Int×(List (List Int))))))×Int×((List Int)×(Int×(List (List Int)))))
 |0,_=>none
 |n+1,(t0,t2,t3,t4,t5,t6,t7,t8,t9)=>
 if decide (t9<t7.1)then
 if decide (t9<4)then
 (DH t5.1 1).bind λr9=>
 (Ah (t0.1,(t0.2.1,t0.2.2)) r9).bind λr10=>
 if t8.1.length+ [r10.2].length<=lim then
 Ay n ((r10.1.1,(r10.1.2.1,r10.1.2.2)),(t2.1,(t2.2.1,t2.2.2)),t3,t4,(t5.1,(t5.2.1,t5.2.2)),t6,(t7.1,t7.2),(t8.1++ [r10.2],(t8.2.1,t8.2.2)),w64 (t9+1))
 else none
 else
 some ((t0.1,(t0.2.1,t0.2.2)),(t2.1,(t2.2.1,t2.2.2)),t3,t4,(t5.1,(t5.2.1,t5.2.2)),t6,(t8.1,(t8.2.1,t8.2.2)))
 else
 some ((t0.1,(t0.2.1,t0.2.2)),(t2.1,(t2.2.1,t2.2.2)),t3,t4,(t5.1,(t5.2.1,t5.2.2)),t6,(t8.1,(t8.2.1,t8.2.2)))
def AA:Nat->(((List Int)×Int×Int)×(Int×(Int×(List ((List Int)×Int×(List (List Int))))))×Int×(List (Int×(List (List Int))))×(Int×(Int×(List ((List Int)×Int×(List (List Int))))))×Int)->Option (((List Int)×Int×Int)×(Int×(Int×(List ((List Int)×Int×(List (List Int))))))×(Int×(Int×(List ((List Int)×Int×(List (List Int)))))))
 |0,_=>none
 |n+1,(t0,t2,t3,t4,t5,t6)=>
 if decide (t6>0)then
 (DH t3 1).bind λr4=>
 (Ad (t0.1,(t0.2.1,t0.2.2)) [1,2,2,3]).bind λr5=>
 (BX (r5.1.1,(r5.1.2.1,r5.1.2.2)) r4 r5.2).bind λr6=>
 if decide ((t4.length:Int)>0)then
 (Ao (r6.1.1,(r6.1.2.1,r6.1.2.2)) 5).bind λr7=>
 if !r7.2 then
 (Ah (r7.1.1,(r7.1.2.1,r7.1.2.2)) (t4.length:Int)).bind λr8=>
 if inb r8.2 t4 then
 (Ay Aa ((r8.1.1,(r8.1.2.1,r8.1.2.2)),(t2.1,(t2.2.1,t2.2.2)),t3,t4,(t5.1,(t5.2.1,t5.2.2)),t6,((gd t4 r8.2 (0,[])).1,(gd t4 r8.2 (0,[])).2),([],((gd t4 r8.2 (0,[])).1,(gd t4 r8.2 (0,[])).2)),0)).bind λs9=>
 if s9.2.2.2.2.1.2.2.length+ [(s9.2.2.2.2.2.2.1,(s9.2.2.2.2.2.2.2.1,s9.2.2.2.2.2.2.2.2))].length<=lim then
 AA n ((s9.1.1,(s9.1.2.1,s9.1.2.2)),(s9.2.1.1,(s9.2.1.2.1,s9.2.1.2.2)),s9.2.2.1,s9.2.2.2.1,(s9.2.2.2.2.1.1,(s9.2.2.2.2.1.2.1,s9.2.2.2.2.1.2.2++ [(s9.2.2.2.2.2.2.1,(s9.2.2.2.2.2.2.2.1,s9.2.2.2.2.2.2.2.2))])),w64 (s9.2.2.2.2.2.1-1))
 else none
 else none
 else
 (Ay Aa ((r7.1.1,(r7.1.2.1,r7.1.2.2)),(t2.1,(t2.2.1,t2.2.2)),t3,t4,(t5.1,(t5.2.1,t5.2.2)),t6,(r6.2.1,r6.2.2),([],(r6.2.1,r6.2.2)),0)).bind λs10=>
 if s10.2.2.2.2.1.2.2.length+ [(s10.2.2.2.2.2.2.1,(s10.2.2.2.2.2.2.2.1,s10.2.2.2.2.2.2.2.2))].length<=lim then
 AA n ((s10.1.1,(s10.1.2.1,s10.1.2.2)),(s10.2.1.1,(s10.2.1.2.1,s10.2.1.2.2)),s10.2.2.1,s10.2.2.2.1,(s10.2.2.2.2.1.1,(s10.2.2.2.2.1.2.1,s10.2.2.2.2.1.2.2++ [(s10.2.2.2.2.2.2.1,(s10.2.2.2.2.2.2.2.1,s10.2.2.2.2.2.2.2.2))])),w64 (s10.2.2.2.2.2.1-1))
 else none
 else
 (Ay Aa ((r6.1.1,(r6.1.2.1,r6.1.2.2)),(t2.1,(t2.2.1,t2.2.2)),t3,t4,(t5.1,(t5.2.1,t5.2.2)),t6,(r6.2.1,r6.2.2),([],(r6.2.1,r6.2.2)),0)).bind λs11=>
 if s11.2.2.2.2.1.2.2.length+ [(s11.2.2.2.2.2.2.1,(s11.2.2.2.2.2.2.2.1,s11.2.2.2.2.2.2.2.2))].length<=lim then
 AA n ((s11.1.1,(s11.1.2.1,s11.1.2.2)),(s11.2.1.1,(s11.2.1.2.1,s11.2.1.2.2)),s11.2.2.1,s11.2.2.2.1,(s11.2.2.2.2.1.1,(s11.2.2.2.2.1.2.1,s11.2.2.2.2.1.2.2++ [(s11.2.2.2.2.2.2.1,(s11.2.2.2.2.2.2.2.1,s11.2.2.2.2.2.2.2.2))])),w64 (s11.2.2.2.2.2.1-1))
 else none
 else
 some ((t0.1,(t0.2.1,t0.2.2)),(t2.1,(t2.2.1,t2.2.2)),(t5.1,(t5.2.1,t5.2.2)))
def Bp:Nat->(((List Int)×Int×Int)×(Int×(Int×(List ((List Int)×Int×(List (List Int))))))×(Int×(Int×(List ((List Int)×Int×(List (List Int))))))×Int)->Option (((List Int)×Int×Int)×(Int×(Int×(List ((List Int)×Int×(List (List Int))))))×(Int×(Int×(List ((List Int)×Int×(List (List Int)))))))
 |0,_=>none
 |n+1,(t0,t2,t5,t10)=>
 if decide ((t5.2.2.length:Int)>0)then
 if decide ((t5.2.2.length:Int)<t10)then
 if inb 0 t5.2.2 then
 if t5.2.2.length+ [((gd t5.2.2 0 ([],(0,[]))).1,(((gd t5.2.2 0 ([],(0,[]))).2).1,((gd t5.2.2 0 ([],(0,[]))).2).2))].length<=lim then
 Bp n ((t0.1,(t0.2.1,t0.2.2)),(t2.1,(t2.2.1,t2.2.2)),(t5.1,(t5.2.1,t5.2.2++ [((gd t5.2.2 0 ([],(0,[]))).1,(((gd t5.2.2 0 ([],(0,[]))).2).1,((gd t5.2.2 0 ([],(0,[]))).2).2))])),t10)
 else none
 else none
 else
 some ((t0.1,(t0.2.1,t0.2.2)),(t2.1,(t2.2.1,t2.2.2)),(t5.1,(t5.2.1,t5.2.2)))
 else
 some ((t0.1,(t0.2.1,t0.2.2)),(t2.1,(t2.2.1,t2.2.2)),(t5.1,(t5.2.1,t5.2.2)))
def Dg (t0:(List Int)×Int×Int):Option (((List Int)×Int×Int)×(Int×Int×(List ((List Int)×Int×(List (List Int)))))):=
 (CX (t0.1,(t0.2.1,t0.2.2))).bind λr1=>
 (Ad (r1.1.1,(r1.1.2.1,r1.1.2.2)) [1,2,3,3,4,4,5,6]).bind λr2=>
 (Ad (r2.1.1,(r2.1.2.1,r2.1.2.2)) [0,1,2,3,4,5,6,8]).bind λr3=>
 (AA Aa ((r3.1.1,(r3.1.2.1,r3.1.2.2)),(0,(0,[])),r1.2.1,r1.2.2,(r2.2,(r1.2.1,[])),r3.2)).bind λs4=>
 (Ah (s4.1.1,(s4.1.2.1,s4.1.2.2)) 40).bind λr5=>
 if r5.2==0 then
 (Ad (r5.1.1,(r5.1.2.1,r5.1.2.2)) [(-1),0,9,10]).bind λr6=>
 some ((r6.1.1,(r6.1.2.1,r6.1.2.2)),(r6.2,(s4.2.2.2.1,s4.2.2.2.2)))
 else
 if r5.2==1 then
 if decide ((s4.2.2.2.2.length:Int)>0)then
 if inb 0 s4.2.2.2.2 then
 if((gd s4.2.2.2.2 0 ([],(0,[]))).1).length+ [0].length<=lim then
 if inb 0 s4.2.2.2.2 then
 if 0=0 then
 some ((r5.1.1,(r5.1.2.1,r5.1.2.2)),(s4.2.2.1,(s4.2.2.2.1,stt s4.2.2.2.2 0 (((gd s4.2.2.2.2 0 ([],(0,[]))).1)++ [0],(gd s4.2.2.2.2 0 ([],(0,[]))).2))))
 else none
 else none
 else none
 else none
 else
 some ((r5.1.1,(r5.1.2.1,r5.1.2.2)),(s4.2.2.1,(s4.2.2.2.1,s4.2.2.2.2)))
 else
 if r5.2==2 then
 (Ah (r5.1.1,(r5.1.2.1,r5.1.2.2)) 2).bind λr7=>
 (Bp Aa ((r7.1.1,(r7.1.2.1,r7.1.2.2)),(s4.2.1.1,(s4.2.1.2.1,s4.2.1.2.2)),(s4.2.2.1,(s4.2.2.2.1,s4.2.2.2.2)),w64 (40+r7.2))).bind λs8=>
 some ((s8.1.1,(s8.1.2.1,s8.1.2.2)),(s8.2.2.1,(s8.2.2.2.1,s8.2.2.2.2)))
 else
 some ((r5.1.1,(r5.1.2.1,r5.1.2.2)),(s4.2.2.1,(s4.2.2.2.1,s4.2.2.2.2)))
def Fs (code:List Int):Option ((Int×Int×(List ((List Int)×Int×(List (List Int)))))):=
 (Dg (code,(0,0))).bind λr1=>
 some (r1.2.1,(r1.2.2.1,r1.2.2.2))
def CO (net:Int×Int×(List ((List Int)×Int×(List (List Int))))) (values:List Int):Option (Bool):=
 if(values.length:Int)==net.1 then
 (Ej values net.2.1).bind λr1=>
 some r1
 else
 some false
def EE (net:Int×Int×(List ((List Int)×Int×(List (List Int))))) (values:List Int):Option (Int×Bool):=
 (BT (net.1,(net.2.1,net.2.2))).bind λr1=>
 if !r1 then
 some (0,false)
 else
 (CO (net.1,(net.2.1,net.2.2)) values).bind λr2=>
 if !r2 then
 some (0,false)
 else
 (DM (net.1,(net.2.1,net.2.2)) values).bind λr3=>
 if decide (r3<0)then
 some (0,false)
 else
 some (r3,true)
def C7 (net:Int×Int×(List ((List Int)×Int×(List (List Int))))) (values:List Int):Option (Bool):=
 if(values.length:Int)==net.1 then
 (Do net.2.1 values).bind λr1=>
 some r1
 else
 some false
def EF (net:Int×Int×(List ((List Int)×Int×(List (List Int))))) (values:List Int):Option (Int×Bool):=
 (CP (net.1,(net.2.1,net.2.2))).bind λr1=>
 if !r1 then
 some (0,false)
 else
 (C7 (net.1,(net.2.1,net.2.2)) values).bind λr2=>
 if !r2 then
 some (0,false)
 else
 (EO (net.1,(net.2.1,net.2.2)) values).bind λr3=>
 if decide (r3<0)then
 some (0,false)
 else
 some (r3,true)
def Bd (net:Int×Int×(List ((List Int)×Int×(List (List Int))))) (values:List Int):Option (Bool×Bool):=
 (BT (net.1,(net.2.1,net.2.2))).bind λr1=>
 if !r1 then
 some (false,false)
 else
 (CO (net.1,(net.2.1,net.2.2)) values).bind λr2=>
 if !r2 then
 some (false,false)
 else
 (DM (net.1,(net.2.1,net.2.2)) values).bind λr3=>
 some (decide (r3<0),true)
def Ge (net:Int×Int×(List ((List Int)×Int×(List (List Int))))) (values:List Int):Option (Bool×Bool):=
 (CP (net.1,(net.2.1,net.2.2))).bind λr1=>
 if !r1 then
 some (false,false)
 else
 (C7 (net.1,(net.2.1,net.2.2)) values).bind λr2=>
 if !r2 then
 some (false,false)
 else
 (EO (net.1,(net.2.1,net.2.2)) values).bind λr3=>
 some (decide (r3<0),true)
end T
open Go Go.Va
namespace T
theorem MZ (a:Int): ∃m,DH a 1=some m/\1<=m/\a<=m/\(m<=a∨m<=1):=by
 unfold DH
 by_cases h:a>1
 ·exact⟨a,by rw[if_pos (by simpa using h)],by omega,by omega,by omega⟩
 ·exact⟨1,by rw[if_neg (by simpa using h)],by omega,by omega,by omega⟩
def conD (W:Nat) (c:Con):Prop:=c.1.length<=W/\rowsB 601 3 c.2.2
theorem conD.mono {W W':Nat} {c:Con} (h:W<=W'):conD W c->conD W' c:=λ⟨a,b⟩=>⟨by omega,b⟩
def JX (a:Net):Prop:= -1<=a.1/\a.1<=10/\0<=a.2.1/\a.2.1<=5/\a.2.2.length<=41/\ ∀c∈a.2.2,conD 5 c
theorem LV {a:Net} (h:JX a):HF a:=⟨by have:=h.2.2.2.2.1;omega,λc hc=>by
 have h1:=h.2.2.2.2.2 c hc
 exact⟨by have:=h1.1;omega,by have:=h1.2.1;omega,λr hr=>by have:=h1.2.2 r hr;omega⟩⟩
theorem MF {V:Int} (hV:V<=100) (t2:Net) (t3:Int) (t4:List AT) (n5:Int) (cs:List Con) (t6:Int) (t7 rl:Int×List (List Int)): ∀(d f k x:Nat) (c:D8) (s:List Int),x+d=4->d<f->Cur k c->k+2*d<=1000000->s.length=x->
  ∃c' s',Ay f (c,t2,t3,t4,(V,(n5,cs)),t6,t7,(s,rl),(x:Int))=some (c',t2,t3,t4,(V,(n5,cs)),t6,(s',rl))/\Cur (k+2*d) c'/\s'.length<=4:=by
 intro d
 induction d with
 |zero=>
  intro f k x c s hx hf hc hk hs
  obtain⟨f,rfl⟩: ∃z,f=z+1:=⟨f-1,by omega⟩
  refine⟨c,s,?_,hc,by omega⟩
  simp only[Ay]
  rw[if_neg (show¬decide ((x:Int)<4)=true by simp;omega)]
  simp
 |succ d ih=>
  intro f k x c s hx hf hc hk hs
  obtain⟨f,rfl⟩: ∃z,f=z+1:=⟨f-1,by omega⟩
  simp only[Ay]
  by_cases h:(x:Int)<t7.1
  ·obtain⟨m,e1,m1,m2,m3⟩:=MZ V
   obtain⟨c1,y,e2,g2,_⟩:=D3 hc (by omega) m (by omega)
   have e2:Ah (c.1,(c.2.1,c.2.2)) m=_:=e2
   obtain⟨c',s',e3,g3,h3⟩:=ih f (k+2) (x+1) c1 (s++ [y]) (by omega) (by omega) g2 (by omega) (by simp;omega)
   refine⟨c',s',?_,g3.mono (by omega),h3⟩
   rw[if_pos (by simpa using h),if_pos (by simp;omega)]
   simp only[e1,Option.bind_some,e2]
   rw[if_pos (by rw[List.length_singleton];unfold lim;omega),Ac (by omega)]
   exact e3
  ·exact⟨c,s,by rw[if_neg (by simpa using h)],hc.mono (by omega),by omega⟩
theorem Nk {n V:Int} (hn:n<=100) (hV:V<=100) {rels:List AT} (hr:J2 rels) (t2:Net) (n5:Int): ∀(d f k:Nat) (c:D8) (cs:List Con),d<f->Cur k c->k+300*d<=90000->cs.length+d<=8->(∀c∈cs,conD 4 c)->
  ∃c' cs',AA f (c,t2,n,rels,(V,(n5,cs)),(d:Int))=some (c',t2,(V,(n5,cs')))/\Cur (k+300*d) c'/\cs'.length<=8/\ ∀c∈cs',conD 4 c:=by
 intro d
 induction d with
 |zero=>
  intro f k c cs hf hc hk ho hr
  obtain⟨f,rfl⟩: ∃z,f=z+1:=⟨f-1,by omega⟩
  refine⟨c,cs,?_,hc,by omega,hr⟩
  simp only[AA]
  rw[if_neg (by simp)]
 |succ d ih=>
  intro f k c cs hf hc hk ho hcs
  obtain⟨f,rfl⟩: ∃z,f=z+1:=⟨f-1,by omega⟩
  have ew:w64 (((d+1:Nat):Int)-1)=(d:Int):=by rw[AE (by omega) (by omega)];omega
  obtain⟨m,e0,m1,m2,m3⟩:=MZ n
  obtain⟨c1,x1,e1,g1,_⟩:=DU hc (by omega) (l:= [1,2,2,3]) (by simp) (by simp)
  have e1:Ad (c.1,(c.2.1,c.2.2)) [1,2,2,3]=_:=e1
  obtain⟨c2,r,e2,g2,h2⟩:=HQ (N:=m) (A:=x1) g1 (by omega) (by omega)
  have e2:BX (c1.1,(c1.2.1,c1.2.2)) m x1=_:=e2
  have hfin: ∀(k':Nat) (c3:D8) (r:Int×List (List Int)),Cur k' c3->k'<=k+290->rowsB 601 3 r.2->
    ∃c' cs',((Ay Aa (c3,t2,n,rels,(V,(n5,cs)),((d+1:Nat):Int),r,([],r),0)).bind λs10=>
     if s10.2.2.2.2.1.2.2.length+ [(s10.2.2.2.2.2.2.1,(s10.2.2.2.2.2.2.2.1,s10.2.2.2.2.2.2.2.2))].length<=lim then
      AA f ((s10.1.1,(s10.1.2.1,s10.1.2.2)),(s10.2.1.1,(s10.2.1.2.1,s10.2.1.2.2)),s10.2.2.1,s10.2.2.2.1,(s10.2.2.2.2.1.1,(s10.2.2.2.2.1.2.1,s10.2.2.2.2.1.2.2++ [(s10.2.2.2.2.2.2.1,(s10.2.2.2.2.2.2.2.1,s10.2.2.2.2.2.2.2.2))])),w64 (s10.2.2.2.2.2.1-1))
     else none)=some (c',t2,(V,(n5,cs')))/\Cur (k+300*(d+1)) c'/\cs'.length<=8/\ ∀c∈cs',conD 4 c:=by
   intro k' c3 r hc3 hk' hr3
   obtain⟨c4,s,e4,g4,h4⟩:=MF hV t2 n rels n5 cs ((d+1:Nat):Int) r r 4 Aa k' 0 c3 [] (by omega) (by unfold Aa;omega) hc3 (by omega) rfl
   have e4:Ay Aa (c3,t2,n,rels,(V,(n5,cs)),((d+1:Nat):Int),r,([],r),0)=_:=e4
   obtain⟨c',cs',e5,g5,h5,h6⟩:=ih f (k'+8) c4 (cs++ [(s,r)]) (by omega) g4 (by omega) (by simp;omega) (λq hq=>by
    rcases List.mem_append.1 hq with hq|hq
    ·exact hcs q hq
    ·rw[List.mem_singleton.1 hq];exact⟨h4,hr3⟩)
   refine⟨c',cs',?_,g5.mono (by omega),h5,h6⟩
   rw[e4]
   simp only[Option.bind_some]
   rw[if_pos (by rw[List.length_singleton];unfold lim;omega)]
   simp only[ew]
   exact e5
  simp only[AA,e0,e1,e2,Option.bind_some]
  rw[if_pos (show decide ((((d+1:Nat):Int))>0)=true by simp)]
  by_cases hl:0<rels.length
  ·rw[if_pos (show decide ((rels.length:Int)>0)=true by simp;omega)]
   obtain⟨c3,x3,e3,g3⟩:=HG g2 (by omega) 5 (by omega)
   have e3:Ao (c2.1,(c2.2.1,c2.2.2)) 5=_:=e3
   simp only[e3,Option.bind_some]
   cases x3 with
   |true=>
    simp only[Bool.not_true,Bool.false_eq_true,if_false]
    exact hfin _ _ r g3 (by omega) h2
   |false=>
    simp only[Bool.not_false,if_true]
    have hrl:=hr.1
    obtain⟨c4,x4,e4,g4,h40,h41,_⟩:=D3 g3 (by omega) (rels.length:Int) (by omega)
    have e4:Ah (c3.1,(c3.2.1,c3.2.2)) (rels.length:Int)=_:=e4
    obtain⟨x,rfl⟩: ∃x:Nat,x4=(x:Int):=⟨x4.toNat,by omega⟩
    have hx:x<rels.length:=by have:=h41 (by omega);omega
    simp only[e4,Option.bind_some,Ae,hx,if_true,Af hx]
    exact hfin _ _ rels[x] g4 (by omega) (hr.2 _ (List.getElem_mem hx))
  ·rw[if_neg (show¬decide ((rels.length:Int)>0)=true by rw[decide_eq_true_eq];omega)]
   exact hfin _ _ r g2 (by omega) h2
theorem MG {W:Nat} {c:D8} {t2:Net} {V n T:Int} (hT:T<=41): ∀(d f:Nat) (cs:List Con),cs.length+d=41->d<f->(∀c∈cs,conD W c)->
  ∃cs',Bp f (c,t2,(V,(n,cs)),T)=some (c,t2,(V,(n,cs')))/\cs'.length<=41/\ ∀c∈cs',conD W c:=by
 intro d
 induction d with
 |zero=>
  intro f cs hl hf hc
  obtain⟨f,rfl⟩: ∃z,f=z+1:=⟨f-1,by omega⟩
  refine⟨cs,?_,by omega,hc⟩
  simp only[Bp]
  rw[if_neg (show¬decide ((cs.length:Int)<T)=true by rw[decide_eq_true_eq];omega)]
  simp
 |succ d ih=>
  intro f cs hl hf hc
  obtain⟨f,rfl⟩: ∃z,f=z+1:=⟨f-1,by omega⟩
  simp only[Bp]
  by_cases h0:0<cs.length
  ·rw[if_pos (show decide ((cs.length:Int)>0)=true by simp;omega)]
   by_cases h1:(cs.length:Int)<T
   ·rw[if_pos (by simpa using h1)]
    have hi:inb 0 cs:=by unfold inb;omega
    have hg:gd cs 0 ([],(0,[]))=cs[0]:=Af (k:=0) h0
    obtain⟨cs',e,h2,h3⟩:=ih f (cs++ [cs[0]]) (by simp;omega) (by omega) (λq hq=>by
     rcases List.mem_append.1 hq with hq|hq
     ·exact hc q hq
     ·rw[List.mem_singleton.1 hq];exact hc _ (List.getElem_mem h0))
    refine⟨cs',?_,h2,h3⟩
    rw[if_pos hi,if_pos (by rw[List.length_singleton];unfold lim;omega)]
    simp only[hg]
    exact e
   ·exact⟨cs,by rw[if_neg (by simpa using h1)],by omega,hc⟩
  ·exact⟨cs,by rw[if_neg (by rw[decide_eq_true_eq];omega)],by omega,hc⟩
theorem It {k:Nat} {c:D8} (hc:Cur k c) (hk:k<=5000): ∃c' a,Dg c=some (c',a)/\Cur (k+5000) c'/\JX a:=by
 obtain⟨c1,n,rels,e1,g1,n0,n1,hr⟩:=J8 hc (by omega)
 have e1:CX (c.1,(c.2.1,c.2.2))=_:=e1
 obtain⟨c2,V,e2,g2,hV⟩:=DU g1 (by omega) (l:= [1,2,3,3,4,4,5,6]) (by simp) (by simp)
 have e2:Ad (c1.1,(c1.2.1,c1.2.2)) [1,2,3,3,4,4,5,6]=_:=e2
 obtain⟨c3,m,e3,g3,hm⟩:=DU g2 (by omega) (l:= [0,1,2,3,4,5,6,8]) (by simp) (by simp)
 have e3:Ad (c2.1,(c2.2.1,c2.2.2)) [0,1,2,3,4,5,6,8]=_:=e3
 have hV':1<=V/\V<=6:=by simp at hV;omega
 obtain⟨m,rfl⟩: ∃z:Nat,m=(z:Int):=⟨m.toNat,by simp at hm;omega⟩
 have hm':m<=8:=by simp at hm;omega
 obtain⟨c4,cs,e4,g4,h4,h5⟩:=Nk (n:=n) (V:=V) (by omega) (by omega) hr (0,(0,[])) n m Aa _ c3 [] (by unfold Aa;omega) g3 (by omega) (by simpa using hm') (by simp)
 have e4:AA Aa ((c3.1,(c3.2.1,c3.2.2)),(0,(0,[])),n,rels,(V,(n,[])),(m:Int))=_:=e4
 obtain⟨c5,x5,e5,g5,h50,h51,_⟩:=D3 g4 (by omega) 40 (by omega)
 have e5:Ah (c4.1,(c4.2.1,c4.2.2)) 40=_:=e5
 unfold Dg
 simp only[e1,e2,e3,e4,e5,Option.bind_some]
 by_cases b0:x5=0
 ·obtain⟨c6,x6,e6,g6,hm6⟩:=DU g5 (by omega) (l:= [(-1),0,9,10]) (by simp) (by simp)
  have e6:Ad (c5.1,(c5.2.1,c5.2.2)) [(-1),0,9,10]=_:=e6
  rw[if_pos (by simpa using b0)]
  simp only[e6,Option.bind_some]
  refine⟨_,_,rfl,g6.mono (by omega),?_⟩
  have: -1<=x6/\x6<=10:=by simp at hm6;omega
  exact⟨this.1,this.2,n0,n1,by dsimp only;omega,λq hq=>(h5 q hq).mono (by omega)⟩
 ·rw[if_neg (by simpa using b0)]
  by_cases b1:x5=1
  ·rw[if_pos (by simpa using b1)]
   by_cases hl:0<cs.length
   ·have hi:inb 0 cs:=by unfold inb;omega
    have hg:gd cs 0 ([],(0,[]))=cs[0]:=Af (k:=0) hl
    have h0:=h5 _ (List.getElem_mem hl)
    have h1:((gd cs 0 ([],(0,[]))).1).length+ [(0:Nat)].length<=lim:=by
     rw[hg,List.length_singleton];have:=h0.1;unfold lim;omega
    rw[if_pos (show decide ((cs.length:Int)>0)=true by simp;omega),if_pos hi]
    simp only[hg]at h1⊢
    rw[if_pos h1,if_pos hi]
    simp only[if_true]
    refine⟨_,_,rfl,g5.mono (by omega),by dsimp only;omega,by dsimp only;omega,n0,n1,by dsimp only[stt];rw[List.length_set];omega,λq hq=>?_⟩
    rcases List.mem_or_eq_of_mem_set hq with hq|rfl
    ·exact(h5 q hq).mono (by omega)
    ·exact⟨by have:=h0.1;simp;omega,h0.2⟩
   ·rw[if_neg (by rw[decide_eq_true_eq];omega)]
    exact⟨_,_,rfl,g5.mono (by omega),by dsimp only;omega,by dsimp only;omega,n0,n1,by dsimp only;omega,λq hq=>(h5 q hq).mono (by omega)⟩
  ·rw[if_neg (by simpa using b1)]
   by_cases b2:x5=2
   ·rw[if_pos (by simpa using b2)]
    obtain⟨c6,x6,e6,g6,h60,h61,_⟩:=D3 g5 (by omega) 2 (by omega)
    have e6:Ah (c5.1,(c5.2.1,c5.2.2)) 2=_:=e6
    have h61:=h61 (by omega)
    have ew:w64 (40+x6)=40+x6:=AE (by omega) (by omega)
    obtain⟨cs',e7,h7,h8⟩:=MG (c:=c6) (t2:=(0,(0,[]))) (V:=V) (n:=n) (T:=40+x6) (by omega) (41-cs.length) Aa cs (by omega) (by unfold Aa;omega) h5
    have e7:Bp Aa ((c6.1,(c6.2.1,c6.2.2)),(0,(0,[])),(V,(n,cs)),40+x6)=_:=e7
    simp only[e6,Option.bind_some,ew,e7]
    exact⟨_,_,rfl,g6.mono (by omega),by dsimp only;omega,by dsimp only;omega,n0,n1,h7,λq hq=>(h8 q hq).mono (by omega)⟩
   ·rw[if_neg (by simpa using b2)]
    exact⟨_,_,rfl,g5.mono (by omega),by dsimp only;omega,by dsimp only;omega,n0,n1,by dsimp only;omega,λq hq=>(h5 q hq).mono (by omega)⟩
end T
open Go Go.Va
namespace T
theorem JA {a:Net} (hb:CE a=true): ∃(V n:Nat) (cs:List Con),a=((V:Int),((n:Int),cs))/\SrchOk V n cs:=by
 have hN:=EX hb
 obtain⟨v,nn,cs⟩:=a
 have hv:=hN.hv
 have hn:=hN.hn
 have hc:=hN.hc
 have hcon:=hN.con
 dsimp only at hv hn hc hcon
 obtain⟨V,rfl⟩: ∃V:Nat,v=(V:Int):=⟨v.toNat,by omega⟩
 obtain⟨n,rfl⟩: ∃n:Nat,nn=(n:Int):=⟨nn.toNat,by omega⟩
 exact⟨V,n,cs,rfl,by omega,by omega,hc,hcon⟩
end T
open Go Go.Va
namespace T
section
variable {V n:Nat} {cs:List Con} {t:List Int} {a:Net}
theorem L6 (hS:SrchOk V n cs):t∈Fq V n cs (List.replicate V (-1))↔t.length=V/\(∀u,u<V->0<=t.getD u 0/\t.getD u 0<(n:Int))/\ ∀c∈cs,EH t c=true:=by
 unfold Fq
 rw[H4]
 simp only[List.length_nil,Nat.zero_add,List.take_zero,true_and,Nat.zero_le,true_implies]
 constructor
 ·rintro ⟨h1,h2⟩
  refine⟨h1,λu hu=>(h2 u (by omega)).1,λc hc=>?_⟩
  have hm:c∈A9 cs (DG c):=GT.2 ⟨hc,rfl⟩
  have hlt:=(Hh hS hm).2
  have:=(h2 (DG c) (by omega)).2.2
  rw[Iv hS (by omega),List.all_eq_true]at this
  exact this c hm
 ·rintro ⟨h1,h2,h3⟩
  refine⟨h1,λq hq=>⟨by have:=h2 q (by omega);omega,LU (by omega),?_⟩⟩
  rw[Iv hS hq,List.all_eq_true]
  exact λc hc=>h3 c (GT.1 hc).1
end
end T
open Go Go.Va
namespace T
section
variable {V n:Nat} {cs:List Con} {a:Net}
def asB (a:Net) (v:List Int):Bool:=decide ((v.length:Int)=a.1)&&BK a.2.1 v
theorem Gt {v:List Int} (hl:v.length<=1048576):CO a v=some (asB a v):=by
 unfold CO asB
 by_cases h:(v.length:Int)=a.1
 ·rw[if_pos (by simpa using h),Er _ (by omega),decide_eq_true h];rfl
 ·rw[if_neg (by simpa using h),decide_eq_false h];rfl
theorem GW {v:List Int} (hl:v.length<=1048576) (hn:0<=a.2.1/\a.2.1<=100):C7 a v=some (asB a v):=by
 unfold C7 asB
 by_cases h:(v.length:Int)=a.1
 ·rw[if_pos (by simpa using h),Ei (by omega) (by omega) (by omega),decide_eq_true h];rfl
 ·rw[if_neg (by simpa using h),decide_eq_false h];rfl
def fuV (a:Net) (v:List Int):Int×Bool:=if CE a&&asB a v then(if IK a v<0 then(0,false)else(IK a v,true))else(0,false)
def isV (a:Net) (v:List Int):Bool×Bool:=if CE a&&asB a v then(decide (IK a v<0),true)else(false,false)
theorem L1 (h:HF a) {v:List Int} (hl:v.length<=1048576):
  EE a v=some (fuV a v)/\EF a v=some (fuV a v)/\Bd a v=some (isV a v)/\Ge a v=some (isV a v):=by
 unfold EE EF Bd Ge fuV isV
 rw[Cb (a:=(a.1,(a.2.1,a.2.2))) h,Dl (a:=(a.1,(a.2.1,a.2.2))) h]
 rw[show CE (a.1,(a.2.1,a.2.2))=CE a from rfl]
 cases hb:CE a with
 |false=>simp
 |true=>
  have hN:=EX hb
  have hn:=hN.hn
  have e1:CO (a.1,(a.2.1,a.2.2)) v=_:=Gt (a:=a) hl
  have e2:C7 (a.1,(a.2.1,a.2.2)) v=_:=GW (a:=a) hl (by omega)
  simp only[Option.bind_some,Bool.not_true,Bool.false_eq_true,if_false,e1,e2,Bool.true_and]
  cases hA:asB a v with
  |false=>simp
  |true=>
   have hv:(v.length:Int)=a.1:=by
    unfold asB at hA
    rw[Bool.and_eq_true]at hA
    exact of_decide_eq_true hA.1
   simp only[Option.bind_some,Bool.not_true,Bool.false_eq_true,if_false,if_true,GV hN hv,HL hN hv,decide_eq_true_eq]
   by_cases hf:IK a v<0<;>simp[hf]
end
end T
set_option linter.unusedVariables false
open Go Go.Va
namespace T
def Bv:Nat->((List Int)×(Int×Int×(List ((List Int)×Int×(List (List Int)))))×(List Int)×Int×Int)->Option (((List Int)×(Int×Int×(List ((List Int)×Int×(List (List Int))))))⊕((List Int)×Bool))
 |0,_=>none
 |n+1,(partial_,net,t20,t21,t22)=>
 if decide (t22<t21)then
 if inb t22 t20 then
 if decide ((gd t20 t22 0)<(-1))then
 some (.inr ([],false))
 else
 if decide ((gd t20 t22 0)≥net.2.1)then
 some (.inr ([],false))
 else
 Bv n (partial_,(net.1,(net.2.1,net.2.2)),t20,t21,w64 (t22+1))
 else none
 else
 some (.inl (partial_,(net.1,(net.2.1,net.2.2))))
def AM (net:Int×Int×(List ((List Int)×Int×(List (List Int))))) (partial_:List Int):Option ((List Int)×Bool):=
 (BT (net.1,(net.2.1,net.2.2))).bind λr1=>
  if !r1 then
   some ([],false)
  else
   if(partial_.length:Int) !=net.1 then
    some ([],false)
   else
    (Bv Aa (partial_,(net.1,(net.2.1,net.2.2)),partial_,(partial_.length:Int),0)).bind λs2=>
     match s2 with
     | .inl s3=>
      (Ed (s3.2.1,(s3.2.2.1,s3.2.2.2)) s3.1).bind λr5=>
       if !r5.1 then
        some ([],false)
       else
        some (r5.2,true)
     | .inr s4=>
      some (s4.1,s4.2)
end T
open Go Go.Va
namespace T
section
variable {a:Net} {V n:Nat} {cs:List Con}
def GX (acc:List AT) (c:Con):List AT:=if c.2∈acc then acc else acc++ [c.2]
def E2 (cs:List Con):List AT:=cs.foldl GX []
theorem Ko {k:Nat} (hk:k<cs.length):E2 (cs.take (k+1))=GX (E2 (cs.take k)) cs[k]:=by
 unfold E2
 rw[List.take_succ_eq_append_getElem hk,List.foldl_append];rfl
theorem KY {acc:List AT} {c:Con} {r:AT}:r∈GX acc c↔r∈acc∨r=c.2:=by
 unfold GX
 split
 ·constructor
  ·exact .inl
  ·rintro (h|rfl)
   ·exact h
   ·assumption
 ·simp
theorem I2 {r:AT}: ∀(cs:List Con) (acc:List AT),r∈cs.foldl GX acc↔r∈acc∨ ∃c∈cs,r=c.2
 | [],acc=>by simp
 |c::cs,acc=>by
  rw[List.foldl_cons,I2 cs,KY]
  simp only[List.mem_cons,exists_eq_or_imp]
  constructor
  ·rintro ((h|h)|h)
   ·exact .inl h
   ·exact .inr (.inl h)
   ·exact .inr (.inr h)
  ·rintro (h|h|h)
   ·exact .inl (.inl h)
   ·exact .inl (.inr h)
   ·exact .inr h
theorem HI {r:AT}:r∈E2 cs↔ ∃c∈cs,r=c.2:=by
 unfold E2
 rw[I2];simp
theorem KX {acc:List AT} {c:Con}:(GX acc c).length<=acc.length+1:=by
 unfold GX;split
 ·omega
 ·simp
theorem I1: ∀(cs:List Con) (acc:List AT),(cs.foldl GX acc).length<=acc.length+cs.length
 | [],acc=>by simp
 |c::cs,acc=>by
  have:=I1 cs (GX acc c)
  have:=KX (acc:=acc) (c:=c)
  rw[List.foldl_cons,List.length_cons];omega
theorem Jd:(E2 cs).length<=cs.length:=by
 have:=I1 cs []
 simpa[E2]using this
def KJ (a:Net) (p:List Int):Bool:=decide ((p.length:Int)=a.1)&&p.all λx=>decide (-1<=x/\x<a.2.1)
def fsV (a:Net) (p:List Int):List Int×Bool:=
 if CE a&&KJ a p then(match Fq a.1.toNat a.2.1.toNat a.2.2 p with| []=>([],false)|t::_=>(t,true))else([],false)
theorem Gg (h:HF a) {p:List Int} (hl:p.length<=1048576):AM a p=some (fsV a p):=by
 unfold AM fsV
 rw[Cb (a:=(a.1,(a.2.1,a.2.2))) h]
 rw[show CE (a.1,(a.2.1,a.2.2))=CE a from rfl]
 cases hb:CE a with
 |false=>simp
 |true=>
  simp only[Option.bind_some,Bool.not_true,Bool.false_eq_true,if_false,Bool.true_and]
  unfold KJ
  by_cases he:(p.length:Int)=a.1
  ·rw[if_neg (by simpa using he),decide_eq_true he]
   have:=FR p (λf i=>Bv f (p,a,p,(p.length:Int),i)) (λx=>decide (-1<=x/\x<a.2.1)) (.inr ([],false)) (.inl (p,a)) (λf k hk=>?_) (λf=>?_) (n:=Aa) (by unfold Aa;omega)
   ·have this:Bv Aa (p,(a.1,(a.2.1,a.2.2)),p,(p.length:Int),0)=_:=this
    rw[this]
    cases hp:p.all λx=>decide (-1<=x/\x<a.2.1)with
    |false=>simp
    |true=>
     obtain⟨V,n,cs,rfl,hS⟩:=JA hb
     have e:=JL hS (given:=p) (by dsimp only at he;omega)
     simp only[Option.bind_some,if_true,e,Bool.and_self,Int.toNat_natCast]
     cases Fq V n cs p with
     |nil=>simp[Jl]
     |cons t l=>simp[Jl]
   ·simp only[Bv,Ae,hk,Af hk,if_true,Ac (show k<4611686018427387904 by omega)]
    rw[if_pos (by rw[decide_eq_true_eq];omega)]
    by_cases h1:p[k]< -1
    ·rw[if_pos (decide_eq_true h1),if_neg (by rw[decide_eq_true_eq];omega)]
    ·rw[if_neg (by simpa using h1)]
     by_cases h2:p[k]≥a.2.1
     ·rw[if_pos (decide_eq_true h2),if_neg (by rw[decide_eq_true_eq];omega)]
     ·rw[if_neg (by simpa using h2),if_pos (by rw[decide_eq_true_eq];omega)]
   ·simp only[Bv]
    rw[if_neg (by simp)]
  ·rw[if_pos (by simpa using he),decide_eq_false he];simp
theorem Ld (hb:CE a=true):KJ a (List.replicate a.1.toNat (-1))=true:=by
 have hN:=EX hb
 have hv:=hN.hv
 have hn:=hN.hn
 unfold KJ
 rw[Bool.and_eq_true,decide_eq_true_eq,List.all_eq_true]
 refine⟨by simp;omega,λx hx=>?_⟩
 rw[List.eq_of_mem_replicate hx]
 exact decide_eq_true (by omega)
end
end T
open Go Go.Va
namespace T
section
variable {a:Net} {V n:Nat} {cs:List Con} {vals x y:List Int}
theorem Mx (h: ∀c∈a.2.2,EH vals c=true):IK a vals<0:=by
 unfold IK
 cases hf:(List.range' 0 a.2.2.length).find? (λk=>!EH vals (a.2.2.getD k FU))with
 |none=>simp
 |some k=>
  have h1:=List.find?_some hf
  have h2:=List.mem_of_find?_eq_some hf
  rw[List.mem_range'_1]at h2
  have hk:k<a.2.2.length:=by omega
  rw[Ag hk]at h1
  have:=h _ (List.getElem_mem hk)
  rw[this]at h1;simp at h1
theorem JT (hb:CE a=true) (hA:asB a vals=true) (h: ∀c∈a.2.2,EH vals c=true):isV a vals=(true,true):=by
 unfold isV
 rw[hb,hA,Bool.and_self,if_pos rfl,decide_eq_true (Mx h)]
theorem Lq (hl:vals.length=V) (hv: ∀u,u<V->0<=vals.getD u 0/\vals.getD u 0<(n:Int)):asB ((V:Int),((n:Int),cs)) vals=true:=by
 unfold asB BK
 rw[Bool.and_eq_true,decide_eq_true_eq,List.all_eq_true]
 refine⟨by dsimp only;omega,λx hx=>?_⟩
 obtain⟨u,hu,rfl⟩:=List.mem_iff_getElem.1 hx
 have:=hv u (by omega)
 rw[Ag hu]at this
 exact decide_eq_true this
theorem Nw {i j:Nat} (hi:i<n) (hj:j<n):i*n+j<n^2:=by
 have:(i+1)*n<=n*n:=Nat.mul_le_mul_right _ hi
 rw[Nat.succ_mul]at this
 rw[Nat.pow_two];omega
end
end T
open Go Go.Va
namespace T
section
variable {a:Net} {V n:Nat} {cs:List Con} {vals x y:List Int}
theorem Kj {a:Net} (h:JX a) {c:Con} (hc:c∈a.2.2):c.2.2.length<=1048576/\ ∀t∈c.2.2,t.length<=1048576:=by
 have h1:=(h.2.2.2.2.2 c hc).2
 exact⟨by have:=h1.1;omega,λt ht=>by have:=h1.2 t ht;omega⟩
theorem ML (hD:JX a) {k:Nat}: ∀r∈E2 (a.2.2.take k),r.2.length<=1048576/\ ∀t∈r.2,t.length<=1048576:=λr hr=>by
 obtain⟨c,hc,rfl⟩:=HI.1 hr
 exact Kj hD (List.mem_of_mem_take hc)
theorem MM (hD:JX a):Je (E2 a.2.2):=⟨by have:=Jd (cs:=a.2.2);have:=hD.2.2.2.2.1;omega,λr hr=>by
 obtain⟨c,hc,rfl⟩:=HI.1 hr
 have:=Kj hD hc
 exact⟨this.1,this.2⟩⟩
end
end T
set_option linter.unusedVariables false
open Go Go.Va
namespace T
def Az:Nat->((Int×(Int×(List ((List Int)×Int×(List (List Int))))))×(Int×(List Int))×((List Int)×Int×Int)×(Int×Int×(List ((List Int)×Int×(List (List Int)))))×(List (Int×(List (List Int))))×Int)->Option ((Int×(Int×(List ((List Int)×Int×(List (List Int))))))×(Int×(List Int))×((List Int)×Int×Int)×(Int×Int×(List ((List Int)×Int×(List (List Int)))))×(List (Int×(List (List Int)))))
 |0,_=>none
 |n+1,(t2,t3,t4,t5,t6,t7)=>
 if decide (t7<(t5.2.2.length:Int))then
 if decide (t7<4)then
 if inb t7 t5.2.2 then
 if t6.length+ [(gd t5.2.2 t7 ([],(0,[]))).2].length<=lim then
 Az n ((t2.1,(t2.2.1,t2.2.2)),(t3.1,t3.2),(t4.1,(t4.2.1,t4.2.2)),(t5.1,(t5.2.1,t5.2.2)),t6++ [(gd t5.2.2 t7 ([],(0,[]))).2],w64 (t7+1))
 else none
 else none
 else
 some ((t2.1,(t2.2.1,t2.2.2)),(t3.1,t3.2),(t4.1,(t4.2.1,t4.2.2)),(t5.1,(t5.2.1,t5.2.2)),t6)
 else
 some ((t2.1,(t2.2.1,t2.2.2)),(t3.1,t3.2),(t4.1,(t4.2.1,t4.2.2)),(t5.1,(t5.2.1,t5.2.2)),t6)
def An:Nat->((Int×(Int×(List ((List Int)×Int×(List (List Int))))))×(Int×(List Int))×((List Int)×Int×Int)×(Int×Int×(List ((List Int)×Int×(List (List Int)))))×(Int×(List Int))×Int)->Option ((Int×(Int×(List ((List Int)×Int×(List (List Int))))))×(Int×(List Int))×((List Int)×Int×Int)×(Int×Int×(List ((List Int)×Int×(List (List Int)))))×(Int×(List Int)))
 |0,_=>none
 |n+1,(t2,t3,t4,t5,t10,t11)=>
 if decide (t11<(w64 (t5.2.1*t5.2.1)))then
 if decide (t11<25)then
 (Ah (t4.1,(t4.2.1,t4.2.2)) t5.2.1).bind λr7=>
 if t10.2.length+ [r7.2].length<=lim then
 An n ((t2.1,(t2.2.1,t2.2.2)),(t3.1,t3.2),(r7.1.1,(r7.1.2.1,r7.1.2.2)),(t5.1,(t5.2.1,t5.2.2)),(t10.1,t10.2++ [r7.2]),w64 (t11+1))
 else none
 else
 some ((t2.1,(t2.2.1,t2.2.2)),(t3.1,t3.2),(t4.1,(t4.2.1,t4.2.2)),(t5.1,(t5.2.1,t5.2.2)),(t10.1,t10.2))
 else
 some ((t2.1,(t2.2.1,t2.2.2)),(t3.1,t3.2),(t4.1,(t4.2.1,t4.2.2)),(t5.1,(t5.2.1,t5.2.2)),(t10.1,t10.2))
def C6 (t0:List Int):Option ((Int×Int×(List ((List Int)×Int×(List (List Int)))))×(Int×(List Int))):=
 (Dg (t0,(0,0))).bind λr1=>
 (Az Aa ((0,(0,[])),(0,[]),(r1.1.1,(r1.1.2.1,r1.1.2.2)),(r1.2.1,(r1.2.2.1,r1.2.2.2)),[],0)).bind λs2=>
 (Ey s2.2.2.2.1.2.1).bind λr3=>
 if r3 then
 (Ex s2.2.2.2.1.2.1 s2.2.2.2.2).bind λr4=>
 if r4 then
 (Ao (s2.2.2.1.1,(s2.2.2.1.2.1,s2.2.2.1.2.2)) 3).bind λr5=>
 if !r5.2 then
 (BI s2.2.2.2.1.2.1 s2.2.2.2.2).bind λr6=>
 if r6.2 then
 some ((s2.2.2.2.1.1,(s2.2.2.2.1.2.1,s2.2.2.2.1.2.2)),(r6.1.1,r6.1.2))
 else
 (An Aa ((s2.1.1,(s2.1.2.1,s2.1.2.2)),(s2.2.1.1,s2.2.1.2),(r5.1.1,(r5.1.2.1,r5.1.2.2)),(s2.2.2.2.1.1,(s2.2.2.2.1.2.1,s2.2.2.2.1.2.2)),(2,[]),0)).bind λs7=>
 (Ao (s7.2.2.1.1,(s7.2.2.1.2.1,s7.2.2.1.2.2)) 20).bind λr8=>
 if r8.2 then
 (Ad (r8.1.1,(r8.1.2.1,r8.1.2.2)) [1,3]).bind λr9=>
 some ((s7.2.2.2.1.1,(s7.2.2.2.1.2.1,s7.2.2.2.1.2.2)),(r9.2,s7.2.2.2.2.2))
 else
 some ((s7.2.2.2.1.1,(s7.2.2.2.1.2.1,s7.2.2.2.1.2.2)),(s7.2.2.2.2.1,s7.2.2.2.2.2))
 else
 (An Aa ((s2.1.1,(s2.1.2.1,s2.1.2.2)),(s2.2.1.1,s2.2.1.2),(r5.1.1,(r5.1.2.1,r5.1.2.2)),(s2.2.2.2.1.1,(s2.2.2.2.1.2.1,s2.2.2.2.1.2.2)),(2,[]),0)).bind λs10=>
 (Ao (s10.2.2.1.1,(s10.2.2.1.2.1,s10.2.2.1.2.2)) 20).bind λr11=>
 if r11.2 then
 (Ad (r11.1.1,(r11.1.2.1,r11.1.2.2)) [1,3]).bind λr12=>
 some ((s10.2.2.2.1.1,(s10.2.2.2.1.2.1,s10.2.2.2.1.2.2)),(r12.2,s10.2.2.2.2.2))
 else
 some ((s10.2.2.2.1.1,(s10.2.2.2.1.2.1,s10.2.2.2.1.2.2)),(s10.2.2.2.2.1,s10.2.2.2.2.2))
 else
 (An Aa ((s2.1.1,(s2.1.2.1,s2.1.2.2)),(s2.2.1.1,s2.2.1.2),(s2.2.2.1.1,(s2.2.2.1.2.1,s2.2.2.1.2.2)),(s2.2.2.2.1.1,(s2.2.2.2.1.2.1,s2.2.2.2.1.2.2)),(2,[]),0)).bind λs13=>
 (Ao (s13.2.2.1.1,(s13.2.2.1.2.1,s13.2.2.1.2.2)) 20).bind λr14=>
 if r14.2 then
 (Ad (r14.1.1,(r14.1.2.1,r14.1.2.2)) [1,3]).bind λr15=>
 some ((s13.2.2.2.1.1,(s13.2.2.2.1.2.1,s13.2.2.2.1.2.2)),(r15.2,s13.2.2.2.2.2))
 else
 some ((s13.2.2.2.1.1,(s13.2.2.2.1.2.1,s13.2.2.2.1.2.2)),(s13.2.2.2.2.1,s13.2.2.2.2.2))
 else
 (An Aa ((s2.1.1,(s2.1.2.1,s2.1.2.2)),(s2.2.1.1,s2.2.1.2),(s2.2.2.1.1,(s2.2.2.1.2.1,s2.2.2.1.2.2)),(s2.2.2.2.1.1,(s2.2.2.2.1.2.1,s2.2.2.2.1.2.2)),(2,[]),0)).bind λs16=>
 (Ao (s16.2.2.1.1,(s16.2.2.1.2.1,s16.2.2.1.2.2)) 20).bind λr17=>
 if r17.2 then
 (Ad (r17.1.1,(r17.1.2.1,r17.1.2.2)) [1,3]).bind λr18=>
 some ((s16.2.2.2.1.1,(s16.2.2.2.1.2.1,s16.2.2.2.1.2.2)),(r18.2,s16.2.2.2.2.2))
 else
 some ((s16.2.2.2.1.1,(s16.2.2.2.1.2.1,s16.2.2.2.1.2.2)),(s16.2.2.2.2.1,s16.2.2.2.2.2))
def AK (code:List Int):Option ((Int×Int×(List ((List Int)×Int×(List (List Int)))))):=
 (Fs code).bind λr1=>
 some (r1.1,(r1.2.1,r1.2.2))
def AO:Nat->((List Int)×(Int×Int×(List ((List Int)×Int×(List (List Int)))))×(List (Int×(List (List Int))))×Int×Bool×Int)->Option ((List Int)×(Int×Int×(List ((List Int)×Int×(List (List Int)))))×(List (Int×(List (List Int))))×Int×Bool)
 |0,_=>none
 |n+1,(t0,t3,t9,t10,t11,t12)=>
 if decide (t12<(t9.length:Int))then
 if t11 then
 AO n (t0,(t3.1,(t3.2.1,t3.2.2)),t9,t10,true,w64 (t12+1))
 else
 if inb t12 t9 then
 if inb t10 t3.2.2 then
 if((gd t9 t12 (0,[])).1)==(((gd t3.2.2 t10 ([],(0,[]))).2).1)then
 if inb t12 t9 then
 if inb t10 t3.2.2 then
 (Gz ((gd t9 t12 (0,[])).2) (((gd t3.2.2 t10 ([],(0,[]))).2).2)).bind λr6=>
 AO n (t0,(t3.1,(t3.2.1,t3.2.2)),t9,t10,r6,w64 (t12+1))
 else none
 else none
 else
 AO n (t0,(t3.1,(t3.2.1,t3.2.2)),t9,t10,false,w64 (t12+1))
 else none
 else none
 else
 some (t0,(t3.1,(t3.2.1,t3.2.2)),t9,t10,t11)
def Bb:Nat->((List Int)×(Int×Int×(List ((List Int)×Int×(List (List Int)))))×(List (Int×(List (List Int))))×Int)->Option ((List Int)×(Int×Int×(List ((List Int)×Int×(List (List Int)))))×(List (Int×(List (List Int)))))
 |0,_=>none
 |n+1,(t0,t3,t9,t10)=>
 if decide (t10<(t3.2.2.length:Int))then
 (AO Aa (t0,(t3.1,(t3.2.1,t3.2.2)),t9,t10,false,0)).bind λs6=>
 if !s6.2.2.2.2 then
 if inb s6.2.2.2.1 s6.2.1.2.2 then
 if s6.2.2.1.length+ [(gd s6.2.1.2.2 s6.2.2.2.1 ([],(0,[]))).2].length<=lim then
 Bb n (s6.1,(s6.2.1.1,(s6.2.1.2.1,s6.2.1.2.2)),s6.2.2.1++ [(gd s6.2.1.2.2 s6.2.2.2.1 ([],(0,[]))).2],w64 (s6.2.2.2.1+1))
 else none
 else none
 else
 Bb n (s6.1,(s6.2.1.1,(s6.2.1.2.1,s6.2.1.2.2)),s6.2.2.1,w64 (s6.2.2.2.1+1))
 else
 some (t0,(t3.1,(t3.2.1,t3.2.2)),t9)
def Aw:Nat->((Int×Int×(List ((List Int)×Int×(List (List Int)))))×(Int×(Int×(List ((List Int)×Int×(List (List Int))))))×(List Int)×Int)->Option ((Int×Int×(List ((List Int)×Int×(List (List Int)))))×(Int×(Int×(List ((List Int)×Int×(List (List Int))))))×(List Int))
 |0,_=>none
 |n+1,(t25,t26,t30,t31)=>
 if decide (t31<t25.1)then
 if t30.length+ [(-1)].length<=lim then
 Aw n ((t25.1,(t25.2.1,t25.2.2)),(t26.1,(t26.2.1,t26.2.2)),t30++ [(-1)],w64 (t31+1))
 else none
 else
 some ((t25.1,(t25.2.1,t25.2.2)),(t26.1,(t26.2.1,t26.2.2)),t30)
def Gy (t0:List Int):Option (Bool):=
 (I7 t0).bind λr1=>
 if r1 then
 some true
 else
 (C6 t0).bind λr2=>
 (BV (r2.1.1,(r2.1.2.1,r2.1.2.2)) (r2.2.1,r2.2.2)).bind λr3=>
 (CV (r2.1.1,(r2.1.2.1,r2.1.2.2)) (r2.2.1,r2.2.2)).bind λr4=>
 if r3.2 !=r4.2 then
 some false
 else
 (Fo r3.1 r4.1).bind λr5=>
 if !r5 then
 some false
 else
 (Bb Aa (t0,(r2.1.1,(r2.1.2.1,r2.1.2.2)),[],0)).bind λs6=>
 (BT (s6.2.1.1,(s6.2.1.2.1,s6.2.1.2.2))).bind λr7=>
 if r7 then
 if decide ((s6.2.2.length:Int)<=4)then
 (Ci s6.2.1.2.1 s6.2.2).bind λr8=>
 (BI s6.2.1.2.1 s6.2.2).bind λr9=>
 if r8.2 !=r9.2 then
 some false
 else
 (Hm (r8.1.1,r8.1.2) (r9.1.1,r9.1.2)).bind λr10=>
 if !r10 then
 some false
 else
 (D0 (s6.2.1.1,(s6.2.1.2.1,s6.2.1.2.2))).bind λr11=>
 (D4 (s6.2.1.1,(s6.2.1.2.1,s6.2.1.2.2))).bind λr12=>
 if r11.1 !=r12.1 then
 some false
 else
 if r11.2 !=r12.2 then
 some false
 else
 if r8.2 then
 if r11.2 then
 if !r11.1 then
 (BV (s6.2.1.1,(s6.2.1.2.1,s6.2.1.2.2)) (r8.1.1,r8.1.2)).bind λr13=>
 (Bd (s6.2.1.1,(s6.2.1.2.1,s6.2.1.2.2)) r13.1).bind λr14=>
 if !r13.2 then
 some false
 else
 if !r14.2 then
 some false
 else
 if !r14.1 then
 some false
 else
 (AK s6.1).bind λr15=>
 (Bc (r15.1,(r15.2.1,r15.2.2))).bind λr16=>
 (Be (r15.1,(r15.2.1,r15.2.2))).bind λr17=>
 if r16.2 !=r17.2 then
 some false
 else
 if(r16.1.2.2.length:Int) !=(r17.1.2.2.length:Int)then
 some false
 else
 if r16.1.1 !=r17.1.1 then
 some false
 else
 if r16.1.2.1 !=r17.1.2.1 then
 some false
 else
 if r16.2 then
 (Aw Aa ((r15.1,(r15.2.1,r15.2.2)),(r16.1.1,(r16.1.2.1,r16.1.2.2)),[],0)).bind λs18=>
 (AM (s18.1.1,(s18.1.2.1,s18.1.2.2)) s18.2.2).bind λr19=>
 if r19.2 then
 (Bd (s18.2.1.1,(s18.2.1.2.1,s18.2.1.2.2)) r19.1).bind λr20=>
 if !r20.2 then
 some false
 else
 if !r20.1 then
 some false
 else
 some true
 else
 some true
 else
 some true
 else
 (AK s6.1).bind λr21=>
 (Bc (r21.1,(r21.2.1,r21.2.2))).bind λr22=>
 (Be (r21.1,(r21.2.1,r21.2.2))).bind λr23=>
 if r22.2 !=r23.2 then
 some false
 else
 if(r22.1.2.2.length:Int) !=(r23.1.2.2.length:Int)then
 some false
 else
 if r22.1.1 !=r23.1.1 then
 some false
 else
 if r22.1.2.1 !=r23.1.2.1 then
 some false
 else
 if r22.2 then
 (Aw Aa ((r21.1,(r21.2.1,r21.2.2)),(r22.1.1,(r22.1.2.1,r22.1.2.2)),[],0)).bind λs24=>
 (AM (s24.1.1,(s24.1.2.1,s24.1.2.2)) s24.2.2).bind λr25=>
 if r25.2 then
 (Bd (s24.2.1.1,(s24.2.1.2.1,s24.2.1.2.2)) r25.1).bind λr26=>
 if !r26.2 then
 some false
 else
 if !r26.1 then
 some false
 else
 some true
 else
 some true
 else
 some true
 else
 (AK s6.1).bind λr27=>
 (Bc (r27.1,(r27.2.1,r27.2.2))).bind λr28=>
 (Be (r27.1,(r27.2.1,r27.2.2))).bind λr29=>
 if r28.2 !=r29.2 then
 some false
 else
 if(r28.1.2.2.length:Int) !=(r29.1.2.2.length:Int)then
 some false
 else
 if r28.1.1 !=r29.1.1 then
 some false
 else
 if r28.1.2.1 !=r29.1.2.1 then
 some false
 else
 if r28.2 then
 (Aw Aa ((r27.1,(r27.2.1,r27.2.2)),(r28.1.1,(r28.1.2.1,r28.1.2.2)),[],0)).bind λs30=>
 (AM (s30.1.1,(s30.1.2.1,s30.1.2.2)) s30.2.2).bind λr31=>
 if r31.2 then
 (Bd (s30.2.1.1,(s30.2.1.2.1,s30.2.1.2.2)) r31.1).bind λr32=>
 if !r32.2 then
 some false
 else
 if !r32.1 then
 some false
 else
 some true
 else
 some true
 else
 some true
 else
 (AK s6.1).bind λr33=>
 (Bc (r33.1,(r33.2.1,r33.2.2))).bind λr34=>
 (Be (r33.1,(r33.2.1,r33.2.2))).bind λr35=>
 if r34.2 !=r35.2 then
 some false
 else
 if(r34.1.2.2.length:Int) !=(r35.1.2.2.length:Int)then
 some false
 else
 if r34.1.1 !=r35.1.1 then
 some false
 else
 if r34.1.2.1 !=r35.1.2.1 then
 some false
 else
 if r34.2 then
 (Aw Aa ((r33.1,(r33.2.1,r33.2.2)),(r34.1.1,(r34.1.2.1,r34.1.2.2)),[],0)).bind λs36=>
 (AM (s36.1.1,(s36.1.2.1,s36.1.2.2)) s36.2.2).bind λr37=>
 if r37.2 then
 (Bd (s36.2.1.1,(s36.2.1.2.1,s36.2.1.2.2)) r37.1).bind λr38=>
 if !r38.2 then
 some false
 else
 if !r38.1 then
 some false
 else
 some true
 else
 some true
 else
 some true
 else
 (AK s6.1).bind λr39=>
 (Bc (r39.1,(r39.2.1,r39.2.2))).bind λr40=>
 (Be (r39.1,(r39.2.1,r39.2.2))).bind λr41=>
 if r40.2 !=r41.2 then
 some false
 else
 if(r40.1.2.2.length:Int) !=(r41.1.2.2.length:Int)then
 some false
 else
 if r40.1.1 !=r41.1.1 then
 some false
 else
 if r40.1.2.1 !=r41.1.2.1 then
 some false
 else
 if r40.2 then
 (Aw Aa ((r39.1,(r39.2.1,r39.2.2)),(r40.1.1,(r40.1.2.1,r40.1.2.2)),[],0)).bind λs42=>
 (AM (s42.1.1,(s42.1.2.1,s42.1.2.2)) s42.2.2).bind λr43=>
 if r43.2 then
 (Bd (s42.2.1.1,(s42.2.1.2.1,s42.2.1.2.2)) r43.1).bind λr44=>
 if !r44.2 then
 some false
 else
 if !r44.1 then
 some false
 else
 some true
 else
 some true
 else
 some true
 else
 (AK s6.1).bind λr45=>
 (Bc (r45.1,(r45.2.1,r45.2.2))).bind λr46=>
 (Be (r45.1,(r45.2.1,r45.2.2))).bind λr47=>
 if r46.2 !=r47.2 then
 some false
 else
 if(r46.1.2.2.length:Int) !=(r47.1.2.2.length:Int)then
 some false
 else
 if r46.1.1 !=r47.1.1 then
 some false
 else
 if r46.1.2.1 !=r47.1.2.1 then
 some false
 else
 if r46.2 then
 (Aw Aa ((r45.1,(r45.2.1,r45.2.2)),(r46.1.1,(r46.1.2.1,r46.1.2.2)),[],0)).bind λs48=>
 (AM (s48.1.1,(s48.1.2.1,s48.1.2.2)) s48.2.2).bind λr49=>
 if r49.2 then
 (Bd (s48.2.1.1,(s48.2.1.2.1,s48.2.1.2.2)) r49.1).bind λr50=>
 if !r50.2 then
 some false
 else
 if !r50.1 then
 some false
 else
 some true
 else
 some true
 else
 some true
end T
open Go Go.Va
namespace T
section
variable {a:Net} {K:Nat} {c:Con} {i p n:Nat} {st:ASt}
theorem GO {β:Type} {f:ASt->β->ASt} {P:ASt->Prop} (h1: ∀s x,P s->P (f s x)/\s.2.length<=(f s x).2.length) (h2: ∀s x,P s->(f s x).2.length=s.2.length->f s x=s):
  ∀(l:List β) (s:ASt),P s->(l.foldl f s).2.length=s.2.length->l.foldl f s=s/\ ∀x∈l,f s x=s
 | [],s,_,_=>⟨rfl,λx h=>by simp at h⟩
 |x::l,s,hs,h=>by
  rw[List.foldl_cons]at h⊢
  have m1:=h1 s x hs
  have m2: ∀(l:List β) (s:ASt),P s->s.2.length<=(l.foldl f s).2.length:=by
   intro l
   induction l with
   |nil=>intro s _;exact Nat.le_refl _
   |cons y l ih=>
    intro s hs
    have:=h1 s y hs
    exact Nat.le_trans this.2 (ih _ this.1)
  have m3:=m2 l _ m1.1
  have e:=h2 s x hs (by omega)
  rw[e]at h⊢
  obtain⟨q1,q2⟩:=GO h1 h2 l s hs h
  exact⟨q1,λy hy=>by
   rcases List.mem_cons.1 hy with rfl|hy
   ·exact e
   ·exact q2 y hy⟩
theorem IH {x:Nat} (h:(DO c i p st x).2.length=st.2.length):DO c i p st x=st/\(d2 st.1 (g0 c.1 p).toNat x=true->ED st.1 c p x=true):=by
 unfold DO at h⊢
 cases hb:d2 st.1 (g0 c.1 p).toNat x&&!ED st.1 c p x with
 |true=>rw[hb]at h;simp[G7]at h
 |false=>
  refine⟨by simp,λhd=>?_⟩
  rw[hd,Bool.true_and]at hb
  simpa using hb
theorem IG (hi:AInv a K st) (h:(Co n c i st p).2.length=st.2.length):Co n c i st p=st/\ ∀x,x<n->d2 st.1 (g0 c.1 p).toNat x=true->ED st.1 c p x=true:=by
 obtain⟨q1,q2⟩:=GO (f:=DO c i p) (P:=AInv a K) (λs x hs=>HO hs) (λs x _ h=>(IH h).1) (List.range n) st hi h
 exact⟨q1,λx hx=>(IH (c:=c) (i:=i) (p:=p) (st:=st) (x:=x) (by rw[q2 x (List.mem_range.2 hx)])).2⟩
theorem IF (hi:AInv a K st) (h:(EG a st i).2.length=st.2.length):EG a st i=st/\ ∀p,p<(a.2.2.getD i FU).1.length-> ∀x,x<a.2.1.toNat->d2 st.1 (g0 (a.2.2.getD i FU).1 p).toNat x=true->ED st.1 (a.2.2.getD i FU) p x=true:=by
 obtain⟨q1,q2⟩:=GO (f:=Co a.2.1.toNat (a.2.2.getD i FU) i) (P:=AInv a K) (λs x hs=>FM _ hs) (λs x hs h=>(IG hs h).1) (List.range (a.2.2.getD i FU).1.length) st hi h
 exact⟨q1,λp hp=>(IG (i:=i) hi (by rw[q2 p (List.mem_range.2 hp)])).2⟩
theorem Iw (hi:AInv a K st) (h:(Db a st).2.length=st.2.length):Db a st=st/\ ∀i,i<a.2.2.length-> ∀p,p<(a.2.2.getD i FU).1.length-> ∀x,x<a.2.1.toNat->d2 st.1 (g0 (a.2.2.getD i FU).1 p).toNat x=true->ED st.1 (a.2.2.getD i FU) p x=true:=by
 obtain⟨q1,q2⟩:=GO (f:=EG a) (P:=AInv a K) (λs x hs=>Fg _ hs) (λs x hs h=>(IF hs h).1) (List.range a.2.2.length) st hi h
 exact⟨q1,λi hi'=>(IF hi (by rw[q2 i (List.mem_range.2 hi')])).2⟩
theorem IW: ∀(k:Nat) (st:ASt),AInv a K st->mu st.1<k->(Db a (HS a k st)).2.length=(HS a k st).2.length
 |0,_,_,h=>absurd h (by omega)
 |k+1,st,hi,h=>by
  simp only[HS]
  have hp:=EJ (List.range a.2.2.length) hi
  have hp1:AInv a K (Db a st):=hp.1
  have hp2:st.2.length<=(Db a st).2.length:=hp.2
  split
  ·rename_i hlt
   refine IW k (Db a st) hp1 ?_
   have s1:=hi.sum
   have s2:=hp1.sum
   omega
  ·rename_i hlt
   have he:=(Iw hi (by omega)).1
   rw[he,he]
theorem Lp (hN:NetOk a) {d:Dom} (hd:DomOk a d) {c:Con} (hc:c∈a.2.2) {p:Nat} (hp:p<c.1.length) {x:Nat} (hx:d2 (Fh a d).1 (g0 c.1 p).toNat x=true):ED (Fh a d).1 c p x=true:=by
 have hi:AInv a (mu d) (d,[]):=⟨hd,by simp⟩
 have h1:=IW 40 (d,[]) hi (by have:=I9 hN hd;show mu d<40;omega)
 have h2:=H6 40 hi
 obtain⟨i,hi',rfl⟩:=List.mem_iff_getElem.1 hc
 have hrow:=MX hx
 have h3:AInv a (mu d) (Fh a d):=h2
 have hr:=h3.ok.row _ (List.getElem_mem hrow.1)
 have hxn:x<a.2.1.toNat:=by
  have:=hrow.2
  rw[Ag hrow.1]at this
  omega
 have:=(Iw h2 h1).2 i hi' p (by rw[Ag hi'];exact hp) x hxn (by rw[Ag hi'];exact hx)
 rw[Ag hi']at this
 exact this
def Md (d:Dom) (V:Nat) (t:List Int):Prop:= ∀u,u<V->d2 d u (t.getD u 0).toNat=true
end
end T
open Go Go.Va
namespace T
structure Semi (n:Int) (op:Int->Int->Int):Prop where
 cl: ∀x y,inR n x->inR n y->inR n (op x y)
 comm: ∀x y,inR n x->inR n y->op x y=op y x
 assoc: ∀x y z,inR n x->inR n y->inR n z->op (op x y) z=op x (op y z)
 idem: ∀x,inR n x->op x x=x
section
variable {n:Int} {op:Int->Int->Int}
theorem Semi.fold_cl (h:Semi n op): ∀(l:List Int) (x:Int),inR n x->(∀y∈l,inR n y)->inR n (l.foldl op x)
 | [],x,hx,_=>hx
 |y::l,x,hx,hl=>h.fold_cl l _ (h.cl x y hx (hl y (List.mem_cons_self ..))) λz hz=>hl z (List.mem_cons_of_mem _ hz)
theorem Semi.up (h:Semi n op): ∀(l:List Int) (x:Int),inR n x->(∀y∈l,inR n y)->op x (l.foldl op x)=l.foldl op x/\ ∀y∈l,op y (l.foldl op x)=l.foldl op x
 | [],x,hx,_=>⟨h.idem x hx,λy hy=>by simp at hy⟩
 |y::l,x,hx,hl=>by
  have hy:=hl y (List.mem_cons_self ..)
  have hl': ∀z∈l,inR n z:=λz hz=>hl z (List.mem_cons_of_mem _ hz)
  have hxy:=h.cl x y hx hy
  obtain⟨h1,h2⟩:=h.up l (op x y) hxy hl'
  have hF:=h.fold_cl l (op x y) hxy hl'
  rw[List.foldl_cons]
  generalize l.foldl op (op x y)=F at*
  have e1:op x F=F:=by
   have:op x (op (op x y) F)=op (op x y) F:=by rw[←h.assoc x (op x y) F hx hxy hF,←h.assoc x x y hx hx hy,h.idem x hx]
   rw[h1]at this;exact this
  have e2:op y F=F:=by
   have:op y (op (op x y) F)=op (op x y) F:=by rw[←h.assoc y (op x y) F hy hxy hF,h.comm x y hx hy,←h.assoc y y x hy hy hx,h.idem y hy]
   rw[h1]at this;exact this
  refine⟨e1,λz hz=>?_⟩
  rcases List.mem_cons.1 hz with rfl|hz
  ·exact e2
  ·exact h2 z hz
theorem Semi.least (h:Semi n op) {z:Int} (hz:inR n z): ∀(l:List Int) (x:Int),inR n x->(∀y∈l,inR n y)->op x z=z->(∀y∈l,op y z=z)->op (l.foldl op x) z=z
 | [],x,_,_,h1,_=>h1
 |y::l,x,hx,hl,h1,h2=>by
  have hy:=hl y (List.mem_cons_self ..)
  refine h.least hz l (op x y) (h.cl x y hx hy) (λw hw=>hl w (List.mem_cons_of_mem _ hw)) ?_ λw hw=>h2 w (List.mem_cons_of_mem _ hw)
  rw[h.assoc x y z hx hy hz,h2 y (List.mem_cons_self ..),h1]
def KB (op:Int->Int->Int) (l:List Int):Int:=(l.drop 1).foldl op (l.getD 0 0)
theorem Ia {x:Int} {l:List Int}:KB op (x::l)=l.foldl op x:=rfl
theorem Semi.same (h:Semi n op) {l l':List Int} (h0:l≠ []) (h0':l'≠ []) (hl: ∀y∈l,inR n y) (hm: ∀y,y∈l↔y∈l'):KB op l=KB op l':=by
 obtain⟨x,l,rfl⟩:=List.exists_cons_of_ne_nil h0
 obtain⟨x',l',rfl⟩:=List.exists_cons_of_ne_nil h0'
 have hl': ∀y∈x'::l',inR n y:=λy hy=>hl y ((hm y).2 hy)
 rw[Ia,Ia]
 have a1:=hl x (List.mem_cons_self ..)
 have a2: ∀y∈l,inR n y:=λy hy=>hl y (List.mem_cons_of_mem _ hy)
 have b1:=hl' x' (List.mem_cons_self ..)
 have b2: ∀y∈l',inR n y:=λy hy=>hl' y (List.mem_cons_of_mem _ hy)
 have hF:=h.fold_cl l x a1 a2
 have hF':=h.fold_cl l' x' b1 b2
 obtain⟨u1,u2⟩:=h.up l x a1 a2
 obtain⟨v1,v2⟩:=h.up l' x' b1 b2
 have hu: ∀y∈x::l,op y (l.foldl op x)=l.foldl op x:=λy hy=>by
  rcases List.mem_cons.1 hy with rfl|hy
  ·exact u1
  ·exact u2 y hy
 have hv: ∀y∈x'::l',op y (l'.foldl op x')=l'.foldl op x':=λy hy=>by
  rcases List.mem_cons.1 hy with rfl|hy
  ·exact v1
  ·exact v2 y hy
 have e1:=h.least hF' l x a1 a2 (hv x ((hm x).1 (List.mem_cons_self ..))) λy hy=>hv y ((hm y).1 (List.mem_cons_of_mem _ hy))
 have e2:=h.least hF l' x' b1 b2 (hu x' ((hm x').2 (List.mem_cons_self ..))) λy hy=>hu y ((hm y).2 (List.mem_cons_of_mem _ hy))
 rw[←e2,h.comm _ _ hF' hF,e1]
end
section
variable {V m:Nat} {cs:List Con} {t:List Int}
theorem FA {x y:Int} (hT:TabOk m t) (hx:inR (m:Int) x) (hy:inR (m:Int) y):opA (2,t) (m:Int) x y=((Ap m t x.toNat y.toNat:Nat):Int)/\Ap m t x.toNat y.toNat<m:=by
 obtain⟨X,rfl⟩: ∃X:Nat,x=(X:Int):=⟨x.toNat,by have:=hx.1;omega⟩
 obtain⟨Y,rfl⟩: ∃Y:Nat,y=(Y:Int):=⟨y.toNat,by have:=hy.1;omega⟩
 have hX:X<m:=by have:=hx.2;omega
 have hY:Y<m:=by have:=hy.2;omega
 have hlt:=Nw hX hY
 have hl:=hT.len
 rw[←Nat.pow_two]at hl
 have hv:=hT.val _ (List.getElem_mem (show X*m+Y<t.length by omega))
 unfold opA Ap
 have e:((X:Int)*(m:Int)+(Y:Int)).toNat=X*m+Y:=by
  have:(X:Int)*(m:Int)+(Y:Int)=((X*m+Y:Nat):Int):=by push_cast;rfl
  rw[this];rfl
 rw[e,Int.toNat_natCast,Int.toNat_natCast]
 dsimp only
 rw[Ag (by omega)]
 exact⟨by omega,by omega⟩
theorem MQ (hT:TabOk m t) (hi:Hj m t=true) (hc:Em m t=true) (ha:Ds m t=true):Semi (m:Int) (opA (2,t) (m:Int)):=by
 have hcl: ∀x y,inR (m:Int) x->inR (m:Int) y->inR (m:Int) (opA (2,t) (m:Int) x y):=λx y hx hy=>by
  obtain⟨e,h⟩:=FA hT hx hy
  rw[e];exact⟨by omega,by omega⟩
 refine⟨hcl,λx y hx hy=>?_,λx y z hx hy hz=>?_,λx hx=>?_⟩
 ·rw[(FA hT hx hy).1,(FA hT hy hx).1]
  unfold Em at hc
  simp only[List.all_eq_true,List.mem_range,beq_iff_eq]at hc
  have h1:=hx.2
  have h2:=hy.2
  have h3:=hx.1
  have h4:=hy.1
  rcases Nat.lt_trichotomy x.toNat y.toNat with h|h|h
  ·rw[hc y.toNat (by omega) x.toNat h]
  ·rw[h]
  ·rw[hc x.toNat (by omega) y.toNat h]
 ·have q1:=FA hT hx hy
  have q2:=FA hT hy hz
  rw[(FA hT (hcl x y hx hy) hz).1,(FA hT hx (hcl y z hy hz)).1,q1.1,q2.1,Int.toNat_natCast,Int.toNat_natCast]
  unfold Ds at ha
  simp only[List.all_eq_true,List.mem_range,beq_iff_eq]at ha
  have h1:=hx.2
  have h2:=hy.2
  have h3:=hz.2
  rw[ha x.toNat (by omega) y.toNat (by omega) z.toNat (by omega)]
 ·rw[(FA hT hx hx).1]
  unfold Hj at hi
  simp only[List.all_eq_true,List.mem_range,beq_iff_eq]at hi
  have h1:=hx.2
  have h2:=hx.1
  rw[hi x.toNat (by omega)];omega
theorem LW {M:Nat} {r:AT} (hok:ROk m M r) (hk:JY m 2 [r] t=true) {s u:List Int} (hs:s∈r.2) (hu:u∈r.2): ∃z∈r.2,∀j,j<M->z.getD j 0=opA (2,t) (m:Int) (s.getD j 0) (u.getD j 0):=by
 obtain⟨i,hi,rfl⟩:=List.mem_iff_getElem.1 hs
 obtain⟨k,hk',rfl⟩:=List.mem_iff_getElem.1 hu
 obtain⟨z,hz,hzz⟩:=MI hok hk (ys:= [i,k]) rfl (λy hy=>by
  simp at hy
  rcases hy with rfl|rfl
  ·exact hi
  ·exact hk')
 refine⟨r.2[z],List.getElem_mem hz,λj hj=>?_⟩
 have:=hzz j hj
 rw[Ag hz]at this
 rw[←this]
 obtain⟨a1,a2,a3⟩:=hok.vt_lt hi hj
 obtain⟨b1,b2,b3⟩:=hok.vt_lt hk' hj
 rw[Ag hi]at a2 a3
 rw[Ag hk']at b2 b3
 unfold atF opA
 simp only[List.foldl_cons,List.foldl_nil,Nat.zero_mul,Nat.zero_add]
 rw[a2,b2]
 congr 1
theorem I4 {M:Nat} {r:AT} (hok:ROk m M r) (hk:JY m 2 [r] t=true): ∀(l:List (List Int)) (s:List Int),s∈r.2->(∀u∈l,u∈r.2)-> ∃z∈r.2,∀j,j<M->z.getD j 0=(l.map λu=>u.getD j 0).foldl (opA (2,t) (m:Int)) (s.getD j 0)
 | [],s,hs,_=>⟨s,hs,λj _=>rfl⟩
 |u::l,s,hs,hl=>by
  obtain⟨w,hw,e⟩:=LW hok hk hs (hl u (List.mem_cons_self ..))
  obtain⟨z,hz,ez⟩:=I4 hok hk l w hw λu hu=>hl u (List.mem_cons_of_mem _ hu)
  exact⟨z,hz,λj hj=>by rw[ez j hj,e j hj];rfl⟩
theorem LD (hS:SrchOk V m cs) {rels:List AT} (hr: ∀c∈cs,c.2∈rels) {f:Opn} (hf:M0 (m:Int) rels f) (hne:EI (Fh ((V:Int),((m:Int),cs)) (E7 ((V:Int),((m:Int),cs)))).1=false):
  Ho ((Fh ((V:Int),((m:Int),cs)) (E7 ((V:Int),((m:Int),cs)))).1.map mk)=true/\isV ((V:Int),((m:Int),cs)) (((Fh ((V:Int),((m:Int),cs)) (E7 ((V:Int),((m:Int),cs)))).1.map mk).map (ER f (m:Int)))=(true,true)/\f.1=2/\opB (m:Int) f=true:=by
 have hb:=Ja hS
 have hN:=EX hb
 have hF:=GP hN
 have hA:=(GM hN hF).1
 obtain⟨m',hm,hR,t,rfl,hT,hi,hc,ha,ht⟩:=hf
 obtain rfl:m=m':=by omega
 have hsem:=MQ hT hi hc ha
 obtain⟨t1,t2,_,t4⟩:=(JB hR).1 ht
 have hsup:=fun(c:Con) (hc:c∈cs) (p:Nat) (hp:p<c.1.length) (x:Nat) hx=>Lp hN hF (c:=c) hc hp (x:=x) hx
 have hlen:(Fh ((V:Int),((m:Int),cs)) (E7 ((V:Int),((m:Int),cs)))).1.length=V:=by have:=hA.len;dsimp only at this;omega
 have hin:=Ip hN hA
 dsimp only at hin
 generalize (Fh ((V:Int),((m:Int),cs)) (E7 ((V:Int),((m:Int),cs)))).1=D at*
 have hemp: ∀u,u<V->mk (D.getD u [])≠ []:=λu hu he=>by
  have:EI D=true:=by
   unfold EI
   rw[List.any_eq_true]
   exact⟨D[u],List.getElem_mem (by omega),decide_eq_true (by rw[Ag (by omega)]at he;rw[he];rfl)⟩
  rw[this]at hne;exact absurd hne (by simp)
 have hget: ∀u,u<V->((D.map mk).map (ER (2,t) (m:Int))).getD u 0=KB (opA (2,t) (m:Int)) (mk (D.getD u [])):=λu hu=>by
  rw[Ag (by simp;omega),Ag (by omega)]
  simp only[List.getElem_map];rfl
 have hmin: ∀u,u<V-> ∀y∈mk (D.getD u []),inR (m:Int) y:=λu hu y hy=>(hin (mk (D.getD u [])) (by rw[Ag (by omega)];exact List.mem_map_of_mem (List.getElem_mem _))).2 y hy
 refine⟨?_,?_,rfl,hT.op⟩
 ·unfold Ho
  rw[List.all_eq_true]
  intro u hu
  have hu:=List.mem_range.1 hu
  rw[List.length_map]at hu
  rw[LR hu]
  have:=hemp u (by omega)
  exact decide_eq_true (List.length_pos_iff.2 this)
 ·refine JT hb (Lq (by simp[hlen]) λu hu=>?_) λc hc=>?_
  ·rw[hget u hu]
   have hne':=hemp u hu
   have hmn:=hmin u hu
   generalize mk (D.getD u [])=L at*
   obtain⟨x,l,rfl⟩:=List.exists_cons_of_ne_nil hne'
   exact hsem.fold_cl l x (hmn x (List.mem_cons_self ..)) λy hy=>hmn y (List.mem_cons_of_mem _ hy)
  ·have hcon:=hS.con c hc
   have hsl:=hcon.sl
   have har:=hcon.ar
   have hok:=hR.ok c.2 (hr c hc)
   have hk:JY m 2 [c.2] t=true:=by
    unfold JY at t4⊢
    rw[List.all_eq_true]at t4⊢
    intro r hr'
    rw[List.mem_singleton.1 hr']
    exact t4 _ (hr c hc)
   have hsv: ∀j (hj:j<c.1.length),0<=g0 c.1 j/\g0 c.1 j<(V:Int):=λj hj=>by unfold g0;rw[Ag hj];exact hcon.sv j hj
   have hTm: ∀j,j<c.1.length-> ∀y,y∈mk (D.getD (g0 c.1 j).toNat [])↔y∈((c.2.2.filter λs=>agB c.1 s&&inD D c.1 s).map λs=>s.getD j 0):=λj hj y=>by
    rw[Jv,List.mem_map]
    constructor
    ·rintro ⟨y0,y1⟩
     obtain⟨Y,rfl⟩: ∃Y:Nat,y=(Y:Int):=⟨y.toNat,by omega⟩
     have:=hsup c hc j hj Y y1
     unfold ED at this
     rw[List.any_eq_true]at this
     obtain⟨s,hs,h2⟩:=this
     rw[Bool.and_eq_true,decide_eq_true_eq]at h2
     exact⟨s,List.mem_filter.2 ⟨hs,h2.2⟩,h2.1⟩
    ·rintro ⟨s,hs,rfl⟩
     obtain⟨h1,h2⟩:=List.mem_filter.1 hs
     rw[Bool.and_eq_true]at h2
     have h3:=h2.2
     unfold inD at h3
     rw[List.all_eq_true]at h3
     have h4:=h3 j (List.mem_range.2 hj)
     have hl:=hcon.tl s h1
     have:=hcon.tv s h1 j (by omega)
     refine⟨by rw[Ag (by omega)];exact this.1,h4⟩
   have hTs: ∀s∈(c.2.2.filter λs=>agB c.1 s&&inD D c.1 s),s∈c.2.2:=λs hs=>(List.mem_filter.1 hs).1
   have hTn:(c.2.2.filter λs=>agB c.1 s&&inD D c.1 s)≠ []:=λhe=>by
    have h0:0<c.1.length:=by omega
    have h1:=hsv 0 h0
    have h2:=hemp (g0 c.1 0).toNat (by omega)
    obtain⟨x,l,e⟩:=List.exists_cons_of_ne_nil h2
    have:=(hTm 0 h0 x).1 (by rw[e];exact List.mem_cons_self ..)
    rw[he]at this;simp at this
   generalize (c.2.2.filter λs=>agB c.1 s&&inD D c.1 s)=TT at*
   obtain⟨s,l,rfl⟩:=List.exists_cons_of_ne_nil hTn
   obtain⟨z,hz,ez⟩:=I4 hok hk l s (hTs s (List.mem_cons_self ..)) λu hu=>hTs u (List.mem_cons_of_mem _ hu)
   unfold EH
   refine decide_eq_true ?_
   have:c.1.map (B9 ((D.map mk).map (ER (2,t) (m:Int))))=z:=by
    have hzl:=hcon.tl z hz
    refine List.ext_getElem (by rw[List.length_map];omega) λj h1 h2=>?_
    rw[List.length_map]at h1
    have hv:=hsv j h1
    rw[List.getElem_map,←Ag (d:=0) h2,ez j (by omega)]
    have eg:c.1[j]=g0 c.1 j:=by unfold g0;rw[Ag h1]
    rw[eg]
    unfold B9
    rw[hget _ (by omega)]
    refine(hsem.same (hemp _ (by omega)) (by simp) (hmin _ (by omega)) (hTm j h1)).trans ?_
    rfl
   rw[this];exact hz
end
end T
open Go Go.Va
namespace T
section
variable {a:Net} {V n:Nat} {cs:List Con} {vals x y:List Int}
theorem Mv {code:List Int} (hD:JX a) {rels:List AT} (hr: ∀r∈rels,r.2.length<=1048576/\ ∀t∈r.2,t.length<=1048576) (hl:rels.length<=1000) {i:Nat} (hi:i<a.2.2.length):
  AO Aa (code,a,rels,(i:Int),false,0)=some (code,a,rels,(i:Int),decide (a.2.2[i].2∈rels)):=by
 have:=Ca rels.length (λf (o:Bool) k=>AO f (code,a,rels,(i:Int),o,k)) (λk=>decide (a.2.2[i].2∈rels.take k)) (r:=some (code,a,rels,(i:Int),decide (a.2.2[i].2∈rels))) (λf k hk=>?_) (λf=>?_) (n:=Aa) (by unfold Aa;omega)
 ·have e0:decide (a.2.2[i].2∈rels.take 0)=false:=by simp
  rw[e0]at this
  exact this
 ·have hm:=hr _ (List.getElem_mem hk)
  have e:=Lf (a:=rels[k].2) (b:=a.2.2[i].2.2) hm.1 hm.2
  have hs:decide (a.2.2[i].2∈rels.take (k+1))=(decide (a.2.2[i].2∈rels.take k)||decide (a.2.2[i].2=rels[k])):=by
   rw[Bool.eq_iff_iff];simp only[List.take_succ_eq_append_getElem hk,List.mem_append,List.mem_singleton,Bool.or_eq_true,decide_eq_true_eq]
  simp only[AO,Ae,hk,hi,Af hk,Af hi,if_true,e,Option.bind_some,Ac (show k<4611686018427387904 by omega),hs]
  rw[if_pos (by rw[decide_eq_true_eq];omega)]
  cases decide (a.2.2[i].2∈rels.take k)with
  |true=>simp
  |false=>
   simp only[Bool.false_eq_true,if_false,Bool.false_or]
   by_cases h1:rels[k].1=a.2.2[i].2.1
   ·rw[if_pos (by simpa using h1)]
    by_cases h2:rels[k].2=a.2.2[i].2.2
    ·rw[decide_eq_true h2,decide_eq_true (show a.2.2[i].2=rels[k] from(Prod.ext h1 h2).symm)]
    ·rw[decide_eq_false h2,decide_eq_false (show¬a.2.2[i].2=rels[k] from λe=>h2 (by rw[e]))]
   ·rw[if_neg (by simpa using h1),decide_eq_false (show¬a.2.2[i].2=rels[k] from λe=>h1 (by rw[e]))]
 ·simp only[AO,List.take_length]
  rw[if_neg (by simp)]
theorem Mu {code:List Int} (hD:JX a):Bb Aa (code,a,[],0)=some (code,a,E2 a.2.2):=by
 have hl:=hD.2.2.2.2.1
 have:=Ca a.2.2.length (λf (o:List AT) k=>Bb f (code,a,o,k)) (λk=>E2 (a.2.2.take k)) (r:=some (code,a,E2 a.2.2)) (λf k hk=>?_) (λf=>?_) (n:=Aa) (by unfold Aa;omega)
 ·exact this
 ·have hlen:=Jd (cs:=a.2.2.take k)
  rw[List.length_take]at hlen
  have e:=Mv (code:=code) hD (ML hD (k:=k)) (by omega) hk
  have e:AO Aa (code,(a.1,(a.2.1,a.2.2)),E2 (a.2.2.take k),(k:Int),false,0)=_:=e
  simp only[Bb,e,Option.bind_some,Ae,hk,Af hk,if_true,Ac (show k<4611686018427387904 by omega),Ko hk]
  rw[if_pos (by rw[decide_eq_true_eq];omega)]
  unfold GX
  by_cases h:a.2.2[k].2∈E2 (a.2.2.take k)
  ·rw[decide_eq_true h,if_pos h];simp
  ·rw[decide_eq_false h,if_neg h]
   simp only[Bool.not_false,if_true]
   rw[if_pos (by rw[List.length_singleton];unfold lim;omega)]
 ·simp only[Bb,List.take_length]
  rw[if_neg (by simp)]
theorem Mw {V:Nat} {n:Int} (hV:V<=1000) (w:Net):Aw Aa (((V:Int),(n,cs)),w,[],0)=some (((V:Int),(n,cs)),w,List.replicate V (-1)):=by
 have:=Ca V (λm (o:List Int) k=>Aw m (((V:Int),(n,cs)),w,o,k)) (λk=>List.replicate k (-1)) (r:=some (((V:Int),(n,cs)),w,List.replicate V (-1))) (λm k hk=>?_) (λm=>?_) (n:=Aa) (by unfold Aa;omega)
 ·exact this
 ·simp only[Aw,Ac (show k<4611686018427387904 by omega),List.replicate_succ']
  rw[if_pos (by rw[decide_eq_true_eq];omega),if_pos (by simp;unfold lim;omega)]
 ·simp only[Aw]
  rw[if_neg (by simp)]
theorem Mb {c:Con} (hcon:ConOk (V:Int) (n:Int) c) (hh:EH x c=true) {p q:Nat} (hp:p<c.1.length) (hq:q<c.1.length):EH x (He c p q)=true:=by
 have h:=of_decide_eq_true hh
 unfold EH He
 refine decide_eq_true ?_
 dsimp only
 rw[setL_mem]
 refine List.mem_map.2 ⟨_,h,?_⟩
 unfold EK
 simp only[List.map_cons,List.map_nil]
 rw[Ag (by simpa using hp),Ag (by simpa using hq),Ag hp,Ag hq,List.getElem_map,List.getElem_map]
theorem Mj (hS:SrchOk V n cs) (h40:(cs.flatMap Dt).length<=40) (hx:x∈Fq V n cs (List.replicate V (-1))):isV ((V:Int),((n:Int),cs.flatMap Dt)) x=(true,true):=by
 obtain⟨x1,x2,x3⟩:=(L6 hS).1 hx
 have hb:=Kt (Ja hS)
 dsimp only at hb
 rw[decide_eq_true h40]at hb
 refine JT hb (Lq x1 x2) λd hd=>?_
 obtain⟨c,hc,hdc⟩:=List.mem_flatMap.1 hd
 rcases HZ hdc with rfl|⟨p,q,hp,hq,rfl⟩
 ·exact x3 d hc
 ·exact Mb (hS.con c hc) (x3 c hc) hp hq
theorem Nd {t2:Net} {t3:Opn} {c:D8} (hl:a.2.2.length<=41):Az Aa (t2,t3,c,a,[],0)=some (t2,t3,c,a,(a.2.2.take 4).map (·.2)):=by
 have:=Ca (min a.2.2.length 4) (λf (o:List AT) k=>Az f (t2,t3,c,a,o,k)) (λk=>(a.2.2.take k).map (·.2)) (r:=some (t2,t3,c,a,(a.2.2.take 4).map (·.2))) (λf k hk=>?_) (λf=>?_) (n:=Aa) (by unfold Aa;omega)
 ·exact this
 ·have hka:k<a.2.2.length:=by omega
  have htk:(a.2.2.take (k+1)).map (·.2)=(a.2.2.take k).map (·.2)++ [a.2.2[k].2]:=by
   rw[List.take_succ_eq_append_getElem hka,List.map_append];rfl
  simp only[Az,Ae,hka,Af hka,if_true,htk,Ac (show k<4611686018427387904 by omega)]
  rw[if_pos (by rw[decide_eq_true_eq];omega),if_pos (by rw[decide_eq_true_eq];omega),if_pos (by simp;unfold lim;omega)]
 ·have e:(a.2.2.take (min a.2.2.length 4))=a.2.2.take 4:=by
   rcases Nat.le_total a.2.2.length 4 with h|h
   ·rw[Nat.min_eq_left h,List.take_of_length_le (Nat.le_refl _),List.take_of_length_le h]
   ·rw[Nat.min_eq_right h]
  simp only[Az,e]
  by_cases h:((min a.2.2.length 4:Nat):Int)<(a.2.2.length:Int)
  ·rw[if_pos (decide_eq_true h),if_neg (by rw[decide_eq_true_eq];omega)]
  ·rw[if_neg (by simpa using h)]
theorem My {t2:Net} {t3:Opn} (hn:0<=a.2.1/\a.2.1<=100): ∀(d f k x:Nat) (c:D8) (o:List Int),x+d=25->d<f->Cur k c->k+2*d<=1000000->o.length=x->
  ∃c' o',An f (t2,t3,c,a,(2,o),(x:Int))=some (t2,t3,c',a,(2,o'))/\Cur (k+2*d) c'/\o'.length<=25:=by
 intro d
 induction d with
 |zero=>
  intro f k x c o hx hf hc hk hs
  obtain⟨f,rfl⟩: ∃z,f=z+1:=⟨f-1,by omega⟩
  refine⟨c,o,?_,hc,by omega⟩
  simp only[An]
  rw[if_neg (show¬decide ((x:Int)<25)=true by rw[decide_eq_true_eq];omega)]
  simp
 |succ d ih=>
  intro f k x c o hx hf hc hk hs
  obtain⟨f,rfl⟩: ∃z,f=z+1:=⟨f-1,by omega⟩
  simp only[An]
  by_cases h:(x:Int)<w64 (a.2.1*a.2.1)
  ·obtain⟨c1,y,e2,g2,_⟩:=D3 hc (by omega) a.2.1 (by omega)
   have e2:Ah (c.1,(c.2.1,c.2.2)) a.2.1=_:=e2
   obtain⟨c',o',e3,g3,h3⟩:=ih f (k+2) (x+1) c1 (o++ [y]) (by omega) (by omega) g2 (by omega) (by simp;omega)
   refine⟨c',o',?_,g3.mono (by omega),h3⟩
   rw[if_pos (by simpa using h),if_pos (by simp;omega)]
   simp only[e2,Option.bind_some]
   rw[if_pos (by rw[List.length_singleton];unfold lim;omega),Ac (by omega)]
   exact e3
  ·exact⟨c,o,by rw[if_neg (by simpa using h)],hc.mono (by omega),by omega⟩
end
def LC (t4:D8) (t5:Net):Option (Net×Opn):=
 (An Aa ((0,(0,[])),(0,[]),t4,t5,(2,[]),0)).bind λs16=>
 (Ao (s16.2.2.1.1,(s16.2.2.1.2.1,s16.2.2.1.2.2)) 20).bind λr17=>
 if r17.2 then
 (Ad (r17.1.1,(r17.1.2.1,r17.1.2.2)) [1,3]).bind λr18=>
 some ((s16.2.2.2.1.1,(s16.2.2.2.1.2.1,s16.2.2.2.1.2.2)),(r18.2,s16.2.2.2.2.2))
 else
 some ((s16.2.2.2.1.1,(s16.2.2.2.1.2.1,s16.2.2.2.1.2.2)),(s16.2.2.2.2.1,s16.2.2.2.2.2))
theorem JM {k:Nat} {c:D8} (hc:Cur k c) (hk:k<=100000) {a:Net} (hn:0<=a.2.1/\a.2.1<=100): ∃f,LC c a=some (a,f)/\f.2.length<=25:=by
 obtain⟨c2,o,e2,g2,h3⟩:=My (t2:=(0,(0,[]))) (t3:=(0,[])) (a:=a) hn 25 Aa _ 0 c [] (by omega) (by unfold Aa;omega) hc (by omega) (by simp)
 have e2:An Aa ((0,(0,[])),(0,[]),c,a,(2,[]),0)=_:=e2
 obtain⟨c3,x,e3,g3⟩:=HG g2 (by omega) 20 (by omega)
 have e3:Ao (c2.1,(c2.2.1,c2.2.2)) 20=_:=e3
 unfold LC
 simp only[e2,e3,Option.bind_some]
 cases x with
 |false=>
  simp only[Bool.false_eq_true,if_false]
  exact⟨_,rfl,h3⟩
 |true=>
  obtain⟨c4,y,e4,g4,_⟩:=DU g3 (by omega) (l:= [1,3]) (by simp) (by simp)
  have e4:Ad (c3.1,(c3.2.1,c3.2.2)) [1,3]=_:=e4
  simp only[if_true,e4,Option.bind_some]
  exact⟨_,rfl,h3⟩
theorem IJ {code:List Int} (h1:code.length<=65536) (h2: ∀x∈code,0<=x/\x<256): ∃a f,C6 code=some (a,f)/\JX a/\f.2.length<=1000:=by
 obtain⟨c1,a,e1,g1,hD⟩:=It (k:=0) (c:=(code,(0,0))) ⟨h1,h2,by simp,by simp⟩ (by omega)
 have hn:=hD.2.2
 have e2:Az Aa ((0,(0,[])),(0,[]),(c1.1,(c1.2.1,c1.2.2)),(a.1,(a.2.1,a.2.2)),[],0)=_:=Nd (t2:=(0,(0,[]))) (t3:=(0,[])) (c:=c1) (a:=a) hn.2.2.1
 have hs:Je ((a.2.2.take 4).map (·.2)):=⟨by simp;omega,λr hr=>by
  obtain⟨c,hc,rfl⟩:=List.mem_map.1 hr
  have:=Kj hD (List.mem_of_mem_take hc)
  exact⟨this.1,this.2⟩⟩
 have e3:Ey a.2.1=some (decide (1<=a.2.1/\a.2.1<=4)):=by unfold Ey;rw[Bt];rfl
 obtain⟨c2,x,e4,g4⟩:=HG g1 (by omega) 3 (by omega)
 have e4:Ao (c1.1,(c1.2.1,c1.2.2)) 3=_:=e4
 obtain⟨f1,q1,q2⟩:=JM g1 (by omega) (a:=a) (by omega)
 obtain⟨f2,q3,q4⟩:=JM g4 (by omega) (a:=a) (by omega)
 unfold LC at q1 q3
 unfold C6
 simp only[e1,e2,e3,Option.bind_some]
 cases hb:decide (1<=a.2.1/\a.2.1<=4)with
 |false=>
  simp only[Bool.false_eq_true,if_false]
  exact⟨a,f1,q1,hD,by omega⟩
 |true=>
  rw[Kh hs (of_decide_eq_true hb)]
  simp only[if_true,Option.bind_some]
  cases hb2:decide (((a.2.2.take 4).map (·.2)).length<=4)&&((a.2.2.take 4).map (·.2)).all (E9 a.2.1)with
  |false=>
   simp only[Bool.false_eq_true,if_false]
   exact⟨a,f1,q1,hD,by omega⟩
  |true=>
   simp only[if_true,e4,Option.bind_some]
   cases x with
   |true=>
    simp only[Bool.not_true,Bool.false_eq_true,if_false]
    exact⟨a,f2,q3,hD,by omega⟩
   |false=>
    obtain⟨R,_,r2,r3,_⟩:=Dy (n:=a.2.1) hs
    simp only[Bool.not_false,if_true,r2,Option.bind_some]
    cases hR:R.2 with
    |true=>
     simp only[if_true]
     exact⟨a,R.1,rfl,hD,r3⟩
    |false=>
     simp only[Bool.false_eq_true,if_false]
     exact⟨a,f2,q3,hD,by omega⟩
def Ke (t0:List Int):Option Bool:=
 (AK t0).bind λr45=>
 (Bc (r45.1,(r45.2.1,r45.2.2))).bind λr46=>
 (Be (r45.1,(r45.2.1,r45.2.2))).bind λr47=>
 if r46.2 !=r47.2 then
 some false
 else
 if(r46.1.2.2.length:Int) !=(r47.1.2.2.length:Int)then
 some false
 else
 if r46.1.1 !=r47.1.1 then
 some false
 else
 if r46.1.2.1 !=r47.1.2.1 then
 some false
 else
 if r46.2 then
 (Aw Aa ((r45.1,(r45.2.1,r45.2.2)),(r46.1.1,(r46.1.2.1,r46.1.2.2)),[],0)).bind λs48=>
 (AM (s48.1.1,(s48.1.2.1,s48.1.2.2)) s48.2.2).bind λr49=>
 if r49.2 then
 (Bd (s48.2.1.1,(s48.2.1.2.1,s48.2.1.2.2)) r49.1).bind λr50=>
 if !r50.2 then
 some false
 else
 if !r50.1 then
 some false
 else
 some true
 else
 some true
 else
 some true
end T
open Go Go.Va
namespace T
theorem K4 {code:List Int} (h1:code.length<=65536) (h2: ∀x∈code,0<=x/\x<256):Ke code=some true:=by
 obtain⟨c1,a,e1,_,hD⟩:=It (k:=0) (c:=(code,(0,0))) ⟨h1,h2,by simp,by simp⟩ (by omega)
 have ed:AK code=some a:=by
  unfold AK Fs
  rw[e1];rfl
 have hs:=LV hD
 obtain⟨r1,r2⟩:=KV hs
 have r1:Bc (a.1,(a.2.1,a.2.2))=_:=r1
 have r2:Be (a.1,(a.2.1,a.2.2))=_:=r2
 have hsm:=MS (K0 hs)
 unfold Ke
 simp only[ed,r1,r2,Option.bind_some,bne_self_eq_false,Bool.false_eq_true,if_false]
 have hR:KZ a=if CE a&&decide ((a.2.2.flatMap Dt).length<=40)then((a.1,(a.2.1,a.2.2.flatMap Dt)),true)else((0,(0,[])),false):=rfl
 rw[hR]at hsm⊢
 cases hc:CE a&&decide ((a.2.2.flatMap Dt).length<=40)with
 |false=>simp
 |true=>
  rw[hc]at hsm
  simp only[Bool.and_eq_true,decide_eq_true_eq]at hc
  obtain⟨hb,h40⟩:=hc
  obtain⟨V,n,cs,rfl,hS⟩:=JA hb
  have hV:=hS.hv
  dsimp only at h40 hsm⊢
  have e3:=Mw (cs:=cs) (V:=V) (n:=(n:Int)) (by omega) ((V:Int),((n:Int),cs.flatMap Dt))
  have e4:=Gg hs (p:=List.replicate V (-1)) (by simp;omega)
  have hpf:=Ld hb
  unfold fsV at e4
  simp only[Int.toNat_natCast]at hpf e4
  rw[hb,hpf]at e4
  simp only[Bool.and_self,if_true]at e4 hsm⊢
  simp only[e3,Option.bind_some,e4]
  cases hsl:Fq V n cs (List.replicate V (-1))with
  |nil=>simp
  |cons x l=>
   have hx:x∈Fq V n cs (List.replicate V (-1)):=by rw[hsl];exact List.mem_cons_self ..
   have e6:=(L1 hsm (v:=x) (by rw[L7 hx];omega)).2.2.1
   rw[Mj hS h40 hx]at e6
   simp only[if_true,Option.bind_some,e6,Bool.not_true,Bool.false_eq_true,if_false]
theorem FnFolding_law {code:List Int} (h:wfT (.slice (.num .u8)) code):Gy code=some true:=by
 unfold Gy I7
 simp only[Option.bind_some]
 by_cases hb:(code.length:Int)>65536
 ·rw[if_pos (decide_eq_true hb)]
 ·rw[if_neg (by simpa using hb)]
  have h1:code.length<=65536:=by omega
  have h2: ∀x∈code,0<=x/\x<256:=λx hx=>by
   have:IntKind.u8.min<=x/\x<=IntKind.u8.max:=h.2 x hx
   have e1:IntKind.u8.min=0:=by decide
   have e2:IntKind.u8.max=255:=by decide
   omega
  have hT:=K4 h1 h2
  unfold Ke at hT
  obtain⟨a,f,e1,hD,hf⟩:=IJ h1 h2
  have hS:=LV hD
  have r1:BV (a.1,(a.2.1,a.2.2)) (f.1,f.2)=_:=En (f:=f) hS (by omega)
  have r2:CV (a.1,(a.2.1,a.2.2)) (f.1,f.2)=_:=FY (f:=f) hS (by omega)
  have r3:=Iy (a:=(Gk a f).1) (b:=(Gk a f).1) (by have:=JN (a:=a) (f:=f);omega)
  have e3:Bb Aa (code,(a.1,(a.2.1,a.2.2)),[],0)=_:=Mu (a:=a) (code:=code) hD
  have e4:=Cb (a:=(a.1,(a.2.1,a.2.2))) hS
  rw[show CE (a.1,(a.2.1,a.2.2))=CE a from rfl]at e4
  simp only[e1,r1,r2,r3,e3,e4,Option.bind_some,bne_self_eq_false,decide_true,Bool.not_true,Bool.false_eq_true,if_false]
  cases hb:CE a with
  |false=>
   simp only[Bool.false_eq_true,if_false]
   exact hT
  |true=>
   simp only[if_true]
   by_cases h4:((E2 a.2.2).length:Int)<=4
   ·rw[if_pos (decide_eq_true h4)]
    have hrs:=MM hD
    obtain⟨R,p1,p2,p3,p4⟩:=Dy (n:=a.2.1) hrs
    have p5:Hm (R.1.1,R.1.2) (R.1.1,R.1.2)=_:=No (a:=R.1) (b:=R.1) (by omega)
    have p6:D0 (a.1,(a.2.1,a.2.2))=_:=G5 hS
    have p7:D4 (a.1,(a.2.1,a.2.2))=_:=G9 hS
    simp only[p1,p2,p5,p6,p7,Option.bind_some,bne_self_eq_false,decide_true,Bool.not_true,Bool.false_eq_true,if_false]
    cases hR:R.2 with
    |false=>
     simp only[Bool.false_eq_true,if_false]
     exact hT
    |true=>
     simp only[if_true]
     have hsem:=p4 hR
     obtain⟨V,n,cs,rfl,hO⟩:=JA hb
     have hV:=hO.hv
     unfold Hf
     rw[hb]
     simp only[if_true]
     cases he:EI (Fh ((V:Int),((n:Int),cs)) (E7 ((V:Int),((n:Int),cs)))).1 with
     |true=>
      simp only[Bool.not_true,Bool.false_eq_true,if_false]
      exact hT
     |false=>
      obtain⟨q1,q2,q3,q4⟩:=LD hO (rels:=E2 cs) (λc hc=>HI.2 ⟨c,hc,rfl⟩) hsem he
      have s1:BV ((V:Int),((n:Int),cs)) (R.1.1,R.1.2)=_:=En (f:=R.1) hS (by omega)
      have s2:=(L1 hS (v:=(Gk ((V:Int),((n:Int),cs)) R.1).1) (by have:=JN (a:=((V:Int),((n:Int),cs))) (f:=R.1);omega)).2.2.1
      have hF:Gk ((V:Int),((n:Int),cs)) R.1=(((Fh ((V:Int),((n:Int),cs)) (E7 ((V:Int),((n:Int),cs)))).1.map mk).map (ER R.1 (n:Int)),true):=by
       unfold Gk
       rw[hb,q1]
       simp only[q3,q4,decide_true,Bool.and_self,if_true]
      rw[hF]at s1 s2
      dsimp only at s2
      rw[q2]at s2
      simp only[s1,s2,Option.bind_some,Bool.not_false,if_true,Bool.not_true,Bool.false_eq_true,if_false]
      exact hT
   ·rw[if_neg (by simpa using h4)]
    exact hT
end T
