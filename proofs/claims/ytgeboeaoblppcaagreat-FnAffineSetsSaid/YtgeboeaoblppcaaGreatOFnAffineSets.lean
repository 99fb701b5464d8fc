/- Plain lemmas on the typed functions of the program, the first part; no conditions. -/
import Derived.Test.YtgeboeaoblppcaaGreatV1
import Derived.Test.YtgeboeaoblppcaaGreatV5
import Derived.KernelRfl
set_option linter.all false
namespace Go.Va
theorem Hb (x:Int):w64 x=(x+9223372036854775808)%18446744073709551616-9223372036854775808:=by
 simp[w64,IntKind.wrap,IntKind.bits,IntKind.signed]
 split<;>omega
theorem Ao {x:Int} (h1: -9223372036854775808<=x) (h2:x<=9223372036854775807):w64 x=x:=by
 rw[Hb];omega
theorem Ac {k:Nat} (h:k<4611686018427387904):w64 ((k:Int)+1)=((k+1:Nat):Int):=by
 rw[Ao (by omega) (by omega)];rfl
theorem GX {k:Nat} (h:k<4611686018427387904):w64 ((k:Int)+1)=(k:Int)+1:=Ao (by omega) (by omega)
theorem Ae {α:Type} {k:Nat} {xs:List α}:inb (k:Int) xs↔k<xs.length:=by
 unfold inb;omega
theorem Ak {α:Type} {k:Nat} {xs:List α} {d:α} (h:k<xs.length):gd xs (k:Int) d=xs[k]:=by
 unfold gd;simp[h]
theorem BA {α:Type} {k:Nat} {xs:List α} {x:α}:stt xs (k:Int) x=xs.set k x:=by
 unfold stt;simp
def JV {α σ β:Type} (step:σ->α->Option (σ⊕β)) (fin:σ->Option β):List α->σ->Option β
 | [],s=>fin s
 |a::l,s=>match step s a with|some (.inl s')=>JV step fin l s'|some (.inr r)=>some r|none=>none
theorem Ml {α σ β:Type} (xs:List α) (L:Nat->σ->Int->Option β) (step:σ->α->Option (σ⊕β)) (fin:σ->Option β)
  (hs: ∀n s (k:Nat) (hk:k<xs.length),L (n+1) s k=match step s xs[k]with|some (.inl s')=>L n s' ((k+1:Nat):Int)|some (.inr r)=>some r|none=>none)
  (he: ∀n s,L (n+1) s (xs.length:Nat)=fin s): ∀(n k:Nat) (s:σ),k<=xs.length->xs.length-k<n->L n s k=JV step fin (xs.drop k) s:=by
 intro n
 induction n with
 |zero=>intro k s _ h;omega
 |succ n ih=>
  intro k s hk hn
  rcases Nat.lt_or_ge k xs.length with hlt|hge
  ·rw[hs n s k hlt,List.drop_eq_getElem_cons hlt]
   simp only[JV]
   cases step s xs[k]with
   |none=>rfl
   |some q=>
    cases q with
    |inl s'=>exact ih (k+1) s' hlt (by omega)
    |inr r=>rfl
  ·have:k=xs.length:=by omega
   subst this
   rw[he,List.drop_length];rfl
theorem L4 {α σ β:Type} (xs:List α) (L:Nat->σ->Int->Option β) (step:σ->α->Option (σ⊕β)) (fin:σ->Option β)
  (hs: ∀n s (k:Nat) (hk:k<xs.length),L (n+1) s k=match step s xs[k]with|some (.inl s')=>L n s' ((k+1:Nat):Int)|some (.inr r)=>some r|none=>none)
  (he: ∀n s,L (n+1) s (xs.length:Nat)=fin s) {n:Nat} (hn:xs.length<n) (s:σ):L n s 0=JV step fin xs s:=by
 have:=Ml xs L step fin hs he n 0 s (Nat.zero_le _) (by omega)
 simpa using this
theorem Iy {α β:Type} {p:α->Bool} {step:Unit->α->Option (Unit⊕β)} {fin:Unit->Option β} {r:β}: ∀ {l:List α},(∀a∈l,step () a=if p a then some (.inl ())else some (.inr r))->JV step fin l ()=if l.all p then fin ()else some r
 | [],_=>rfl
 |a::l,h=>by
  simp only[JV]
  rw[h a (by simp)]
  cases hp:p a with
  |true=>simp only[if_true,List.all_cons,hp,Bool.true_and];exact Iy λb hb=>h b (List.mem_cons_of_mem _ hb)
  |false=>simp[List.all_cons,hp]
theorem Mg {α β γ:Type} (xs:List α) (L:Nat->List β->Int->Option γ) (g:α->β) (fin:List β->Option γ)
  (hs: ∀n (out:List β) (k:Nat) (hk:k<xs.length),out.length=xs.length->L (n+1) out k=L n (out.set k (g xs[k])) ((k+1:Nat):Int))
  (he: ∀n out,out.length=xs.length->L (n+1) out (xs.length:Nat)=fin out): ∀(n k:Nat) (out:List β),out.length=xs.length->k<=xs.length->xs.length-k<n->L n out k=fin (out.take k++(xs.drop k).map g):=by
 intro n
 induction n with
 |zero=>intro k out _ _ h;omega
 |succ n ih=>
  intro k out hl hk hn
  rcases Nat.lt_or_ge k xs.length with hlt|hge
  ·have:(out.set k (g xs[k])).take (k+1)=out.take k++ [g xs[k]]:=by
    rw[List.take_succ_eq_append_getElem (by simp;omega),List.take_set_of_le (Nat.le_refl _),List.getElem_set_self]
   rw[hs n out k hlt hl,ih (k+1) _ (by simpa using hl) hlt (by omega),List.drop_eq_getElem_cons hlt,this,List.map_cons,List.append_assoc,List.singleton_append]
  ·have:k=xs.length:=by omega
   subst this
   rw[he _ _ hl,List.drop_length,List.take_of_length_le (by omega)];simp
theorem LW {α β γ:Type} (xs:List α) (L:Nat->List β->Int->Option γ) (g:α->β) (fin:List β->Option γ)
  (hs: ∀n (out:List β) (k:Nat) (hk:k<xs.length),out.length=xs.length->L (n+1) out k=L n (out.set k (g xs[k])) ((k+1:Nat):Int))
  (he: ∀n out,out.length=xs.length->L (n+1) out (xs.length:Nat)=fin out) {n:Nat} {out:List β} (hl:out.length=xs.length) (hn:xs.length<n):L n out 0=fin (xs.map g):=by
 have:=Mg xs L g fin hs he n 0 out hl (Nat.zero_le _) (by omega)
 simpa using this
theorem eqX {α:Type} [DecidableEq α] (a b:List α) (hl:a.length=b.length) (L:Nat->Int->Option (Unit⊕Bool))
  (hs: ∀n (k:Nat) (h1:k<a.length) (h2:k<b.length),L (n+1) k=if a[k]=b[k]then L n ((k+1:Nat):Int)else some (.inr false)) (he: ∀n,L (n+1) (a.length:Nat)=some (.inl ())) {n:Nat} (hn:a.length<n):
  L n 0=some (if a=b then .inl ()else .inr false):=by
 have key: ∀(n k:Nat),k<=a.length->a.length-k<n->L n k=some (if a.drop k=b.drop k then .inl ()else .inr false):=by
  intro n
  induction n with
  |zero=>intro k _ h;omega
  |succ n ih=>
   intro k hk hn
   rcases Nat.lt_or_ge k a.length with hlt|hge
   ·have h2:k<b.length:=by omega
    have e:(a.drop k=b.drop k)↔(a[k]=b[k]/\a.drop (k+1)=b.drop (k+1)):=by
     rw[List.drop_eq_getElem_cons hlt,List.drop_eq_getElem_cons h2];exact List.cons_eq_cons
    rw[hs n k hlt h2]
    by_cases h:a[k]=b[k]
    ·rw[if_pos h,ih (k+1) hlt (by omega)]
     by_cases h3:a.drop (k+1)=b.drop (k+1)
     ·rw[if_pos h3,if_pos (e.2 ⟨h,h3⟩)]
     ·rw[if_neg h3,if_neg λh'=>h3 (e.1 h').2]
    ·rw[if_neg h,if_neg λh'=>h (e.1 h').1]
   ·have:k=a.length:=by omega
    subst this
    rw[he,List.drop_length,hl,List.drop_length];rfl
 have:=key n 0 (Nat.zero_le _) (by omega)
 simpa using this
theorem IM {α β:Type} (xs:List α) (L:Nat->Int->Option β) (p:α->Bool) (r e:β)
  (hs: ∀n (k:Nat) (hk:k<xs.length),L (n+1) k=if p xs[k]then L n ((k+1:Nat):Int)else some r) (he: ∀n,L (n+1) (xs.length:Nat)=some e) {n:Nat} (hn:xs.length<n):
  L n 0=some (if xs.all p then e else r):=by
 have:=L4 xs (λn (_:Unit) i=>L n i) (λ_ a=>if p a then some (.inl ())else some (.inr r)) (λ_=>some e) (λn s k hk=>by rw[hs n k hk];cases p xs[k]<;>simp) (λn s=>he n) hn ()
 rw[this,Iy (p:=p) (r:=r) λa _=>by cases p a<;>simp]
 cases xs.all p<;>simp
theorem BL {σ β:Type} (N:Nat) (L:Nat->σ->Int->Option β) (S:Nat->σ) {r:Option β}
  (hs: ∀n (k:Nat),k<N->L (n+1) (S k) k=L n (S (k+1)) ((k+1:Nat):Int)) (he: ∀n,L (n+1) (S N) (N:Nat)=r) {n:Nat} (hn:N<n):L n (S 0) 0=r:=by
 have key: ∀(n k:Nat),k<=N->N-k<n->L n (S k) k=r:=by
  intro n
  induction n with
  |zero=>intro k _ h;omega
  |succ n ih=>
   intro k hk hn
   rcases Nat.lt_or_ge k N with hlt|hge
   ·rw[hs n k hlt];exact ih (k+1) hlt (by omega)
   ·have:k=N:=by omega
    subst this;exact he n
 exact key n 0 (Nat.zero_le _) (by omega)
theorem IU {σ β:Type} (N:Nat) (L:Nat->σ->Int->Option β) (S:Nat->σ) (p:Nat->Bool) {r e:Option β}
  (hs: ∀n (k:Nat),k<N->L (n+1) (S k) k=if p k then L n (S (k+1)) ((k+1:Nat):Int)else r) (he: ∀n,L (n+1) (S N) (N:Nat)=e) {n:Nat} (hn:N<n):
  L n (S 0) 0=if(List.range N).all p then e else r:=by
 have key: ∀(n k:Nat),k<=N->N-k<n->L n (S k) k=if(List.range' k (N-k)).all p then e else r:=by
  intro n
  induction n with
  |zero=>intro k _ h;omega
  |succ n ih=>
   intro k hk hn
   rcases Nat.lt_or_ge k N with hlt|hge
   ·rw[hs n k hlt,show N-k=(N-(k+1))+1 by omega,List.range'_succ,List.all_cons]
    cases hp:p k with
    |false=>simp
    |true=>simp only[if_true,Bool.true_and];exact ih (k+1) hlt (by omega)
   ·have:k=N:=by omega
    subst this;rw[he];simp
 have:=key n 0 (Nat.zero_le _) (by omega)
 rw[List.range_eq_range']
 simpa using this
theorem Mv {σ β:Type} (N:Nat) (L:Nat->σ->Int->Option β) (S:Nat->σ) (q:Nat->Option (Option β)) {e:Option β}
  (hs: ∀n (k:Nat),k<N->(∀j,j<k->q j=none)->L (n+1) (S k) k=match q k with|none=>L n (S (k+1)) ((k+1:Nat):Int)|some r=>r) (he: ∀n,L (n+1) (S N) (N:Nat)=e) {n:Nat} (hn:N<n):
  L n (S 0) 0=((List.range N).findSome? q).getD e:=by
 have key: ∀(n k:Nat),k<=N->N-k<n->(∀j,j<k->q j=none)->L n (S k) k=((List.range' k (N-k)).findSome? q).getD e:=by
  intro n
  induction n with
  |zero=>intro k _ h;omega
  |succ n ih=>
   intro k hk hn hq
   rcases Nat.lt_or_ge k N with hlt|hge
   ·rw[hs n k hlt hq,show N-k=(N-(k+1))+1 by omega,List.range'_succ,List.findSome?_cons]
    cases hp:q k with
    |some r=>simp
    |none=>
     refine ih (k+1) hlt (by omega) λj hj=>?_
     rcases Nat.lt_or_ge j k with h|h
     ·exact hq j h
     ·have:j=k:=by omega
      rw[this];exact hp
   ·have:k=N:=by omega
    subst this;rw[he];simp
 have:=key n 0 (Nat.zero_le _) (by omega) (λj h=>by omega)
 rw[List.range_eq_range']
 simpa using this
end Go.Va
set_option linter.unusedVariables false
open Go Go.Va
namespace T
def Aa:Nat:=1099511627776
def Dw (p:Int):Option (Bool):=
 if p==2 then
 some true
 else
 if p==3 then
 some true
 else
 if p==5 then
 some true
 else
 some (p==7)
def EH (x:Int) (a:Int) (b:Int):Option (Bool):=
 if decide (x≥a)then
 some (decide (x<=b))
 else
 some false
def Cl:Nat->(Int×(List Int)×Int)->Option ((Unit)⊕(Bool))
 |0,_=>none
 |n+1,(n_,list,i)=>
 if decide (i<(list.length:Int))then
 if inb i list then
 (EH (gd list i 0) 0 (w64 (n_-1))).bind λr1=>
 if !r1 then
 some (.inr false)
 else
 Cl n (n_,list,w64 (i+1))
 else none
 else
 some (.inl ())
def Eu (n_:Int) (list:List Int):Option (Bool):=
 (Cl Aa (n_,list,0)).bind λs1=>
  match s1 with
  | .inl s2=>
   some true
  | .inr s3=>
   some s3
def ED (n_:Int) (k:Int) (t:List Int):Option (Bool):=
 if(t.length:Int)==k then
 (Eu n_ t).bind λr1=>
 some r1
 else
 some false
def CY:Nat->(Int×Int×(List (List Int))×Int)->Option ((Unit)⊕(Bool))
 |0,_=>none
 |n+1,(p,vars,rows,i)=>
 if decide (i<(rows.length:Int))then
 if inb i rows then
 (ED p (w64 (vars+1)) (gd rows i [])).bind λr1=>
 if !r1 then
 some (.inr false)
 else
 CY n (p,vars,rows,w64 (i+1))
 else none
 else
 some (.inl ())
def Fy (p:Int) (vars:Int) (rows:List (List Int)):Option (Bool):=
 (CY Aa (p,vars,rows,0)).bind λs1=>
  match s1 with
  | .inl s2=>
   some true
  | .inr s3=>
   some s3
def Cz (l:Int×Int×(List (List Int))):Option (Bool):=
 (Dw l.1).bind λr1=>
 if r1 then
 (EH l.2.1 0 8).bind λr2=>
 if r2 then
 if decide ((l.2.2.length:Int)<=8)then
 (Fy l.1 l.2.1 l.2.2).bind λr3=>
 some r3
 else
 some false
 else
 some false
 else
 some false
def E4 (l:Int×Int×(List (List Int))):Option (Bool):=
 (Cz (l.1,(l.2.1,l.2.2))).bind λr1=>
 some r1
def Ez (p:Int):Option (Bool):=
 if p==2 then
 some true
 else
 if p==3 then
 some true
 else
 if p==5 then
 some true
 else
 some (p==7)
def C8:Nat->(Int×(List Int)×Int×Int)->Option ((Unit)⊕(Bool))
 |0,_=>none
 |n+1,(n_,t7,t8,t9)=>
 if decide (t9<t8)then
 if inb t9 t7 then
 if decide ((gd t7 t9 0)<0)then
 some (.inr false)
 else
 if decide ((gd t7 t9 0)≥n_)then
 some (.inr false)
 else
 C8 n (n_,t7,t8,w64 (t9+1))
 else none
 else
 some (.inl ())
def C7 (list:List Int) (n_:Int):Option (Bool):=
 (C8 Aa (n_,list,(list.length:Int),0)).bind λs1=>
  match s1 with
  | .inl s2=>
   some true
  | .inr s3=>
   some s3
def CH:Nat->((Int×Int×(List (List Int)))×(List (List Int))×Int×Int)->Option ((Unit)⊕(Bool))
 |0,_=>none
 |n+1,(l,t26,t27,t28)=>
 if decide (t28<t27)then
 if inb t28 t26 then
 if((gd t26 t28 []).length:Int) !=(w64 (l.2.1+1))then
 some (.inr false)
 else
 (C7 (gd t26 t28 []) l.1).bind λr2=>
 if !r2 then
 some (.inr false)
 else
 CH n ((l.1,(l.2.1,l.2.2)),t26,t27,w64 (t28+1))
 else none
 else
 some (.inl ())
def D8 (l:Int×Int×(List (List Int))):Option (Bool):=
 (Ez l.1).bind λr1=>
  if !r1 then
   some false
  else
   if decide (l.2.1<0)then
    some false
   else
    if decide (l.2.1>8)then
     some false
    else
     if decide ((l.2.2.length:Int)>8)then
      some false
     else
      (CH Aa ((l.1,(l.2.1,l.2.2)),l.2.2,(l.2.2.length:Int),0)).bind λs2=>
       match s2 with
       | .inl s3=>
        some true
       | .inr s4=>
        some s4
def E1 (n_:Int):Option (Bool):=
 (EH n_ 1 8).bind λr1=>
 some r1
def Eb:Nat->(Int×Int×Int)->Option (Int)
 |0,_=>none
 |n+1,(n_,k,out)=>
 if decide (k>0)then
 Eb n (n_,w64 (k-1),w64 (out*n_))
 else
 some out
def Fz (n_:Int) (k:Int):Option (Int):=
 (Eb Aa (n_,k,1)).bind λs1=>
 some s1
def Dh:Nat->((List Int)×(List Int)×Int)->Option ((Unit)⊕(Bool))
 |0,_=>none
 |n+1,(a,b,i)=>
 if decide (i<(a.length:Int))then
 if inb i a then
 if inb i b then
 if(gd a i 0) !=(gd b i 0)then
 if inb i a then
 if inb i b then
 some (.inr (decide ((gd a i 0)<(gd b i 0))))
 else none
 else none
 else
 Dh n (a,b,w64 (i+1))
 else none
 else none
 else
 some (.inl ())
def FR (a:List Int) (b:List Int):Option (Bool):=
 (Dh Aa (a,b,0)).bind λs1=>
  match s1 with
  | .inl s2=>
   some false
  | .inr s3=>
   some s3
def CP:Nat->(Int×Int×(List (List Int))×Int)->Option ((Unit)⊕(Bool))
 |0,_=>none
 |n+1,(n_,k,tuples,i)=>
 if decide (i<(tuples.length:Int))then
 if inb i tuples then
 (ED n_ k (gd tuples i [])).bind λr4=>
 if !r4 then
 some (.inr false)
 else
 if decide (i>0)then
 if inb (w64 (i-1)) tuples then
 if inb i tuples then
 (FR (gd tuples (w64 (i-1)) []) (gd tuples i [])).bind λr5=>
 if !r5 then
 some (.inr false)
 else
 CP n (n_,k,tuples,w64 (i+1))
 else none
 else none
 else
 CP n (n_,k,tuples,w64 (i+1))
 else none
 else
 some (.inl ())
def E0 (n_:Int) (k:Int) (tuples:List (List Int)):Option (Bool):=
 (E1 n_).bind λr1=>
  if !r1 then
   some false
  else
   (EH k 1 4).bind λr2=>
    if !r2 then
     some false
    else
     (Fz n_ k).bind λr3=>
      if decide ((tuples.length:Int)>r3)then
       some false
      else
       (CP Aa (n_,k,tuples,0)).bind λs4=>
        match s4 with
        | .inl s5=>
         some true
        | .inr s6=>
         some s6
def AE:Nat->(Int×(List Int)×(List Int)×Int×(List Int)×Int)->Option ((List Int))
 |0,_=>none
 |n+1,(p,row,F8,by_,out,i)=>
 if decide (i<(row.length:Int))then
 if inb i row then
 if inb i F8 then
 if p≠0 then
 if out.length+ [Int.tmod (w64 ((gd row i 0)+(w64 ((w64 (p-by_))*(gd F8 i 0))))) p].length<=lim then
 AE n (p,row,F8,by_,out++ [Int.tmod (w64 ((gd row i 0)+(w64 ((w64 (p-by_))*(gd F8 i 0))))) p],w64 (i+1))
 else none
 else none
 else none
 else none
 else
 some out
def Bk (p:Int) (row:List Int) (F8:List Int) (by_:Int):Option ((List Int)):=
 (AE Aa (p,row,F8,by_,[],0)).bind λs1=>
 some s1
def Df:Nat->((List Int)×(List Int)×Int)->Option ((Unit)⊕(Bool))
 |0,_=>none
 |n+1,(a,b,i)=>
 if decide (i<(a.length:Int))then
 if inb i a then
 if inb i b then
 if(gd a i 0) !=(gd b i 0)then
 some (.inr false)
 else
 Df n (a,b,w64 (i+1))
 else none
 else none
 else
 some (.inl ())
def FP (a:List Int) (b:List Int):Option (Bool):=
 if(a.length:Int) !=(b.length:Int)then
  some false
 else
  (Df Aa (a,b,0)).bind λs1=>
   match s1 with
   | .inl s2=>
    some true
   | .inr s3=>
    some s3
def CQ:Nat->((List (List Int))×(List Int)×Int×Int)->Option ((List (List Int))×(List Int)×Int)
 |0,_=>none
 |n+1,(list,t,from_,to)=>
 if decide (from_<to)then
 if(2:Int)≠0 then
 if inb (w64 (Int.tdiv (w64 (from_+to)) 2)) list then
 (FR (gd list (w64 (Int.tdiv (w64 (from_+to)) 2)) []) t).bind λr1=>
 if r1 then
 CQ n (list,t,w64 ((w64 (Int.tdiv (w64 (from_+to)) 2))+1),to)
 else
 CQ n (list,t,from_,w64 (Int.tdiv (w64 (from_+to)) 2))
 else none
 else none
 else
 some (list,t,from_)
def Cd (list:List (List Int)) (t:List Int):Option (Int×Bool):=
 (CQ Aa (list,t,0,(list.length:Int))).bind λs1=>
 if decide (s1.2.2<(s1.1.length:Int))then
 if inb s1.2.2 s1.1 then
 (FP (gd s1.1 s1.2.2 []) s1.2.1).bind λr2=>
 some (s1.2.2,r2)
 else none
 else
 some (s1.2.2,false)
def B1:Nat->(Int×(List (List Int))×Int×Int×(List Int)×Int)->Option (Int×(List (List Int))×Int×Int×(List Int))
 |0,_=>none
 |n+1,(p,tuples,i,k,t,place)=>
 if decide (place<(t.length:Int))then
 if inb place t then
 if inb k tuples then
 if inb place (gd tuples k [])then
 if p≠0 then
 if inb place t then
 B1 n (p,tuples,i,k,stt t place (Int.tmod (w64 ((gd t place 0)+(gd (gd tuples k []) place 0))) p),w64 (place+1))
 else none
 else none
 else none
 else none
 else none
 else
 some (p,tuples,i,k,t)
def B0:Nat->(Int×(List (List Int))×Int×Int)->Option ((Int×(List (List Int))×Int)⊕(Bool))
 |0,_=>none
 |n+1,(p,tuples,i,k)=>
 if decide (k<(tuples.length:Int))then
 if inb i tuples then
 if inb 0 tuples then
 (Bk p (gd tuples i []) (gd tuples 0 []) 1).bind λr1=>
 (B1 Aa (p,tuples,i,k,r1,0)).bind λs2=>
 (Cd s2.2.1 s2.2.2.2.2).bind λr3=>
 if !r3.2 then
 some (.inr false)
 else
 B0 n (s2.1,s2.2.1,s2.2.2.1,w64 (s2.2.2.2.1+1))
 else none
 else none
 else
 some (.inl (p,tuples,i))
def Bi:Nat->(Int×(List (List Int))×Int)->Option ((Unit)⊕(Bool))
 |0,_=>none
 |n+1,(p,tuples,i)=>
  if decide (i<(tuples.length:Int))then
   (B0 Aa (p,tuples,i,0)).bind λs1=>
    match s1 with
    | .inl s2=>
     Bi n (s2.1,s2.2.1,w64 (s2.2.2+1))
    | .inr s3=>
     some (.inr s3)
  else
   some (.inl ())
def DQ (p:Int) (tuples:List (List Int)):Option (Bool):=
 (Bi Aa (p,tuples,0)).bind λs1=>
  match s1 with
  | .inl s2=>
   some true
  | .inr s3=>
   some s3
def D0 (p:Int) (k:Int) (tuples:List (List Int)):Option (Bool×Bool):=
 (Dw p).bind λr1=>
 if !r1 then
 some (false,false)
 else
 (E0 p k tuples).bind λr2=>
 if !r2 then
 some (false,false)
 else
 (DQ p tuples).bind λr3=>
 some (r3,true)
def DI (n_:Int):Option (Bool):=
 if decide (n_≥1)then
 some (decide (n_<=8))
 else
 some false
def Bp:Nat->((List Int)×(List Int)×Int)->Option (((List Int)×(List Int))⊕(Int))
 |0,_=>none
 |n+1,(s,t,i)=>
 if decide (i<(s.length:Int))then
 if decide (i<(t.length:Int))then
 if inb i s then
 if inb i t then
 if(gd s i 0) !=(gd t i 0)then
 if inb i s then
 if inb i t then
 if decide ((gd s i 0)<(gd t i 0))then
 some (.inr (-1))
 else
 some (.inr 1)
 else none
 else none
 else
 Bp n (s,t,w64 (i+1))
 else none
 else none
 else
 some (.inl (s,t))
 else
 some (.inl (s,t))
def DM (s:List Int) (t:List Int):Option (Int):=
 (Bp Aa (s,t,0)).bind λs1=>
  match s1 with
  | .inl s2=>
   if decide ((s2.1.length:Int)<(s2.2.length:Int))then
    some (-1)
   else
    if decide ((s2.1.length:Int)>(s2.2.length:Int))then
     some 1
    else
     some 0
  | .inr s3=>
   some s3
def BQ:Nat->(Int×Int×(List (List Int))×(List (List Int))×Int×Int)->Option ((Unit)⊕(Bool))
 |0,_=>none
 |n+1,(n_,k,tuples,t20,t21,t22)=>
 if decide (t22<t21)then
 if inb t22 t20 then
 if((gd t20 t22 []).length:Int) !=k then
 some (.inr false)
 else
 (C7 (gd t20 t22 []) n_).bind λr2=>
 if !r2 then
 some (.inr false)
 else
 if decide (t22>0)then
 if inb (w64 (t22-1)) tuples then
 (DM (gd tuples (w64 (t22-1)) []) (gd t20 t22 [])).bind λr3=>
 if decide (r3≥0)then
 some (.inr false)
 else
 BQ n (n_,k,tuples,t20,t21,w64 (t22+1))
 else none
 else
 BQ n (n_,k,tuples,t20,t21,w64 (t22+1))
 else none
 else
 some (.inl ())
def Ep (n_:Int) (k:Int) (tuples:List (List Int)):Option (Bool):=
 (DI n_).bind λr1=>
  if !r1 then
   some false
  else
   if decide (k<1)then
    some false
   else
    if decide (k>4)then
     some false
    else
     (BQ Aa (n_,k,tuples,tuples,(tuples.length:Int),0)).bind λs2=>
      match s2 with
      | .inl s3=>
       some true
      | .inr s4=>
       some s4
def Cc:Nat->(Int×Int×Int)->Option (Int)
 |0,_=>none
 |n+1,(n_,k,p)=>
 if decide (k>0)then
 Cc n (n_,w64 (k-1),w64 (p*n_))
 else
 some p
def B5 (n_:Int) (k:Int):Option (Int):=
 (Cc Aa (n_,k,1)).bind λs1=>
 some s1
def CX:Nat->(Int×Int×(List Int)×Int×Int)->Option (Int)
 |0,_=>none
 |n+1,(n_,i,t8,t9,t10)=>
 if decide (t10<t9)then
 if inb t10 t8 then
 CX n (n_,w64 ((w64 (i*n_))+(gd t8 t10 0)),t8,t9,w64 (t10+1))
 else none
 else
 some i
def Fv (args:List Int) (n_:Int):Option (Int):=
 (CX Aa (n_,0,args,(args.length:Int),0)).bind λs1=>
 some s1
def Cf:Nat->(Int×(List (List Int))×(List Int)×(List Bool)×(List (List Int))×Int×Int)->Option (Int×(List (List Int))×(List Int)×(List Bool))
 |0,_=>none
 |n+1,(t0,t1,t5,t6,t27,t28,t29)=>
 if decide (t29<t28)then
 if inb t29 t27 then
 (Fv (gd t27 t29 []) t0).bind λr2=>
 if inb r2 t6 then
 Cf n (t0,t1,t5,stt t6 r2 true,t27,t28,w64 (t29+1))
 else none
 else none
 else
 some (t0,t1,t5,t6)
def BZ:Nat->(Int×(List (List Int))×(List Int)×(List Bool)×(List Int)×(List Int)×Int×(List (List Int))×Int×Int×(List (List Int))×Int×Int×(List Int)×Int×Int)->Option (Int×(List (List Int))×(List Int)×(List Bool)×(List Int)×Int×(List (List Int))×Int×Int×(List (List Int))×Int×Int)
 |0,_=>none
 |n+1,(t0,t1,t5,t6,t10,t12,t13,t39,t40,t41,t45,t46,t47,t51,t52,t53)=>
 if decide (t53<t52)then
 if inb t53 t51 then
 if inb t53 t12 then
 if inb t53 t5 then
 if t0≠0 then
 BZ n (t0,t1,t5,t6,t10,t12,w64 ((w64 (t13*t0))+(Int.tmod (w64 ((w64 ((w64 ((gd t51 t53 0)+(gd t12 t53 0)))-(gd t5 t53 0)))+t0)) t0)),t39,t40,t41,t45,t46,t47,t51,t52,w64 (t53+1))
 else none
 else none
 else none
 else none
 else
 some (t0,t1,t5,t6,t10,t13,t39,t40,t41,t45,t46,t47)
def BY:Nat->(Int×(List (List Int))×(List Int)×(List Bool)×(List Int)×(List (List Int))×Int×Int×(List (List Int))×Int×Int)->Option ((Int×(List (List Int))×(List Int)×(List Bool)×(List (List Int))×Int×Int)⊕(Bool))
 |0,_=>none
 |n+1,(t0,t1,t5,t6,t10,t39,t40,t41,t45,t46,t47)=>
 if decide (t47<t46)then
 if inb t47 t45 then
 (BZ Aa (t0,t1,t5,t6,t10,gd t45 t47 [],0,t39,t40,t41,t45,t46,t47,t10,(t10.length:Int),0)).bind λs4=>
 if inb s4.2.2.2.2.2.1 s4.2.2.2.1 then
 if !(gd s4.2.2.2.1 s4.2.2.2.2.2.1 false)then
 some (.inr false)
 else
 BY n (s4.1,s4.2.1,s4.2.2.1,s4.2.2.2.1,s4.2.2.2.2.1,s4.2.2.2.2.2.2.1,s4.2.2.2.2.2.2.2.1,s4.2.2.2.2.2.2.2.2.1,s4.2.2.2.2.2.2.2.2.2.1,s4.2.2.2.2.2.2.2.2.2.2.1,w64 (s4.2.2.2.2.2.2.2.2.2.2.2+1))
 else none
 else none
 else
 some (.inl (t0,t1,t5,t6,t39,t40,t41))
def Cy:Nat->(Int×(List (List Int))×(List Int)×(List Bool)×(List (List Int))×Int×Int)->Option ((Unit)⊕(Bool))
 |0,_=>none
 |n+1,(t0,t1,t5,t6,t39,t40,t41)=>
  if decide (t41<t40)then
   if inb t41 t39 then
    (BY Aa (t0,t1,t5,t6,gd t39 t41 [],t39,t40,t41,t1,(t1.length:Int),0)).bind λs4=>
     match s4 with
     | .inl s5=>
      Cy n (s5.1,s5.2.1,s5.2.2.1,s5.2.2.2.1,s5.2.2.2.2.1,s5.2.2.2.2.2.1,w64 (s5.2.2.2.2.2.2+1))
     | .inr s6=>
      some (.inr s6)
   else none
  else
   some (.inl ())
def E3 (t0:Int) (t1:List (List Int)):Option (Bool):=
 if(t1.length:Int)==0 then
  some true
 else
  if inb 0 t1 then
   (B5 t0 ((gd t1 0 []).length:Int)).bind λr1=>
    if 0<=r1/\r1<=r1/\r1<=lim then
     (Cf Aa (t0,t1,gd t1 0 [],List.replicate (Int.toNat r1) (false:Bool),t1,(t1.length:Int),0)).bind λs2=>
      (Cy Aa (s2.1,s2.2.1,s2.2.2.1,s2.2.2.2,s2.2.1,(s2.2.1.length:Int),0)).bind λs3=>
       match s3 with
       | .inl s4=>
        some true
       | .inr s5=>
        some s5
    else none
  else none
def Dk (p:Int) (k:Int) (tuples:List (List Int)):Option (Bool×Bool):=
 (Ez p).bind λr1=>
 if !r1 then
 some (false,false)
 else
 (Ep p k tuples).bind λr2=>
 if !r2 then
 some (false,false)
 else
 (E3 p tuples).bind λr3=>
 some (r3,true)
end T
open Go Go.Va
namespace T
abbrev Lin:=Int×Int×List (List Int)
def Hr (a:Lin):Prop:=a.2.2.length<=1048576/\ ∀r∈a.2.2,r.length<=1048576
def Cp (p:Int):Bool:=p==2||p==3||p==5||p==7
theorem FC (p:Int):Ez p=some (Cp p):=by
 unfold Ez Cp
 by_cases h2:p=2
 ·simp[h2]
 ·by_cases h3:p=3
  ·simp[h3]
  ·by_cases h5:p=5<;>simp[h2,h3,h5]
theorem AU (p:Int):Dw p=some (Cp p):=by
 unfold Dw Cp
 by_cases h2:p=2
 ·simp[h2]
 ·by_cases h3:p=3
  ·simp[h3]
  ·by_cases h5:p=5<;>simp[h2,h3,h5]
theorem EB (x a b:Int):EH x a b=some (decide (a<=x/\x<=b)):=by
 unfold EH
 by_cases h:a<=x<;>simp[h]
def Ay (n:Int) (l:List Int):Bool:=l.all λx=>decide (0<=x/\x<n)
theorem C9 {l:List Int} (n:Int) (hl:l.length<=1099511627775):C7 l n=some (Ay n l):=by
 unfold C7
 rw[IM l (λm i=>C8 m (n,l,(l.length:Int),i)) (λx=>decide (0<=x/\x<n)) (.inr false) (.inl ()) ?_ ?_ (by unfold Aa;omega)]
 ·unfold Ay;cases l.all (λx=>decide (0<=x/\x<n))<;>simp
 ·intro m k hk
  simp only[C8,Ae,Ak hk,Ac (show k<4611686018427387904 by omega)]
  by_cases h1:l[k]<0
  ·simp[hk,h1,show¬0<=l[k] by omega]
  ·by_cases h2:n<=l[k]
   ·simp[hk,h1,h2,show¬l[k]<n by omega]
   ·simp[hk,h1,h2,show 0<=l[k]/\l[k]<n by omega]
 ·intro m
  simp[C8]
theorem Gl {l:List Int} {n:Int} (hn: -9223372036854775808<n) (hn':n<=9223372036854775807) (hl:l.length<=1099511627775):Eu n l=some (Ay n l):=by
 unfold Eu
 rw[IM l (λm i=>Cl m (n,l,i)) (λx=>decide (0<=x/\x<n)) (.inr false) (.inl ()) ?_ ?_ (by unfold Aa;omega)]
 ·unfold Ay;cases l.all (λx=>decide (0<=x/\x<n))<;>simp
 ·intro m k hk
  simp only[Cl,Ae,Ak hk,Ac (show k<4611686018427387904 by omega),EB,Ao (show-9223372036854775808<=n-1 by omega) (show n-1<=9223372036854775807 by omega)]
  by_cases h1:0<=l[k]/\l[k]<n
  ·simp[hk,h1,show l[k]<=n-1 by omega]
  ·have: ¬(0<=l[k]/\l[k]<=n-1):=by omega
   simp[hk,h1,this]
 ·intro m
  simp[Cl]
theorem FG {l:List Int} {n:Int} (k:Int) (hn: -9223372036854775808<n) (hn':n<=9223372036854775807) (hl:l.length<=1099511627775):ED n k l=some (decide ((l.length:Int)=k)&&Ay n l):=by
 unfold ED
 rw[Gl hn hn' hl]
 by_cases h:(l.length:Int)=k<;>simp[h]
def Dr (a:Lin):Bool:=Cp a.1&&decide (0<=a.2.1/\a.2.1<=8)&&decide (a.2.2.length<=8)&&a.2.2.all λr=>decide ((r.length:Int)=a.2.1+1)&&Ay a.1 r
theorem HQ {p:Int} (h:Cp p=true):2<=p/\p<=7:=by
 unfold Cp at h;simp at h;omega
theorem DX {a:Lin} (h:Hr a):D8 a=some (Dr a):=by
 obtain⟨p,v,rows⟩:=a
 unfold D8 Dr
 rw[FC]
 cases hp:Cp p with
 |false=>simp[hp]
 |true=>
  by_cases h1:v<0
  ·simp[hp,h1,show¬0<=v by omega]
  ·by_cases h2:v>8
   ·simp[hp,h1,h2,show¬v<=8 by omega]
   ·by_cases h3:rows.length>8
    ·simp[hp,h1,h2,show¬rows.length<=8 by omega,show(rows.length:Int)>8 by omega]
    ·have key:=IM rows (λm i=>CH m ((p,(v,rows)),rows,(rows.length:Int),i)) (λr=>decide ((r.length:Int)=v+1)&&Ay p r) (.inr false) (.inl ()) ?_ ?_ (n:=Aa) (by unfold Aa;omega)
     ·simp only[Option.bind_some,hp,Bool.not_true,Bool.false_eq_true,if_false]
      rw[if_neg (by simpa using h1),if_neg (by simpa using h2),if_neg (by simp;omega),key]
      cases rows.all (λr=>decide ((r.length:Int)=v+1)&&Ay p r)<;>simp<;>omega
     ·intro m k hk
      have hlen:=h.2 rows[k] (List.getElem_mem hk)
      simp only[CH,Ae,Ak hk,Ac (show k<4611686018427387904 by omega),Ao (show-9223372036854775808<=v+1 by omega) (show v+1<=9223372036854775807 by omega),C9 p (show rows[k].length<=1099511627775 by omega)]
      by_cases h4:(rows[k].length:Int)=v+1
      ·cases hb:Ay p rows[k]<;>simp[hk,h4,hb]
      ·simp[hk,h4]
     ·intro m
      simp[CH]
theorem G4 {rows:List (List Int)} {p v:Int} (hp:2<=p/\p<=7) (hv:0<=v/\v<=8) (hl:rows.length<=8) (hr: ∀r∈rows,r.length<=1099511627775):Fy p v rows=some (rows.all λr=>decide ((r.length:Int)=v+1)&&Ay p r):=by
 unfold Fy
 rw[IM rows (λm i=>CY m (p,v,rows,i)) (λr=>decide ((r.length:Int)=v+1)&&Ay p r) (.inr false) (.inl ()) ?_ ?_ (by unfold Aa;omega)]
 ·cases rows.all (λr=>decide ((r.length:Int)=v+1)&&Ay p r)<;>simp
 ·intro m k hk
  simp only[CY,Ae,Ak hk,Ac (show k<4611686018427387904 by omega),Ao (show-9223372036854775808<=v+1 by omega) (show v+1<=9223372036854775807 by omega),FG _ (by omega: -9223372036854775808<p) (by omega) (hr _ (List.getElem_mem hk))]
  cases hb:(decide ((rows[k].length:Int)=v+1)&&Ay p rows[k])<;>simp[hk]
 ·intro m
  simp[CY]
theorem GV {a:Lin} (h:Hr a):E4 a=some (Dr a):=by
 obtain⟨p,v,rows⟩:=a
 unfold E4 Cz Dr
 rw[AU,EB]
 cases hp:Cp p with
 |false=>simp[hp]
 |true=>
  have hb:=HQ hp
  by_cases h1:0<=v/\v<=8
  ·by_cases h3:rows.length<=8
   ·rw[G4 hb h1 h3 λr hr=>by have:=h.2 r hr;omega]
    simp[hp,h1,h3,show(rows.length:Int)<=8 by omega]
   ·simp[hp,h1,h3,show¬(rows.length:Int)<=8 by omega]
  ·simp[hp,h1]
end T
open Go Go.Va
namespace T
theorem Hf {n:Int} {l:List Int} (h:Ay n l=true) (k:Nat) (hk:k<l.length):0<=l[k]/\l[k]<n:=by
 have:=(List.all_eq_true.1 h) l[k] (List.getElem_mem hk)
 simpa using this
section
variable {p v:Int} {rows:List (List Int)} {y:List Int}
end
end T
open Go Go.Va
namespace T
def cmpL:List Int->List Int->Int
 | [],[]=>0
 | [],_::_=> -1
 |_::_,[]=>1
 |a::s,b::t=>if a=b then cmpL s t else if a<b then-1 else 1
theorem IP {s t:List Int} (hs:s.length<=1099511627775): ∀(n k:Nat),k<=s.length->k<=t.length->s.length-k<n->
  (Bp n (s,t,(k:Int))).bind (λs1=>match s1 with
   | .inl s2=>if decide ((s2.1.length:Int)<(s2.2.length:Int))then some (-1)else if decide ((s2.1.length:Int)>(s2.2.length:Int))then some 1 else some 0
   | .inr s3=>some s3)=some (cmpL (s.drop k) (t.drop k)):=by
 intro n
 induction n with
 |zero=>intro k _ _ h;omega
 |succ n ih=>
  intro k h1 h2 hn
  by_cases k1:k<s.length
  ·by_cases k2:k<t.length
   ·rw[List.drop_eq_getElem_cons k1,List.drop_eq_getElem_cons k2]
    simp only[Bp,Ae,Ak k1,Ak k2,Ac (show k<4611686018427387904 by omega),cmpL]
    by_cases he:s[k]=t[k]
    ·have:=ih (k+1) k1 k2 (by omega)
     simp[k1,k2,he]
     simpa using this
    ·by_cases hl:s[k]<t[k]<;>simp[k1,k2,he,hl]
   ·rw[List.drop_eq_getElem_cons k1,List.drop_of_length_le (show t.length<=k by omega)]
    have e:k=t.length:=by omega
    simp only[Bp,cmpL]
    simp[k1,k2,show¬s.length<t.length by omega,show t.length<s.length by omega]
  ·rw[List.drop_of_length_le (show s.length<=k by omega)]
   simp only[Bp]
   by_cases k2:k<t.length
   ·rw[List.drop_eq_getElem_cons k2]
    simp[k1,cmpL,show s.length<t.length by omega]
   ·rw[List.drop_of_length_le (show t.length<=k by omega)]
    simp[k1,cmpL,show¬s.length<t.length by omega,show¬t.length<s.length by omega]
theorem Ed {s t:List Int} (hs:s.length<=1099511627775):DM s t=some (cmpL s t):=by
 have:=IP (t:=t) hs Aa 0 (Nat.zero_le _) (Nat.zero_le _) (by unfold Aa;omega)
 rw[List.drop_zero,List.drop_zero]at this
 exact this
theorem FT {s t:List Int} (hs:s.length<=1099511627775) (hl:s.length=t.length):FR s t=some (decide (cmpL s t<0)):=by
 have key: ∀(n k:Nat),k<=s.length->s.length-k<n->(Dh n (s,t,(k:Int))).bind (λs1=>match s1 with| .inl _=>some false| .inr s3=>some s3)=some (decide (cmpL (s.drop k) (t.drop k)<0)):=by
  intro n
  induction n with
  |zero=>intro k _ h;omega
  |succ n ih=>
   intro k h1 hn
   by_cases k1:k<s.length
   ·have k2:k<t.length:=by omega
    rw[List.drop_eq_getElem_cons k1,List.drop_eq_getElem_cons k2]
    simp only[Dh,Ae,Ak k1,Ak k2,Ac (show k<4611686018427387904 by omega),cmpL]
    by_cases he:s[k]=t[k]
    ·have:=ih (k+1) k1 (by omega)
     simp[k1,k2,he]
     simpa using this
    ·by_cases hl:s[k]<t[k]<;>simp[k1,k2,he,hl]
   ·rw[List.drop_of_length_le (show s.length<=k by omega),List.drop_of_length_le (show t.length<=k by omega)]
    simp[Dh,k1,cmpL]
 have:=key Aa 0 (Nat.zero_le _) (by unfold Aa;omega)
 rw[List.drop_zero,List.drop_zero]at this
 exact this
theorem Hy {a b:List Int} (ha:a.length<=1099511627775):FP a b=some (decide (a=b)):=by
 unfold FP
 by_cases hl:a.length=b.length
 ·rw[if_neg (by simp[hl]),eqX a b hl (λn i=>Df n (a,b,i)) ?_ ?_ (by unfold Aa;omega)]
  ·by_cases h:a=b<;>simp[h]
  ·intro n k h1 h2
   simp only[Df,Ae,Ak h1,Ak h2,Ac (show k<4611686018427387904 by omega)]
   by_cases h:a[k]=b[k]<;>simp[h1,h2,h]
  ·intro n
   simp[Df]
 ·rw[if_pos (by simp;omega),decide_eq_false (λe=>hl (by rw[e]))]
theorem cmpL_refl: ∀s,cmpL s s=0
 | []=>rfl
 |a::s=>by simp[cmpL,cmpL_refl s]
theorem cmpL_eq: ∀ {s t},cmpL s t=0↔s=t
 | [],[]=>by simp[cmpL]
 | [],_::_=>by simp[cmpL]
 |_::_,[]=>by simp[cmpL]
 |a::s,b::t=>by
  simp only[cmpL]
  by_cases h:a=b
  ·rw[if_pos h,cmpL_eq];simp[h]
  ·rw[if_neg h];split<;>simp[h]
theorem cmpL_symm: ∀s t,cmpL t s= -cmpL s t
 | [],[]=>by simp[cmpL]
 | [],_::_=>by simp[cmpL]
 |_::_,[]=>by simp[cmpL]
 |a::s,b::t=>by
  simp only[cmpL]
  by_cases h:a=b
  ·rw[if_pos h,if_pos h.symm,cmpL_symm s t]
  ·rw[if_neg h,if_neg (Ne.symm h)]
   by_cases h2:a<b
   ·rw[if_pos h2,if_neg (by omega)];rfl
   ·rw[if_neg h2,if_pos (by omega)]
theorem cmpL_trans: ∀ {s t u},cmpL s t<0->cmpL t u<0->cmpL s u<0
 | [],[],_,h,_=>by simp[cmpL]at h
 | [],_::_,[],_,h=>by simp[cmpL]at h
 | [],_::_,_::_,_,_=>by simp[cmpL]
 |_::_,[],_,h,_=>by simp[cmpL]at h
 |_::_,_::_,[],_,h=>by simp[cmpL]at h
 |a::s,b::t,c::u,h1,h2=>by
  simp only[cmpL]at*
  by_cases e1:a=b
  ·rw[if_pos e1]at h1
   by_cases e2:b=c
   ·rw[if_pos e2]at h2;rw[if_pos (e1.trans e2)];exact cmpL_trans h1 h2
   ·rw[if_neg e2]at h2;rw[e1,if_neg e2];exact h2
  ·rw[if_neg e1]at h1
   have l1:a<b:=by
    by_cases h:a<b
    ·exact h
    ·rw[if_neg h]at h1;omega
   by_cases e2:b=c
   ·rw[←e2,if_neg e1,if_pos l1];omega
   ·rw[if_neg e2]at h2
    have l2:b<c:=by
     by_cases h:b<c
     ·exact h
     ·rw[if_neg h]at h2;omega
    rw[if_neg (by omega),if_pos (by omega)];omega
def Dl:List (List Int)->Bool
 |a::b::l=>decide (cmpL a b<0)&&Dl (b::l)
 |_=>true
theorem JN {a:List Int} {l:List (List Int)} (h:Dl (a::l)=true):Dl l=true:=by
 cases l with
 |nil=>rfl
 |cons b l=>simp only[Dl,Bool.and_eq_true]at h;exact h.2
theorem HL: ∀ {a:List Int} {l:List (List Int)},Dl (a::l)=true-> ∀b∈l,cmpL a b<0
 |a,[],_,b,hb=>by cases hb
 |a,c::l,h,b,hb=>by
  simp only[Dl,Bool.and_eq_true,decide_eq_true_eq]at h
  rcases List.mem_cons.1 hb with rfl|hb
  ·exact h.1
  ·exact cmpL_trans h.1 (HL h.2 b hb)
theorem EY: ∀ {l:List (List Int)},Dl l=true-> ∀(i j:Nat) (hi:i<j) (hj:j<l.length),cmpL (l[i]'(by omega)) l[j]<0
 | [],_,i,j,_,hj=>by simp at hj
 |a::l,h,0,j+1,_,hj=>by
  simp only[List.getElem_cons_zero,List.getElem_cons_succ]
  exact HL h _ (List.getElem_mem _)
 |a::l,h,i+1,j+1,hi,hj=>by
  simp only[List.getElem_cons_succ]
  exact EY (JN h) i j (by omega) (by simpa using hj)
theorem Ho {l:List (List Int)}:Dl l=true↔ ∀(i:Nat) (hi:i+1<l.length),cmpL (l[i]'(by omega)) l[i+1]<0:=by
 constructor
 ·exact λh i hi=>EY h i (i+1) (by omega) hi
 ·induction l with
  |nil=>intro _;rfl
  |cons a l ih=>
   intro h
   cases l with
   |nil=>rfl
   |cons b l=>
    simp only[Dl,Bool.and_eq_true,decide_eq_true_eq]
    exact⟨h 0 (by simp),ih λi hi=>by have:=h (i+1) (by simpa using hi);simpa using this⟩
end T
open Go Go.Va
namespace T
theorem GS {n:Int} (h0:0<=n) (h8:n<=8): ∀k:Nat,0<=n^k/\n^k<=8^k
 |0=>by simp
 |k+1=>by
  obtain⟨h1,h2⟩:=GS h0 h8 k
  rw[Int.pow_succ,Int.pow_succ]
  exact⟨Int.mul_nonneg h1 h0,Int.mul_le_mul h2 h8 h0 (by have:(0:Int)<=8^k:=Int.le_trans h1 h2;exact this)⟩
theorem Lt: ∀k:Nat,k<=20->(8:Int)^k<=8^20:=by
 intro k hk
 have:((8^k:Nat):Int)<=((8^20:Nat):Int):=Int.ofNat_le.2 (Nat.pow_le_pow_right (by omega) hk)
 simpa using this
theorem GR {n:Int} (h0:0<=n) (h8:n<=8) {k:Nat} (hk:k<=20):0<=n^k/\n^k<=1152921504606846976:=by
  obtain⟨h1,h2⟩:=GS h0 h8 k
  have:=Lt k hk
  exact ⟨h1, by have e : (8 : Int) ^ 20 = 1152921504606846976 := by decide
                omega⟩
theorem KO {n:Int} (h0:0<=n) (h8:n<=8): ∀(m k j:Nat),j+k<=20->k<m->Cc m (n,(k:Int),n^j)=some (n^(j+k)):=by
 intro m
 induction m with
 |zero=>intro k j _ h;omega
 |succ m ih=>
  intro k j hj hk
  simp only[Cc]
  cases k with
  |zero=>simp
  |succ k=>
   have e:w64 (((k+1:Nat):Int)-1)=(k:Int):=by rw[Ao (by omega) (by omega)];omega
   have hb:=GR h0 h8 (k:=j+1) (by omega)
   rw[Int.pow_succ]at hb
   rw[e,Ao (by omega) (by omega),←Int.pow_succ,if_pos (by simp),ih k (j+1) (by omega) (by omega)]
   congr 2<;>omega
theorem D9 {n:Int} (h0:0<=n) (h8:n<=8) {k:Nat} (hk:k<=20):B5 n (k:Int)=some (n^k):=by
 unfold B5
 have:=KO h0 h8 Aa k 0 (by omega) (by unfold Aa;omega)
 rw[Int.pow_zero]at this
 rw[this];simp
theorem KD {n:Int} (h0:0<=n) (h8:n<=8): ∀(m k j:Nat),j+k<=20->k<m->Eb m (n,(k:Int),n^j)=some (n^(j+k)):=by
 intro m
 induction m with
 |zero=>intro k j _ h;omega
 |succ m ih=>
  intro k j hj hk
  simp only[Eb]
  cases k with
  |zero=>simp
  |succ k=>
   have e:w64 (((k+1:Nat):Int)-1)=(k:Int):=by rw[Ao (by omega) (by omega)];omega
   have hb:=GR h0 h8 (k:=j+1) (by omega)
   rw[Int.pow_succ]at hb
   rw[e,Ao (by omega) (by omega),←Int.pow_succ,if_pos (by simp),ih k (j+1) (by omega) (by omega)]
   congr 2<;>omega
theorem F9 {n:Int} (h0:0<=n) (h8:n<=8) {k:Nat} (hk:k<=20):Fz n (k:Int)=some (n^k):=by
 unfold Fz
 have:=KD h0 h8 Aa k 0 (by omega) (by unfold Aa;omega)
 rw[Int.pow_zero]at this
 rw[this];simp
def FM (n:Int):Int->List Int->Int
 |i,[]=>i
 |i,a::l=>FM n (i*n+a) l
def idx (n:Int) (l:List Int):Int:=FM n 0 l
theorem H5 (n:Int): ∀(l:List Int) (i:Int),FM n i l=i*n^l.length+FM n 0 l
 | [],i=>by simp[FM]
 |a::l,i=>by
  simp only[FM,List.length_cons]
  rw[H5 n l (i*n+a),H5 n l (0*n+a),Int.pow_succ]
  simp only[Int.zero_mul,Int.zero_add]
  rw[Int.add_mul,Int.mul_assoc,Int.mul_comm n (n^l.length)]
  omega
theorem Hm (n a:Int) (l:List Int):idx n (a::l)=a*n^l.length+idx n l:=by
 unfold idx
 simp only[FM]
 rw[H5];simp
theorem FJ {n a:Int} {l:List Int}:Ay n (a::l)=true↔(0<=a/\a<n)/\Ay n l=true:=by
 unfold Ay;simp[List.all_cons]
theorem EL {n:Int}: ∀ {l:List Int},Ay n l=true->0<=idx n l/\idx n l<n^l.length
 | [],_=>by simp[idx,FM]
 |a::l,h=>by
  obtain⟨h1,h2⟩:=FJ.1 h
  obtain⟨h3,h4⟩:=EL h2
  rw[Hm,List.length_cons,Int.pow_succ]
  have hp:0<=n^l.length:=by omega
  have k1:=Int.mul_nonneg h1.1 hp
  have k2:=Int.mul_le_mul_of_nonneg_right (show a+1<=n by omega) hp
  rw[Int.add_mul,Int.one_mul,Int.mul_comm n]at k2
  exact⟨by omega,by omega⟩
theorem H6 {n:Int}: ∀ {s t:List Int},Ay n s=true->Ay n t=true->s.length=t.length->(cmpL s t<0↔idx n s<idx n t)/\(cmpL s t=0↔idx n s=idx n t)
 | [],[],_,_,_=>by simp[cmpL,idx,FM]
 | [],_::_,_,_,h=>by simp at h
 |_::_,[],_,_,h=>by simp at h
 |a::s,b::t,hs,ht,hl=>by
  obtain⟨s1,s2⟩:=FJ.1 hs
  obtain⟨t1,t2⟩:=FJ.1 ht
  have hl':s.length=t.length:=by simpa using hl
  have ih:=H6 s2 t2 hl'
  obtain⟨b1,b2⟩:=EL s2
  obtain⟨c1,c2⟩:=EL t2
  rw[Hm,Hm,hl']
  rw[hl']at b2
  simp only[cmpL]
  have hp:0<=n^t.length:=by omega
  rcases Int.lt_trichotomy a b with h|h|h
  ·have:=Int.mul_le_mul_of_nonneg_right (show a+1<=b by omega) hp
   rw[Int.add_mul,Int.one_mul]at this
   rw[if_neg (by omega),if_pos h]
   exact⟨by constructor<;>intro<;>omega,by constructor<;>intro<;>omega⟩
  ·subst h
   rw[if_pos rfl]
   exact⟨by rw[ih.1];constructor<;>intro<;>omega,by rw[ih.2];constructor<;>intro<;>omega⟩
  ·have:=Int.mul_le_mul_of_nonneg_right (show b+1<=a by omega) hp
   rw[Int.add_mul,Int.one_mul]at this
   rw[if_neg (by omega),if_neg (by omega)]
   exact⟨by constructor<;>intro<;>omega,by constructor<;>intro<;>omega⟩
theorem Lh {n:Int} {s t:List Int} (hs:Ay n s=true) (ht:Ay n t=true) (hl:s.length=t.length) (h:idx n s=idx n t):s=t:=cmpL_eq.1 ((H6 hs ht hl).2.2 h)
theorem IY {n:Int} {t:List Int} (h0:1<=n) (h8:n<=8) (hl:t.length<=20) (hb:Ay n t=true):Fv t n=some (idx n t):=by
 unfold Fv
 have hpre: ∀k,k<=t.length->Ay n (t.take k)=true:=λk _=>by
  unfold Ay at*
  rw[List.all_eq_true]at*
  exact λx hx=>hb x (List.mem_of_mem_take hx)
 have hstep: ∀k (hk:k<t.length),idx n (t.take (k+1))=idx n (t.take k)*n+t[k]:=λk hk=>by
  have: ∀(l:List Int) (i a:Int),FM n i (l++ [a])=FM n i l*n+a:=by
   intro l
   induction l with
   |nil=>intro i a;simp[FM]
   |cons b l ih=>intro i a;simp only[List.cons_append,FM];exact ih _ _
  unfold idx
  rw[List.take_succ_eq_append_getElem hk];exact this _ _ _
 have:=BL t.length (λm s i=>CX m (n,s,t,(t.length:Int),i)) (λk=>idx n (t.take k)) (r:=some (idx n t)) (λm k hk=>?_) (λm=>?_) (n:=Aa) (by unfold Aa;omega)
 ·simp only[List.take_zero]at this
  have e:idx n []=0:=rfl
  rw[e]at this
  rw[this];rfl
 ·have b1:=EL (hpre k (by omega))
  have b2:=EL (hpre (k+1) hk)
  have p1:=GR (n:=n) (by omega) h8 (k:=k+1) (by omega)
  have e1:(t.take (k+1)).length=k+1:=by simp;omega
  rw[e1,hstep k hk]at b2
  have hx:=Hf hb k hk
  have hm:=Int.mul_nonneg b1.1 (show 0<=n by omega)
  simp only[CX,Ae,Ak hk,Ac (show k<4611686018427387904 by omega),Ao (show-9223372036854775808<=idx n (t.take k)*n by omega) (by omega),Ao (show-9223372036854775808<=idx n (t.take k)*n+t[k] by omega) (by omega)]
  rw[←hstep k hk];simp[hk]
 ·simp[CX]
theorem GQ {n:Int} {k:Nat} {l:List (List Int)} (hi:Dl l=true) (hv: ∀t∈l,t.length=k/\Ay n t=true):(l.length:Int)<=n^k∨l= []:=by
 have key: ∀(i:Nat) (h:i<l.length),(i:Int)<=idx n l[i]:=by
  intro i
  induction i with
  |zero=>intro h;exact(EL (hv _ (List.getElem_mem h)).2).1
  |succ i ih=>
   intro h
   have h1:=ih (by omega)
   obtain⟨l1,b1⟩:=hv _ (List.getElem_mem (show i<l.length by omega))
   obtain⟨l2,b2⟩:=hv _ (List.getElem_mem h)
   have:=(H6 b1 b2 (l1.trans l2.symm)).1.1 (EY hi i (i+1) (by omega) h)
   omega
 cases hn:l.length with
 |zero=>exact .inr (List.length_eq_zero_iff.1 hn)
 |succ m=>
  left
  have h:=key m (by omega)
  obtain⟨l1,b1⟩:=hv _ (List.getElem_mem (show m<l.length by omega))
  have:=(EL b1).2
  rw[l1]at this
  omega
theorem Lf {list:List (List Int)} {t:List Int} {k:Nat} (hl:list.length<=1099511627775) (hk:k<=1099511627775) (hv: ∀u∈list,u.length=k) (ht:t.length=k) (hi:Dl list=true): ∀(m a b:Nat),a<=b->b<=list.length->b-a<m->
  (∀i (h:i<list.length),i<a->cmpL list[i] t<0)->(∀i (h:i<list.length),b<=i-> ¬cmpL list[i] t<0)->
  ∃c:Nat,CQ m (list,t,(a:Int),(b:Int))=some (list,t,(c:Int))/\c<=list.length/\(∀i (h:i<list.length),i<c->cmpL list[i] t<0)/\(∀i (h:i<list.length),c<=i-> ¬cmpL list[i] t<0):=by
 intro m
 induction m with
 |zero=>intro a b _ _ h;omega
 |succ m ih=>
  intro a b hab hb hm h1 h2
  simp only[CQ]
  by_cases hlt:a<b
  ·have emid:w64 (Int.tdiv (w64 ((a:Int)+b)) 2)=(((a+b)/2:Nat):Int):=by
    rw[Ao (x:=(a:Int)+b) (by omega) (by omega),Int.tdiv_eq_ediv_of_nonneg (by omega),Ao (by omega) (by omega)];omega
   have hmid:(a+b)/2<list.length:=by omega
   rw[emid]
   have hless:=FT (s:=list[(a+b)/2]) (t:=t) (by rw[hv _ (List.getElem_mem hmid)];omega) (by rw[hv _ (List.getElem_mem hmid),ht])
   simp only[Ae,Ak hmid,hless,Option.bind_some,Ac (show(a+b)/2<4611686018427387904 by omega)]
   by_cases hc:cmpL list[(a+b)/2] t<0
   ·obtain⟨c,e,k1,k2,k3⟩:=ih ((a+b)/2+1) b (by omega) hb (by omega) (λi h hi'=>by
     rcases Nat.lt_or_ge i ((a+b)/2)with h'|h'
     ·exact cmpL_trans (EY hi i ((a+b)/2) h' hmid) hc
     ·have:i=(a+b)/2:=by omega
      subst this;exact hc) h2
    exact⟨c,by simpa[hlt,hmid,hc]using e,k1,k2,k3⟩
   ·obtain⟨c,e,k1,k2,k3⟩:=ih a ((a+b)/2) (by omega) (by omega) (by omega) h1 (λi h hi' hneg=>by
     rcases Nat.lt_or_ge ((a+b)/2) i with h'|h'
     ·exact hc (cmpL_trans (EY hi ((a+b)/2) i h' h) hneg)
     ·have:i=(a+b)/2:=by omega
      subst this;exact hc hneg)
    exact⟨c,by simpa[hlt,hmid,hc]using e,k1,k2,k3⟩
  ·have:a=b:=by omega
   subst this
   exact⟨a,by simp,hb,h1,h2⟩
theorem EU {list:List (List Int)} {t:List Int} {k:Nat} (hl:list.length<=1099511627774) (hk:k<=1099511627775) (hv: ∀u∈list,u.length=k) (ht:t.length=k) (hi:Dl list=true):
  ∃c:Nat,Cd list t=some ((c:Int),decide (t∈list))/\c<=list.length/\(∀i (h:i<list.length),i<c->cmpL list[i] t<0)/\(∀i (h:i<list.length),c<=i-> ¬cmpL list[i] t<0):=by
 obtain⟨c,e,k1,k2,k3⟩:=Lf (by omega) hk hv ht hi Aa 0 list.length (Nat.zero_le _) (Nat.le_refl _) (by unfold Aa;omega) (λi _ h=>by omega) (λi h h'=>by omega)
 refine⟨c,?_,k1,k2,k3⟩
 unfold Cd
 have e':CQ Aa (list,t,0,(list.length:Int))=some (list,t,(c:Int)):=e
 rw[e']
 simp only[Option.bind_some]
 by_cases hc:c<list.length
 ·have hs:=Hy (a:=list[c]) (b:=t) (by rw[hv _ (List.getElem_mem hc)];omega)
  simp only[Ae,Ak hc,hs,Option.bind_some]
  have:decide (list[c]=t)=decide (t∈list):=by
   by_cases h:list[c]=t
   ·rw[decide_eq_true h,decide_eq_true (h▸List.getElem_mem hc)]
   ·rw[decide_eq_false h]
    symm;rw[decide_eq_false_iff_not]
    intro hm
    obtain⟨j,hj,rfl⟩:=List.mem_iff_getElem.1 hm
    have hne:j≠c:=λe=>h (by subst e;rfl)
    rcases Nat.lt_or_ge j c with hlt|hge
    ·have:=k2 j hj hlt;rw[cmpL_refl]at this;omega
    ·exact k3 c hc (Nat.le_refl _) (EY hi c j (by omega) hj)
  simp[hc,this]
 ·have:decide (t∈list)=false:=by
   rw[decide_eq_false_iff_not]
   intro hm
   obtain⟨j,hj,rfl⟩:=List.mem_iff_getElem.1 hm
   have:=k2 j hj (by omega);rw[cmpL_refl]at this;omega
  rw[if_neg (by simp;omega),this]
end T
open Go Go.Va
namespace T
def Ef (n:Int):Bool:=decide (1<=n/\n<=8)
theorem Db (n:Int):DI n=some (Ef n):=by
 unfold DI Ef
 by_cases h:1<=n<;>simp[h]
theorem ET (n:Int):E1 n=some (Ef n):=by
 unfold E1 Ef
 rw[EB];simp
def Ih (n k:Int) (t:List Int):Bool:=decide ((t.length:Int)=k)&&Ay n t
def Es (n k:Int) (ts:List (List Int)):Bool:=Ef n&&decide (1<=k/\k<=4)&&ts.all (Ih n k)&&Dl ts
def Ei (n k:Int) (ts:List (List Int)) (i:Nat):Bool:=Ih n k (ts.getD i [])&&(decide (i=0)||decide (cmpL (ts.getD (i-1) []) (ts.getD i [])<0))
theorem Ax {α:Type} {l:List α} {i:Nat} {d:α} (h:i<l.length):l.getD i d=l[i]:=by simp[h]
theorem IA (n k:Int) (ts:List (List Int)):(List.range ts.length).all (Ei n k ts)=(ts.all (Ih n k)&&Dl ts):=by
 rw[Bool.eq_iff_iff,Bool.and_eq_true,List.all_eq_true,List.all_eq_true,Ho]
 constructor
 ·intro h
  refine⟨λt ht=>?_,λi hi=>?_⟩
  ·obtain⟨i,hi,rfl⟩:=List.mem_iff_getElem.1 ht
   have:=h i (by simpa using hi)
   unfold Ei at this
   rw[Ax hi]at this
   simp at this;exact this.1
  ·have:=h (i+1) (by simpa using hi)
   unfold Ei at this
   rw[Ax hi,Nat.add_sub_cancel,Ax (show i<ts.length by omega)]at this
   simp only[Bool.and_eq_true,Bool.or_eq_true,decide_eq_true_eq]at this
   exact this.2.resolve_left (by omega)
 ·rintro ⟨h1,h2⟩ i hi
  have hi:i<ts.length:=by simpa using hi
  unfold Ei
  rw[Ax hi]
  simp only[Bool.and_eq_true,Bool.or_eq_true,decide_eq_true_eq]
  refine⟨h1 _ (List.getElem_mem hi),?_⟩
  cases i with
  |zero=>exact .inl rfl
  |succ i=>right;rw[Nat.add_sub_cancel,Ax (show i<ts.length by omega)];exact h2 i hi
theorem II {k:Nat} (h:k<4611686018427387904) (h0:0<k):w64 ((k:Int)-1)=((k-1:Nat):Int):=by
 rw[Ao (by omega) (by omega)];omega
theorem Gf {n k:Int} {ts:List (List Int)} (hl:ts.length<=1099511627774) (hr: ∀t∈ts,t.length<=1099511627775):Ep n k ts=some (Es n k ts):=by
 unfold Ep Es
 rw[Db,Bool.and_assoc,←IA]
 cases hs:Ef n with
 |false=>simp
 |true=>
  by_cases h1:k<1
  ·simp[h1,show¬1<=k by omega]
  ·by_cases h4:k>4
   ·simp[h1,h4,show¬k<=4 by omega]
   ·simp only[Option.bind_some,Bool.not_true,Bool.false_eq_true,if_false]
    rw[if_neg (by simpa using h1),if_neg (by simpa using h4)]
    have key:=IU ts.length (λm (_:Unit) i=>BQ m (n,k,ts,ts,(ts.length:Int),i)) (λ_=>()) (Ei n k ts) (r:=some (.inr false)) (e:=some (.inl ())) (λm i hi=>?_) (λm=>?_) (n:=Aa) (by unfold Aa;omega)
    ·rw[key]
     cases (List.range ts.length).all (Ei n k ts)<;>simp<;>omega
    ·have hlen:=hr ts[i] (List.getElem_mem hi)
     unfold Ei Ih
     rw[Ax hi]
     simp only[BQ,Ae,Ak hi,Ac (show i<4611686018427387904 by omega),C9 n hlen,Option.bind_some]
     by_cases hk:(ts[i].length:Int)=k
     ·cases hb:Ay n ts[i]with
      |false=>simp[hi,hk]
      |true=>
       cases i with
       |zero=>simp[hi,hk]
       |succ i=>
        have hi':i<ts.length:=by omega
        rw[II (by omega) (by omega),Nat.add_sub_cancel,Ax hi']
        simp only[Ak hi',Ed (t:=ts[i+1]) (hr ts[i] (List.getElem_mem hi')),Ae,Option.bind_some]
        by_cases hc:cmpL ts[i] ts[i+1]<0
        ·simp[hi,hi',hk,show¬0<=cmpL ts[i] ts[i+1] by omega,show(0:Int)<(i:Int)+1 by omega,show(i:Int)+1<ts.length by omega,hc]
        ·simp[hi,hi',hk,hc,show(0:Int)<(i:Int)+1 by omega,show(i:Int)+1<ts.length by omega,show 0<=cmpL ts[i] ts[i+1] by omega]
     ·simp[hi,hk]
    ·simp[BQ]
theorem I6 {n k:Int} {ts:List (List Int)} (h:Es n k ts=true):(ts.length:Int)<=n^k.toNat:=by
 unfold Es Ef at h
 simp only[Bool.and_eq_true,decide_eq_true_eq,List.all_eq_true]at h
 obtain⟨⟨⟨h1,h2⟩,h3⟩,h4⟩:=h
 rcases GQ (n:=n) (k:=k.toNat) h4 λt ht=>by
  have:=h3 t ht
  unfold Ih at this
  simp only[Bool.and_eq_true,decide_eq_true_eq]at this
  exact⟨by omega,this.2⟩with h|h
 ·exact h
 ·rw[h];exact(GS (by omega) h1.2 k.toNat).1
theorem BV {n k:Int} {ts:List (List Int)} (hl:ts.length<=1099511627774) (hr: ∀t∈ts,t.length<=1099511627775):E0 n k ts=some (Es n k ts):=by
 unfold E0
 rw[ET,EB]
 cases hs:Ef n with
 |false=>simp[Es,hs]
 |true=>
  by_cases h1:1<=k/\k<=4
  ·have hsz:1<=n/\n<=8:=by unfold Ef at hs;simpa using hs
   have hp:=F9 (n:=n) (by omega) hsz.2 (k:=k.toNat) (by omega)
   rw[show((k.toNat:Nat):Int)=k by omega]at hp
   simp only[Option.bind_some,Bool.not_true,Bool.false_eq_true,if_false,h1,and_self,decide_true,hp]
   by_cases hc:(ts.length:Int)>n^k.toNat
   ·rw[if_pos (by simpa using hc)]
    cases h:Es n k ts with
    |false=>rfl
    |true=>have:=I6 h;omega
   ·rw[if_neg (by simpa using hc)]
    have key:=Mv ts.length (λm (_:Unit) i=>CP m (n,k,ts,i)) (λ_=>()) (λi=>if Ei n k ts i then none else some (some (.inr false))) (e:=some (.inl ())) (λm i hi hprev=>?_) (λm=>?_) (n:=Aa) (by unfold Aa;omega)
    ·rw[key]
     unfold Es
     rw[hs,Bool.and_assoc,←IA]
     have: ∀l:List Nat,(l.findSome? λi=>if Ei n k ts i then none else some (some (.inr false:Unit⊕Bool))).getD (some (.inl ()))=if l.all (Ei n k ts)then some (.inl ())else some (.inr false):=by
      intro l
      induction l with
      |nil=>rfl
      |cons a l ih=>
       rw[List.findSome?_cons,List.all_cons]
       cases Ei n k ts a with
       |true=>simpa using ih
       |false=>simp
     rw[this]
     cases (List.range ts.length).all (Ei n k ts)<;>simp[h1]
    ·have hlen:=hr ts[i] (List.getElem_mem hi)
     have htup:=FG (l:=ts[i]) (n:=n) k (by omega) (by omega) hlen
     simp only[CP,Ae,Ak hi,Ac (show i<4611686018427387904 by omega),htup,Option.bind_some]
     have hst:Ei n k ts i=((decide ((ts[i].length:Int)=k)&&Ay n ts[i])&&(decide (i=0)||decide (cmpL (ts.getD (i-1) []) ts[i]<0))):=by unfold Ei Ih;rw[Ax hi]
     rw[hst]
     cases hb:(decide ((ts[i].length:Int)=k)&&Ay n ts[i])with
     |false=>simp[hi]
     |true=>
      cases i with
      |zero=>simp[hi]
      |succ i=>
       have hi':i<ts.length:=by omega
       have hpv:=hprev i (by omega)
       have hpv:Ei n k ts i=true:=by
        cases h:Ei n k ts i with
        |true=>rfl
        |false=>rw[h]at hpv;simp at hpv
       unfold Ei Ih at hpv
       rw[Ax hi']at hpv
       simp only[Bool.and_eq_true,decide_eq_true_eq]at hpv hb
       have hless:=FT (s:=ts[i]) (t:=ts[i+1]) (hr ts[i] (List.getElem_mem hi')) (by omega)
       rw[II (by omega) (by omega),Nat.add_sub_cancel,Ax hi']
       simp only[Ak hi',hless,Ae,Option.bind_some]
       by_cases hc:cmpL ts[i] ts[i+1]<0
       ·simp[hi,hi',hc,show(0:Int)<(i:Int)+1 by omega,show(i:Int)+1<ts.length by omega]
       ·simp[hi,hi',hc,show(0:Int)<(i:Int)+1 by omega,show(i:Int)+1<ts.length by omega]
    ·simp[CP]
  ·unfold Es;rw[hs];simp[h1]
end T
open Go Go.Va
namespace T
def CR (p:Int) (t u b:List Int):List Int:=(List.range t.length).map λi=>(t.getD i 0+u.getD i 0-b.getD i 0)%p
theorem comb_len {p:Int} {t u b:List Int}:(CR p t u b).length=t.length:=by simp[CR]
theorem Hi {p:Int} {t u b:List Int} {i:Nat} (hi:i<t.length):(CR p t u b)[i]'(by rw[comb_len];exact hi)=(t.getD i 0+u.getD i 0-b.getD i 0)%p:=by simp[CR]
theorem Hh {p:Int} (hp:0<p) {t u b:List Int}:Ay p (CR p t u b)=true:=by
 unfold Ay CR
 rw[List.all_eq_true]
 intro x hx
 obtain⟨i,_,rfl⟩:=List.mem_map.1 hx
 simp only[decide_eq_true_eq]
 exact⟨Int.emod_nonneg _ (by omega),Int.emod_lt_of_pos _ hp⟩
def El (p:Int) (ts:List (List Int)):Bool:=ts.all λt=>ts.all λu=>decide (CR p t u (ts.headD [])∈ts)
structure SetOk (p:Int) (k:Nat) (ts:List (List Int)):Prop where
 hp:2<=p/\p<=7
 hk:k<=4
 len: ∀t∈ts,t.length=k
 el: ∀t∈ts,Ay p t=true
 inc:Dl ts=true
theorem Fj {p k:Int} {ts:List (List Int)} (hp:Cp p=true) (h:Es p k ts=true):SetOk p k.toNat ts:=by
 unfold Es at h
 simp only[Bool.and_eq_true,decide_eq_true_eq,List.all_eq_true]at h
 obtain⟨⟨⟨h1,h2⟩,h3⟩,h4⟩:=h
 refine⟨HQ hp,by omega,λt ht=>?_,λt ht=>?_,h4⟩
 ·have:=h3 t ht;unfold Ih at this;simp at this;omega
 ·have:=h3 t ht;unfold Ih at this;simp at this;exact this.2
theorem SetOk.count {p:Int} {k:Nat} {ts:List (List Int)} (h:SetOk p k ts):ts.length<=2401:=by
 rcases GQ (n:=p) (k:=k) h.inc λt ht=>⟨h.len t ht,h.el t ht⟩with h'|h'
 ·have hp:=h.hp
  have e:p^k<=7^4:=by
   have:(p.toNat^k:Nat)<=7^4:=Nat.le_trans (Nat.pow_le_pow_left (show p.toNat<=7 by omega) k) (Nat.pow_le_pow_right (by omega) h.hk)
   have e2:((p.toNat^k:Nat):Int)=p^k:=by
    rw[Int.natCast_pow];congr 1;omega
   rw[←e2];exact_mod_cast this
  have:(7:Int)^4=2401:=by decide
  omega
 ·rw[h'];simp
section
variable {p:Int} {k:Nat} {ts:List (List Int)}
theorem SetOk.get (h:SetOk p k ts) {t:List Int} (ht:t∈ts) {i:Nat} (hi:i<k):i<t.length/\0<=t.getD i 0/\t.getD i 0<p:=by
 have hl:=h.len t ht
 have:=Hf (h.el t ht) i (by omega)
 rw[Ax (by omega)]
 exact⟨by omega,this⟩
theorem KH {p a b c:Int} (hp:0<p):((a+(p-1)*b)%p+c)%p=(a+c-b)%p:=by
 rw[Int.emod_add_emod]
 have:a+(p-1)*b+c=(a+c-b)+p*b:=by rw[Int.sub_mul];omega
 rw[this,Int.add_mul_emod_self_left]
theorem KI {p a b c:Int}:(a+c-b+p)%p=(a+c-b)%p:=by have:=Int.add_mul_emod_self_left (a+c-b) p 1;simpa using this
theorem HR (h:SetOk p k ts) {t b:List Int} (ht:t∈ts) (hb:b∈ts):Bk p t b 1=some ((List.range k).map λi=>(t.getD i 0+(p-1)*b.getD i 0)%p):=by
 have hp:=h.hp
 have hk:=h.hk
 have hl:=h.len t ht
 unfold Bk
 have:=BL k (λm s i=>AE m (p,t,b,1,s,i)) (λj=>(List.range j).map λi=>(t.getD i 0+(p-1)*b.getD i 0)%p) (r:=some ((List.range k).map λi=>(t.getD i 0+(p-1)*b.getD i 0)%p)) (λm j hj=>?_) (λm=>?_) (n:=Aa) (by unfold Aa;omega)
 ·have this:AE Aa (p,t,b,1,[],0)=_:=this
  rw[this];rfl
 ·obtain⟨t1,t2,t3⟩:=h.get ht hj
  obtain⟨b1,b2,b3⟩:=h.get hb hj
  rw[Ax t1]at t2 t3
  rw[Ax b1]at b2 b3
  have hm:=Int.mul_nonneg (show 0<=p-1 by omega) b2
  have hm2:=Int.mul_le_mul (show p-1<=6 by omega) (show b[j]<=6 by omega) b2 (by omega)
  simp only[AE,Ae,Ak t1,Ak b1,Ac (show j<4611686018427387904 by omega),Ao (show-9223372036854775808<=p-1 by omega) (by omega),Ao (show-9223372036854775808<=(p-1)*b[j] by omega) (by omega),Ao (show-9223372036854775808<=t[j]+(p-1)*b[j] by omega) (by omega)]
  rw[Int.tmod_eq_emod_of_nonneg (by omega),List.range_succ,List.map_append]
  simp[hl,hj,t1,b1,show p≠0 by omega,lim]
  omega
 ·simp[AE,hl]
theorem J0 (h:SetOk p k ts) {i j:Nat} (hi:i<ts.length) (hj:j<ts.length) (h0:0<ts.length):
  B1 Aa (p,ts,(i:Int),(j:Int),(List.range k).map (λx:Nat=>(ts[i].getD x 0+(p-(1:Int))*ts[0].getD x 0)%p),0)=some (p,ts,(i:Int),(j:Int),CR p ts[i] ts[j] ts[0]):=by
 have hp:=h.hp
 have hk:=h.hk
 have hl:=h.len _ (List.getElem_mem hi)
 let f:=λx:Nat=>(ts[i].getD x 0+(p-(1:Int))*ts[0].getD x 0)%p
 let g:=λx:Nat=>(ts[i].getD x 0+ts[j].getD x 0-ts[0].getD x 0)%p
 have e0:(List.range k).map f=(List.range 0).map g++(List.range' 0 k).map f:=by rw[List.range_eq_range' (n:=k)];rfl
 have hS: ∀x,x<=k->((List.range x).map g++(List.range' x (k-x)).map f).length=k:=λx hx=>by simp;omega
 have:=BL k (λm s y=>B1 m (p,ts,(i:Int),(j:Int),s,y)) (λx=>(List.range x).map g++(List.range' x (k-x)).map f) (r:=some (p,ts,(i:Int),(j:Int),CR p ts[i] ts[j] ts[0])) (λm x hx=>?_) (λm=>?_) (n:=Aa) (by unfold Aa;omega)
 ·rw[Nat.sub_zero,←e0]at this
  exact this
 ·obtain⟨t1,t2,t3⟩:=h.get (List.getElem_mem hj) hx
  rw[Ax t1]at t2 t3
  have hlen:=hS x (by omega)
  have hx':x<((List.range x).map g++(List.range' x (k-x)).map f).length:=by rw[hlen];exact hx
  have hget:((List.range x).map g++(List.range' x (k-x)).map f)[x]=f x:=by
   rw[List.getElem_append_right (by simp)];simp
  have hf:0<=f x/\f x<p:=⟨Int.emod_nonneg _ (by omega),Int.emod_lt_of_pos _ (by omega)⟩
  simp only[B1,Ae,Ak hx',Ak hj,Ak t1,BA,Ac (show x<4611686018427387904 by omega),hget,Ao (show-9223372036854775808<=f x+ts[j][x] by omega) (by omega)]
  rw[Int.tmod_eq_emod_of_nonneg (by omega)]
  have hset:((List.range x).map g++(List.range' x (k-x)).map f).set x ((f x+ts[j][x])%p)=(List.range (x+1)).map g++(List.range' (x+1) (k-(x+1))).map f:=by
   rw[List.set_append_right _ _ (by simp),show k-x=(k-(x+1))+1 by omega,List.range'_succ,List.range_succ,List.map_append]
   simp only[List.length_map,List.length_range,Nat.sub_self,List.map_cons,List.set_cons_zero,List.append_assoc,List.map_nil,List.singleton_append]
   congr 2
   have:=KH (p:=p) (a:=ts[i].getD x 0) (b:=ts[0].getD x 0) (c:=ts[j].getD x 0) (by omega)
   show(f x+ts[j][x])%p=g x
   rw[←Ax (d:=0) t1];exact this
  rw[hset]
  simp[hlen,hx,hj,t1,show p≠0 by omega,hx']
 ·have hlen:=hS k (Nat.le_refl _)
  simp only[B1]
  rw[if_neg (by simp)]
  simp only[Nat.sub_self,List.range'_zero,List.map_nil,List.append_nil,CR,hl]
  rfl
theorem GF (h:SetOk p k ts):DQ p ts=some (El p ts):=by
 have hp:=h.hp
 have hk:=h.hk
 have hc:=h.count
 unfold DQ
 by_cases h0:0<ts.length
 ·have hin: ∀i,i<ts.length->(B0 Aa (p,ts,(i:Int),0))=(if(List.range ts.length).all (λj=>decide (CR p (ts.getD i []) (ts.getD j []) ts[0]∈ts))then some (.inl (p,ts,(i:Int)))else some (.inr false)):=λi hi=>by
   refine IU ts.length (λm (_:Unit) j=>B0 m (p,ts,(i:Int),j)) (λ_=>()) (λj=>decide (CR p (ts.getD i []) (ts.getD j []) ts[0]∈ts)) (λm j hj=>?_) (λm=>?_) (by unfold Aa;omega)
   ·obtain⟨c,hf,_⟩:=EU (list:=ts) (t:=CR p ts[i] ts[j] ts[0]) (k:=k) (by omega) (by omega) h.len (by rw[comb_len,h.len _ (List.getElem_mem hi)]) h.inc
    have h00:inb (0:Int) ts:=by unfold inb;omega
    have g00:gd ts 0 []=ts[0]:=by have:=Ak (d:= []) h0;exact this
    simp only[B0,Ae,Ak hi,Ac (show j<4611686018427387904 by omega),g00,HR h (List.getElem_mem hi) (List.getElem_mem h0),Option.bind_some]
    rw[J0 h hi hj h0]
    simp only[Option.bind_some,hf]
    rw[Ax hi,Ax hj]
    by_cases hm:CR p ts[i] ts[j] ts[0]∈ts<;>simp[hj,hi,h00,hm,GX (show j<4611686018427387904 by omega)]
   ·simp[B0]
  have key:=IU ts.length (λm (_:Unit) i=>Bi m (p,ts,i)) (λ_=>()) (λi=>(List.range ts.length).all (λj=>decide (CR p (ts.getD i []) (ts.getD j []) ts[0]∈ts))) (r:=some (.inr false)) (e:=some (.inl ())) (λm i hi=>?_) (λm=>?_) (n:=Aa) (by unfold Aa;omega)
  ·rw[key]
   have:(List.range ts.length).all (λi=>(List.range ts.length).all (λj=>decide (CR p (ts.getD i []) (ts.getD j []) ts[0]∈ts)))=El p ts:=by
    have hd:ts.headD []=ts[0]:=by cases ts with|nil=>simp at h0|cons=>rfl
    unfold El
    rw[hd,Bool.eq_iff_iff,List.all_eq_true,List.all_eq_true]
    constructor
    ·intro hh t ht
     obtain⟨i,hi,rfl⟩:=List.mem_iff_getElem.1 ht
     rw[List.all_eq_true]
     intro u hu
     obtain⟨j,hj,rfl⟩:=List.mem_iff_getElem.1 hu
     have:=(List.all_eq_true.1 (hh i (by simpa using hi))) j (by simpa using hj)
     rw[Ax hi,Ax hj]at this
     exact this
    ·intro hh i hi
     rw[List.all_eq_true]
     intro j hj
     have hi:i<ts.length:=by simpa using hi
     have hj:j<ts.length:=by simpa using hj
     rw[Ax hi,Ax hj]
     exact(List.all_eq_true.1 (hh _ (List.getElem_mem hi))) _ (List.getElem_mem hj)
   rw[this]
   cases El p ts<;>simp
  ·simp only[Bi,hin i hi,Ac (show i<4611686018427387904 by omega)]
   cases (List.range ts.length).all (λj=>decide (CR p (ts.getD i []) (ts.getD j []) ts[0]∈ts))<;>simp[hi,GX (show i<4611686018427387904 by omega)]
  ·simp[Bi]
 ·have:ts= []:=List.length_eq_zero_iff.1 (by omega)
  subst this
  have e:Bi Aa (p,[],0)=some (.inl ()):=by
   have:=IU 0 (λm (_:Unit) i=>Bi m (p,[],i)) (λ_=>()) (λ_=>true) (r:=some (.inl ())) (e:=some (.inl ())) (λm i hi=>by omega) (λm=>by simp[Bi]) (n:=Aa) (by unfold Aa;omega)
   simpa using this
  rw[e];rfl
end
end T
open Go Go.Va
namespace T
section
variable {p:Int} {k:Nat} {ts:List (List Int)}
theorem HJ (n:Int): ∀(l:List Int) (i a:Int),FM n i (l++ [a])=FM n i l*n+a
 | [],i,a=>by simp[FM]
 |b::l,i,a=>by simp only[List.cons_append,FM];exact HJ n l _ _
theorem Hg {n:Int} {l:List Int} (h:Ay n l=true) (j:Nat):Ay n (l.take j)=true:=by
 unfold Ay at*
 rw[List.all_eq_true]at*
 exact λx hx=>h x (List.mem_of_mem_take hx)
def C4 (p:Int) (N:Nat) (l:List (List Int)):List Bool:=(List.range N).map λi:Nat=>decide (∃t∈l,idx p t=(i:Int))
theorem Gt {p:Int} {N:Nat} {l:List (List Int)} {i:Nat} (h:i<(C4 p N l).length):(C4 p N l)[i]=decide (∃t∈l,idx p t=(i:Int)):=by simp[C4]
theorem JM (h:SetOk p k ts) (h0:0<ts.length):Cf Aa (p,ts,ts[0],List.replicate (p^k).toNat false,ts,(ts.length:Int),0)=some (p,ts,ts[0],C4 p (p^k).toNat ts):=by
 have hp:=h.hp
 have hc:=h.count
 have hpw:=GR (n:=p) (by omega) (by omega) (k:=k) (by have:=h.hk;omega)
 have:=BL ts.length (λm s i=>Cf m (p,ts,ts[0],s,ts,(ts.length:Int),i)) (λj=>C4 p (p^k).toNat (ts.take j)) (r:=some (p,ts,ts[0],C4 p (p^k).toNat ts)) (λm j hj=>?_) (λm=>?_) (n:=Aa) (by unfold Aa;omega)
 ·have e:C4 p (p^k).toNat (ts.take 0)=List.replicate (p^k).toNat false:=by
   simp only[C4,List.take_zero]
   refine List.ext_getElem (by simp) λi h1 h2=>by simp
  rw[e]at this;exact this
 ·have hb:=h.el _ (List.getElem_mem hj)
  have hl:=h.len _ (List.getElem_mem hj)
  have hi:=EL hb
  rw[hl]at hi
  have hidx:=IY (n:=p) (t:=ts[j]) (by omega) (by omega) (by have:=h.hk;omega) hb
  have hin:inb (idx p ts[j]) (C4 p (p^k).toNat (ts.take j)):=by unfold inb C4;simp;omega
  have hset:stt (C4 p (p^k).toNat (ts.take j)) (idx p ts[j]) true=C4 p (p^k).toNat (ts.take (j+1)):=by
   unfold stt
   refine List.ext_getElem (by simp[C4]) λi h1 h2=>?_
   rw[List.getElem_set]
   split
   ·rename_i he
    rw[Gt,eq_comm,decide_eq_true_eq]
    exact⟨ts[j],by rw[List.take_succ_eq_append_getElem hj];exact List.mem_append_right _ (List.mem_singleton.2 rfl),by omega⟩
   ·rename_i he
    rw[Gt,Gt]
    congr 1
    rw[List.take_succ_eq_append_getElem hj]
    refine propext ⟨λ⟨t,h1,h2⟩=>⟨t,List.mem_append_left _ h1,h2⟩,λ⟨t,h1,h2⟩=>?_⟩
    rcases List.mem_append.1 h1 with h1|h1
    ·exact⟨t,h1,h2⟩
    ·rw[List.mem_singleton]at h1;subst h1;omega
  simp only[Cf,Ae,Ak hj,hidx,Option.bind_some,Ac (show j<4611686018427387904 by omega),hset]
  simp[hj,hin]
 ·simp[Cf]
theorem Lj (h:SetOk p k ts) {t u:List Int} (ht:t∈ts) (hu:u∈ts) (h0:0<ts.length) {hv:List Bool} {a b:Nat}:
  BZ Aa (p,ts,ts[0],hv,t,u,0,ts,(ts.length:Int),(a:Int),ts,(ts.length:Int),(b:Int),t,(t.length:Int),0)=some (p,ts,ts[0],hv,t,idx p (CR p t u ts[0]),ts,(ts.length:Int),(a:Int),ts,(ts.length:Int),(b:Int)):=by
 have hp:=h.hp
 have hk:=h.hk
 have hl:=h.len _ ht
 have hcl:(CR p t u ts[0]).length=k:=comb_len.trans hl
 have hcb:=Hh (p:=p) (t:=t) (u:=u) (b:=ts[0]) (by omega)
 have:=BL k (λm s i=>BZ m (p,ts,ts[0],hv,t,u,s,ts,(ts.length:Int),(a:Int),ts,(ts.length:Int),(b:Int),t,(t.length:Int),i)) (λj=>idx p ((CR p t u ts[0]).take j)) (r:=some (p,ts,ts[0],hv,t,idx p (CR p t u ts[0]),ts,(ts.length:Int),(a:Int),ts,(ts.length:Int),(b:Int))) (λm j hj=>?_) (λm=>?_) (n:=Aa) (by unfold Aa;omega)
 ·exact this
 ·obtain⟨t1,t2,t3⟩:=h.get ht hj
  obtain⟨u1,u2,u3⟩:=h.get hu hj
  obtain⟨b1,b2,b3⟩:=h.get (List.getElem_mem h0) hj
  have hcg:(CR p t u ts[0])[j]'(by omega)=(t.getD j 0+u.getD j 0-ts[0].getD j 0)%p:=Hi t1
  rw[Ax t1]at t2 t3 hcg
  rw[Ax u1]at u2 u3 hcg
  rw[Ax b1]at b2 b3 hcg
  have i1:=EL (Hg hcb j)
  have i2:=EL (Hg hcb (j+1))
  have p1:=GR (n:=p) (by omega) (by omega) (k:=j+1) (by omega)
  have e1:((CR p t u ts[0]).take (j+1)).length=j+1:=by simp;omega
  have hstep:idx p ((CR p t u ts[0]).take (j+1))=idx p ((CR p t u ts[0]).take j)*p+(t[j]+u[j]-ts[0][j])%p:=by
   rw[List.take_succ_eq_append_getElem (by omega),hcg]
   exact HJ _ _ _ _
  rw[e1,hstep]at i2
  have hm:=Int.mul_nonneg i1.1 (show 0<=p by omega)
  have hmod:0<=(t[j]+u[j]-ts[0][j])%p/\(t[j]+u[j]-ts[0][j])%p<p:=⟨Int.emod_nonneg _ (by omega),Int.emod_lt_of_pos _ (by omega)⟩
  have w1:w64 (w64 (w64 (t[j]+u[j])-ts[0][j])+p)=t[j]+u[j]-ts[0][j]+p:=by
   rw[Ao (x:=t[j]+u[j]) (by omega) (by omega),Ao (x:=t[j]+u[j]-ts[0][j]) (by omega) (by omega),Ao (by omega) (by omega)]
  have w2:Int.tmod (t[j]+u[j]-ts[0][j]+p) p=(t[j]+u[j]-ts[0][j])%p:=by
   rw[Int.tmod_eq_emod_of_nonneg (by omega)];exact KI
  have w3:w64 (w64 (idx p ((CR p t u ts[0]).take j)*p)+(t[j]+u[j]-ts[0][j])%p)=idx p ((CR p t u ts[0]).take (j+1)):=by
   rw[Ao (x:=idx p ((CR p t u ts[0]).take j)*p) (by omega) (by omega),Ao (by omega) (by omega),hstep]
  simp only[BZ,Ae,Ak t1,Ak u1,Ak b1,w1,w2,w3,Ac (show j<4611686018427387904 by omega)]
  simp[t1,u1,b1,show p≠0 by omega]
 ·have:(CR p t u ts[0]).take k=CR p t u ts[0]:=List.take_of_length_le (by omega)
  simp only[BZ,this]
  rw[if_neg (by simp;omega)]
theorem Kt (h:SetOk p k ts) {c:List Int} (hc:Ay p c=true) (hl:c.length=k):inb (idx p c) (C4 p (p^k).toNat ts)/\gd (C4 p (p^k).toNat ts) (idx p c) false=decide (c∈ts):=by
 have hi:=EL hc
 rw[hl]at hi
 have hin:inb (idx p c) (C4 p (p^k).toNat ts):=by unfold inb C4;simp;omega
 refine⟨hin,?_⟩
 have hlt:(idx p c).toNat<(C4 p (p^k).toNat ts).length:=by unfold inb at hin;omega
 unfold gd
 rw[Ax hlt,Gt]
 congr 1
 refine propext ⟨λ⟨t,h1,h2⟩=>?_,λh=>⟨c,h,by omega⟩⟩
 have:=Lh (h.el t h1) hc ((h.len t h1).trans hl.symm) (by omega)
 rw[←this];exact h1
theorem Kx (h:SetOk p k ts):E3 p ts=some (El p ts):=by
 have hp:=h.hp
 have hk:=h.hk
 have hc:=h.count
 unfold E3
 by_cases h0:0<ts.length
 ·have hpw:=GR (n:=p) (by omega) (by omega) (k:=k) (by omega)
  have hl0:=h.len _ (List.getElem_mem h0)
  have g00:gd ts 0 []=ts[0]:=by have:=Ak (d:= []) h0;exact this
  have h00:inb (0:Int) ts:=by unfold inb;omega
  have hpow:=D9 (n:=p) (by omega) (by omega) (k:=k) (by omega)
  rw[if_neg (by simp only[beq_iff_eq];omega),if_pos h00,g00,hl0,hpow]
  simp only[Option.bind_some]
  have hp7:p^k<=7^4:=by
   have:(p.toNat^k:Nat)<=7^4:=Nat.le_trans (Nat.pow_le_pow_left (show p.toNat<=7 by omega) k) (Nat.pow_le_pow_right (by omega) h.hk)
   have e2:((p.toNat^k:Nat):Int)=p^k:=by rw[Int.natCast_pow];congr 1;omega
   rw[←e2];exact_mod_cast this
  have h74:(7:Int)^4=2401:=by decide
  rw[if_pos ⟨hpw.1,Int.le_refl _,by unfold lim;omega⟩,JM h h0]
  simp only[Option.bind_some]
  have hin: ∀i,i<ts.length->BY Aa (p,ts,ts[0],C4 p (p^k).toNat ts,ts.getD i [],ts,(ts.length:Int),(i:Int),ts,(ts.length:Int),0)=(if(List.range ts.length).all (λj=>decide (CR p (ts.getD i []) (ts.getD j []) ts[0]∈ts))then some (.inl (p,ts,ts[0],C4 p (p^k).toNat ts,ts,(ts.length:Int),(i:Int)))else some (.inr false)):=λi hi=>by
   refine IU ts.length (λm (_:Unit) j=>BY m (p,ts,ts[0],C4 p (p^k).toNat ts,ts.getD i [],ts,(ts.length:Int),(i:Int),ts,(ts.length:Int),j)) (λ_=>()) (λj=>decide (CR p (ts.getD i []) (ts.getD j []) ts[0]∈ts)) (λm j hj=>?_) (λm=>?_) (by unfold Aa;omega)
   ·have hat:=Lj h (List.getElem_mem hi) (List.getElem_mem hj) h0 (hv:=C4 p (p^k).toNat ts) (a:=i) (b:=j)
    obtain⟨m1,m2⟩:=Kt h (c:=CR p ts[i] ts[j] ts[0]) (Hh (by omega)) (by rw[comb_len,h.len _ (List.getElem_mem hi)])
    rw[Ax hi,Ax hj]
    simp only[BY,Ae,Ak hj,hat,Option.bind_some,m2,Ac (show j<4611686018427387904 by omega)]
    by_cases hm:CR p ts[i] ts[j] ts[0]∈ts<;>simp[hj,m1,hm]
   ·simp[BY]
  have key:=IU ts.length (λm (_:Unit) i=>Cy m (p,ts,ts[0],C4 p (p^k).toNat ts,ts,(ts.length:Int),i)) (λ_=>()) (λi=>(List.range ts.length).all (λj=>decide (CR p (ts.getD i []) (ts.getD j []) ts[0]∈ts))) (r:=some (.inr false)) (e:=some (.inl ())) (λm i hi=>?_) (λm=>?_) (n:=Aa) (by unfold Aa;omega)
  ·rw[key]
   have:(List.range ts.length).all (λi=>(List.range ts.length).all (λj=>decide (CR p (ts.getD i []) (ts.getD j []) ts[0]∈ts)))=El p ts:=by
    have hd:ts.headD []=ts[0]:=by cases ts with|nil=>simp at h0|cons=>rfl
    unfold El
    rw[hd,Bool.eq_iff_iff,List.all_eq_true,List.all_eq_true]
    constructor
    ·intro hh t ht
     obtain⟨i,hi,rfl⟩:=List.mem_iff_getElem.1 ht
     rw[List.all_eq_true]
     intro u hu
     obtain⟨j,hj,rfl⟩:=List.mem_iff_getElem.1 hu
     have:=(List.all_eq_true.1 (hh i (by simpa using hi))) j (by simpa using hj)
     rw[Ax hi,Ax hj]at this
     exact this
    ·intro hh i hi
     rw[List.all_eq_true]
     intro j hj
     have hi:i<ts.length:=by simpa using hi
     have hj:j<ts.length:=by simpa using hj
     rw[Ax hi,Ax hj]
     exact(List.all_eq_true.1 (hh _ (List.getElem_mem hi))) _ (List.getElem_mem hj)
   rw[this]
   cases El p ts<;>simp
  ·have:=hin i hi
   rw[Ax hi]at this
   simp only[Cy,Ae,Ak hi,this]
   rw[Ax hi]
   cases (List.range ts.length).all (λj=>decide (CR p ts[i] (ts.getD j []) ts[0]∈ts))<;>simp[hi,GX (show i<4611686018427387904 by omega)]
  ·simp[Cy]
 ·have:ts= []:=List.length_eq_zero_iff.1 (by omega)
  subst this
  rfl
end
def Gw (p k:Int) (ts:List (List Int)):Bool×Bool:=if Cp p&&Es p k ts then(El p ts,true)else(false,false)
theorem Ew {p k:Int} {ts:List (List Int)} (hl:ts.length<=1099511627774) (hr: ∀t∈ts,t.length<=1099511627775):Dk p k ts=some (Gw p k ts):=by
 unfold Dk Gw
 rw[FC,Gf hl hr]
 cases hp:Cp p with
 |false=>simp
 |true=>
  cases hs:Es p k ts with
  |false=>simp
  |true=>simp[Kx (Fj hp hs)]
theorem F6 {p k:Int} {ts:List (List Int)} (hl:ts.length<=1099511627774) (hr: ∀t∈ts,t.length<=1099511627775):D0 p k ts=some (Gw p k ts):=by
 unfold D0 Gw
 rw[AU,BV hl hr]
 cases hp:Cp p with
 |false=>simp
 |true=>
  cases hs:Es p k ts with
  |false=>simp
  |true=>simp[GF (Fj hp hs)]
end T
set_option linter.unusedVariables false
open Go Go.Va
namespace T
def De (l:List Int):Option ((List Int)):=
 if([]:List Int).length+l.length<=lim then
 some ([]++l)
 else none
def BP:Nat->(Int×(Int×(List (List Int)))×(List (List Int))×Int×Int)->Option ((Unit)⊕(Bool))
 |0,_=>none
 |n+1,(n_,r,t16,t17,t18)=>
 if decide (t18<t17)then
 if inb t18 t16 then
 if((gd t16 t18 []).length:Int) !=r.1 then
 some (.inr false)
 else
 (C7 (gd t16 t18 []) n_).bind λr1=>
 if !r1 then
 some (.inr false)
 else
 if decide (t18>0)then
 if inb (w64 (t18-1)) r.2 then
 (DM (gd r.2 (w64 (t18-1)) []) (gd t16 t18 [])).bind λr2=>
 if decide (r2≥0)then
 some (.inr false)
 else
 BP n (n_,(r.1,r.2),t16,t17,w64 (t18+1))
 else none
 else
 BP n (n_,(r.1,r.2),t16,t17,w64 (t18+1))
 else none
 else
 some (.inl ())
def Eo (n_:Int) (r:Int×(List (List Int))):Option (Bool):=
 if decide (r.1<1)then
  some false
 else
  if decide (r.1>3)then
   some false
  else
   (BP Aa (n_,(r.1,r.2),r.2,(r.2.length:Int),0)).bind λs1=>
    match s1 with
    | .inl s2=>
     some true
    | .inr s3=>
     some s3
def Du:Nat->((List Int)×Int×Int)->Option ((Unit)⊕(Bool))
 |0,_=>none
 |n+1,(l,n_,i)=>
 if decide (i<(l.length:Int))then
 if inb i l then
 if(gd l i 0)==n_ then
 some (.inr true)
 else
 Du n (l,n_,w64 (i+1))
 else none
 else
 some (.inl ())
def EP (l:List Int) (n_:Int):Option (Bool):=
 (Du Aa (l,n_,0)).bind λs1=>
  match s1 with
  | .inl s2=>
   some false
  | .inr s3=>
   some s3
end T
open Go Go.Va
namespace T
abbrev Con:=List Int×Int×List (List Int)
abbrev Net:=Int×Int×List Con
def Mp (a:List (List Int)):Prop:=a.length<=1048576/\ ∀r∈a,r.length<=1048576
def Lx (n:Int) (r:Int×List (List Int)):Bool:=decide (1<=r.1/\r.1<=3)&&(r.2.all λt=>decide ((t.length:Int)=r.1)&&Ay n t)&&Dl r.2
def Jx (n:Int) (r:Int×List (List Int)) (k:Nat):Bool:=decide (((r.2.getD k []).length:Int)=r.1)&&Ay n (r.2.getD k [])&&(decide (k=0)||decide (cmpL (r.2.getD (k-1) []) (r.2.getD k [])<0))
theorem Ab {α:Type} {l:List α} {k:Nat} {d:α} (h:k<l.length):l.getD k d=l[k]:=by simp[List.getD_eq_getElem?_getD,h]
theorem J5 {n ar:Int} {ts:List (List Int)}:(List.range ts.length).all (Jx n (ar,ts))=((ts.all λt=>decide ((t.length:Int)=ar)&&Ay n t)&&Dl ts):=by
 rw[Bool.eq_iff_iff,Bool.and_eq_true,List.all_eq_true,List.all_eq_true,Ho]
 unfold Jx
 constructor
 ·intro h
  refine⟨λt ht=>?_,λi hi=>?_⟩
  ·obtain⟨k,hk,rfl⟩:=List.getElem_of_mem ht
   have:=h k (List.mem_range.2 hk)
   rw[Ab hk]at this
   simp only[Bool.and_eq_true]at this
   rw[Bool.and_eq_true];exact this.1
  ·have:=h (i+1) (List.mem_range.2 hi)
   rw[Ab hi,Nat.add_sub_cancel,Ab (show i<ts.length by omega)]at this
   simp at this
   exact this.2
 ·rintro ⟨h1,h2⟩ k hk
  have hk:=List.mem_range.1 hk
  have e:=h1 _ (List.getElem_mem hk)
  rw[Ab hk]
  rw[Bool.and_eq_true]at e
  rw[Bool.and_eq_true,Bool.and_eq_true]
  refine⟨e,?_⟩
  cases k with
  |zero=>simp
  |succ i=>
   have:=h2 i hk
   rw[Nat.add_sub_cancel,Ab (show i<ts.length by omega)]
   simp[this]
theorem Ge {n:Int} {r:Int×List (List Int)} (h:Mp r.2):Eo n r=some (Lx n r):=by
 obtain⟨ar,ts⟩:=r
 unfold Eo Lx
 by_cases h1:ar<1
 ·simp[h1,show¬1<=ar by omega]
 ·by_cases h2:ar>3
  ·simp[h1,h2,show¬ar<=3 by omega]
  ·rw[if_neg (by simpa using h1),if_neg (by simpa using h2)]
   have key:=IU ts.length (λm (_:Unit) i=>BP m (n,(ar,ts),ts,(ts.length:Int),i)) (λ_=>()) (Jx n (ar,ts)) (r:=some (.inr false)) (e:=some (.inl ())) (λm k hk=>?_) (λm=>?_) (n:=Aa) (by unfold Aa;have:=h.1;simp at this;omega)
   ·rw[key,J5]
    simp only[show(1<=ar/\ar<=3)=True by simp;omega,decide_true,Bool.true_and]
    cases (ts.all λt=>decide ((t.length:Int)=ar)&&Ay n t)&&Dl ts<;>simp
   ·have hx:=h.2 ts[k] (List.getElem_mem hk)
    have hk':=h.1
    simp only at hk'
    simp only[BP,Ae,Ak hk,Ac (show k<4611686018427387904 by omega),C9 n (show ts[k].length<=1099511627775 by omega),Jx,Ab hk]
    by_cases hl:(ts[k].length:Int)=ar
    ·cases hb:Ay n ts[k]with
     |false=>simp[hk,hl]
     |true=>
      cases k with
      |zero=>simp[hk,hl]
      |succ i=>
       have hi:i<ts.length:=by omega
       have hx2:=h.2 ts[i] (List.getElem_mem hi)
       have e:w64 (((i+1:Nat):Int)-1)=(i:Int):=by rw[Ao (by omega) (by omega)];omega
       simp only[e,Ae,Ak hi,Nat.add_sub_cancel,Ab hi,Ed (show ts[i].length<=1099511627775 by omega)]
       by_cases hc:cmpL ts[i] ts[i+1]<0
       ·simp[hk,hl,hi,hc,show¬cmpL ts[i] ts[i+1]≥0 by omega];omega
       ·simp[hk,hl,hi,hc,show cmpL ts[i] ts[i+1]≥0 by omega];omega
    ·simp[hk,hl]
   ·simp[BP]
end T
open Go Go.Va
namespace T
theorem La (a b:Int):(a==b)=decide (a=b):=by by_cases h:a=b<;>simp[h]
def g0 (l:List Int) (i:Nat):Int:=l.getD i 0
section
variable {v n up:Int} {c:Con} {vals:List Int}
theorem Dv {l:List Int} (h:l.length<=1099511627775):De l=some l:=by
 unfold De
 rw[if_pos (by unfold lim;simp;omega)];simp
end
end T
open Go Go.Va
namespace T
abbrev Dom:=List (List Bool)
def mk (bs:List Bool):List Int:=((List.range bs.length).filter λi=>bs.getD i false).map λi:Nat=>(i:Int)
def d2 (d:Dom) (v x:Nat):Bool:=(d.getD v []).getD x false
theorem A7 {α:Type} {l:List α} {i j:Nat} {y d:α}:(l.set i y).getD j d=if i=j/\j<l.length then y else l.getD j d:=by
 simp only[List.getD_eq_getElem?_getD,List.getElem?_set]
 by_cases h:i=j
 ·subst h
  by_cases h2:i<l.length
  ·simp[h2]
  ·simp[h2]
 ·simp[h]
theorem E5 {l:List Int} {x:Int} (h:l.length<=1048576):EP l x=some (decide (x∈l)):=by
 unfold EP
 rw[IM l (λn i=>Du n (l,x,i)) (λy=>!decide (y=x)) (.inr true) (.inl ()) ?_ ?_ (by unfold Aa;omega)]
 ·by_cases hx:x∈l
  ·rw[if_neg]
   ·simp[hx]
   ·rw[List.all_eq_true];intro h;have:=h x hx;simp at this
  ·rw[if_pos]
   ·simp[hx]
   ·rw[List.all_eq_true];intro y hy;have:y≠x:=λe=>hx (e▸hy)
    simp[this]
 ·intro n k hk
  simp only[Du,Ae,Ak hk,Ac (show k<4611686018427387904 by omega)]
  by_cases e:l[k]=x<;>simp[hk,e]
 ·intro n;simp[Du]
end T
open Go Go.Va
namespace T
abbrev ASt:=Dom×List (Int×Int×Int)
section
variable {a:Net} {K:Nat} {c:Con}
end
end T
open Go Go.Va
namespace T
theorem w1:w64 1=1:=by rw[Hb];rfl
theorem w2:w64 2=2:=by rw[Hb];rfl
theorem w3:w64 3=3:=by rw[Hb];rfl
section
variable {a:Net}
end
end T
set_option linter.unusedVariables false
open Go Go.Va
namespace T
def GO (f:Int×(List Int)) (n_:Int):Option (Bool):=
 if decide (f.1≥0)then
 if decide (f.1<=3)then
 (B5 n_ f.1).bind λr1=>
 if(f.2.length:Int)==r1 then
 (C7 f.2 n_).bind λr2=>
 some r2
 else
 some false
 else
 some false
 else
 some false
end T
open Go Go.Va
namespace T
abbrev Opn:=Int×List Int
def opB (n:Int) (f:Opn):Bool:=decide (0<=f.1/\f.1<=3)&&decide ((f.2.length:Int)=n^f.1.toNat)&&Ay n f.2
theorem H8 {n:Int} (hn:0<=n/\n<=8) {f:Opn} (h:f.2.length<=1048576):GO f n=some (opB n f):=by
 obtain⟨ar,l⟩:=f
 unfold GO opB
 by_cases h0:0<=ar
 ·by_cases h1:ar<=3
  ·obtain⟨m,rfl⟩: ∃m:Nat,ar=m:=⟨ar.toNat,by omega⟩
   have hm:B5 n (m:Int)=some (n^m):=D9 hn.1 hn.2 (by omega)
   simp only[ge_iff_le,h0,h1,decide_true,if_true,hm,Option.bind_some,C9 n (show l.length<=1099511627775 by simp at h;omega),Int.toNat_natCast,and_self,Bool.true_and,La]
   by_cases hl:(l.length:Int)=n^m<;>simp[hl]
  ·simp[h0,h1]
 ·simp[h0]
section
variable {n:Int} {f:Opn}
variable {a:Net}
end
end T
set_option linter.unusedVariables false
open Go Go.Va
namespace T
def FB:Nat->((List Int)×(List Int)×(List Int)×Int×Int)->Option ((List Int))
 |0,_=>none
 |n+1,(g,h,t11,t12,t13)=>
 if decide (t13<t12)then
 if inb t13 t11 then
 if inb (gd t11 t13 0) g then
 if inb t13 h then
 FB n (g,stt h t13 (gd g (gd t11 t13 0) 0),t11,t12,w64 (t13+1))
 else none
 else none
 else none
 else
 some h
def H7 (f:List Int) (g:List Int):Option ((List Int)):=
 if 0<=(f.length:Int)/\(f.length:Int)<=(f.length:Int)/\(f.length:Int)<=lim then
 (FB Aa (g,List.replicate (Int.toNat (f.length:Int)) (0:Int),f,(f.length:Int),0)).bind λs1=>
 some s1
 else none
def Ff:Nat->((List Int)×(List Int)×Int×Int)->Option ((Unit)⊕(Bool))
 |0,_=>none
 |n+1,(b,t12,t13,t14)=>
 if decide (t14<t13)then
 if inb t14 t12 then
 if inb t14 b then
 if(gd b t14 0) !=(gd t12 t14 0)then
 some (.inr false)
 else
 Ff n (b,t12,t13,w64 (t14+1))
 else none
 else none
 else
 some (.inl ())
def K4 (a:List Int) (b:List Int):Option (Bool):=
 if(a.length:Int) !=(b.length:Int)then
  some false
 else
  (Ff Aa (b,a,(a.length:Int),0)).bind λs1=>
   match s1 with
   | .inl s2=>
    some true
   | .inr s3=>
    some s3
end T
open Go Go.Va
namespace T
def LH (vs:List Int) (v:Int):Int:=vs.getD v.toNat 0
def Md (vs:List Int) (c:Con):Bool:=decide (c.1.map (LH vs)∈c.2.2)
def Mr (l:List Con) (vs:List Int):Bool:=l.all (Md vs)
def Mw (vars:List Int) (c:Con):Bool:=c.1.all λv=>decide (v∈vars)
def Mi (a:Net) (vars:List Int):List Con:=a.2.2.filter (Mw vars)
section
variable {a:Net}
end
end T
open Go Go.Va
namespace T
theorem Co {α:Type} {k:Nat} {xs:List α} {d:α}:gd xs (k:Int) d=xs.getD k d:=rfl
abbrev T3:=List (List (List Bool))
abbrev T4:=List (List (List (List Bool)))
def LK (s:Nat) (c:List (List Bool)):Prop:=c.length=s/\ ∀x,x<s->(c.getD x []).length=s
def Ma (n s:Nat) (r:T3):Prop:=r.length=n/\ ∀j,j<n->LK s (r.getD j [])
def Ok4 (n s:Nat) (t:T4):Prop:=t.length=n/\ ∀i,i<n->Ma n s (t.getD i [])
def r4 (t:T4) (i j x y:Nat):Bool:=(((t.getD i []).getD j []).getD x []).getD y false
def s4 (t:T4) (i j x y:Nat) (b:Bool):T4:=t.set i ((t.getD i []).set j (((t.getD i []).getD j []).set x ((((t.getD i []).getD j []).getD x []).set y b)))
def Ok3 (n m:Nat) (u:T3):Prop:=u.length=n/\ ∀i,i<n->(u.getD i []).length=n/\ ∀j,j<n->((u.getD i []).getD j []).length=m
def r3 (u:T3) (i j p:Nat):Bool:=((u.getD i []).getD j []).getD p false
def s3 (u:T3) (i j p:Nat) (b:Bool):T3:=u.set i ((u.getD i []).set j (((u.getD i []).getD j []).set p b))
section
variable {n s m:Nat} {t:T4} {u:T3}
theorem Ok4.at (h:Ok4 n s t) {i j x:Nat} (hi:i<n) (hj:j<n) (hx:x<s):i<t.length/\j<(t.getD i []).length/\x<((t.getD i []).getD j []).length/\(((t.getD i []).getD j []).getD x []).length=s:=
 ⟨by rw[h.1];exact hi,by rw[(h.2 i hi).1];exact hj,by rw[((h.2 i hi).2 j hj).1];exact hx,((h.2 i hi).2 j hj).2 x hx⟩
theorem Ok3.at (h:Ok3 n m u) {i j:Nat} (hi:i<n) (hj:j<n):i<u.length/\j<(u.getD i []).length/\((u.getD i []).getD j []).length=m:=
 ⟨by rw[h.1];exact hi,by rw[(h.2 i hi).1];exact hj,(h.2 i hi).2 j hj⟩
theorem Js (h:Ok4 n s t) {i j x y:Nat} {b:Bool}:Ok4 n s (s4 t i j x y b):=by
 unfold s4
 refine⟨by rw[List.length_set];exact h.1,λi' hi'=>?_⟩
 rw[A7]
 split
 ·rename_i hc
  obtain⟨rfl,_⟩:=hc
  have hr:=h.2 i hi'
  refine⟨by rw[List.length_set];exact hr.1,λj' hj'=>?_⟩
  rw[A7]
  split
  ·rename_i hc
   obtain⟨rfl,_⟩:=hc
   have hcl:=hr.2 j hj'
   refine⟨by rw[List.length_set];exact hcl.1,λx' hx'=>?_⟩
   rw[A7]
   split
   ·rename_i hc
    obtain⟨rfl,_⟩:=hc
    rw[List.length_set];exact hcl.2 x hx'
   ·exact hcl.2 x' hx'
  ·exact hr.2 j' hj'
 ·exact h.2 i' hi'
theorem Mq (h:Ok3 n m u) {i j p:Nat} {b:Bool}:Ok3 n m (s3 u i j p b):=by
 unfold s3
 refine⟨by rw[List.length_set];exact h.1,λi' hi'=>?_⟩
 rw[A7]
 split
 ·rename_i hc
  obtain⟨rfl,_⟩:=hc
  have hr:=h.2 i hi'
  refine⟨by rw[List.length_set];exact hr.1,λj' hj'=>?_⟩
  rw[A7]
  split
  ·rename_i hc
   obtain⟨rfl,_⟩:=hc
   rw[List.length_set];exact hr.2 j hj'
  ·exact hr.2 j' hj'
 ·exact h.2 i' hi'
theorem Jq (h:Ok4 n s t) {i j x y:Nat} {b:Bool} (hi:i<n) (hj:j<n) (hx:x<s) (hy:y<s) (i' j' x' y':Nat):
  r4 (s4 t i j x y b) i' j' x' y'=if i=i'/\j=j'/\x=x'/\y=y' then b else r4 t i' j' x' y':=by
 obtain⟨h1,h2,h3,h4⟩:=h.at hi hj hx
 unfold r4 s4
 rw[A7]
 by_cases e1:i=i'
 ·subst e1
  rw[if_pos ⟨rfl,h1⟩,A7]
  by_cases e2:j=j'
  ·subst e2
   rw[if_pos ⟨rfl,h2⟩,A7]
   by_cases e3:x=x'
   ·subst e3
    rw[if_pos ⟨rfl,h3⟩,A7]
    by_cases e4:y=y'
    ·subst e4;rw[if_pos ⟨rfl,by omega⟩,if_pos ⟨rfl,rfl,rfl,rfl⟩]
    ·rw[if_neg (by omega),if_neg (by omega)]
   ·rw[if_neg (by omega),if_neg (by omega)]
  ·rw[if_neg (by omega),if_neg (by omega)]
 ·rw[if_neg (by omega),if_neg (by omega)]
theorem Mo (h:Ok3 n m u) {i j p:Nat} {b:Bool} (hi:i<n) (hj:j<n) (hp:p<m) (i' j' p':Nat):
  r3 (s3 u i j p b) i' j' p'=if i=i'/\j=j'/\p=p' then b else r3 u i' j' p':=by
 obtain⟨h1,h2,h3⟩:=h.at hi hj
 unfold r3 s3
 rw[A7]
 by_cases e1:i=i'
 ·subst e1
  rw[if_pos ⟨rfl,h1⟩,A7]
  by_cases e2:j=j'
  ·subst e2
   rw[if_pos ⟨rfl,h2⟩,A7]
   by_cases e3:p=p'
   ·subst e3;rw[if_pos ⟨rfl,by omega⟩,if_pos ⟨rfl,rfl,rfl⟩]
   ·rw[if_neg (by omega),if_neg (by omega)]
  ·rw[if_neg (by omega),if_neg (by omega)]
 ·rw[if_neg (by omega),if_neg (by omega)]
end
structure Rel34 (n s:Nat) (t:T4) (u:T3):Prop where
 o4:Ok4 n s t
 o3:Ok3 n (s*s) u
 eq: ∀i j x y,i<j->j<n->x<s->y<s->r4 t i j x y=r3 u i j (x*s+y)/\r4 t j i y x=r3 u i j (x*s+y)
theorem Lc {s x y:Nat} (hx:x<s) (hy:y<s):x*s+y<s*s:=by
 have:(x+1)*s<=s*s:=Nat.mul_le_mul_right _ hx
 rw[Nat.succ_mul]at this;omega
theorem Kf {s x y x' y':Nat} (hy:y<s) (hy':y'<s) (h:x*s+y=x'*s+y'):x=x'/\y=y':=by
 have h1:(x*s+y)/s=x:=by rw[Nat.mul_comm,Nat.mul_add_div (by omega),Nat.div_eq_of_lt hy];omega
 have h2:(x'*s+y')/s=x':=by rw[Nat.mul_comm,Nat.mul_add_div (by omega),Nat.div_eq_of_lt hy'];omega
 have:x=x':=by rw[←h1,←h2,h]
 subst this
 exact⟨rfl,by omega⟩
theorem Rel34.drop {n s:Nat} {t:T4} {u:T3} (h:Rel34 n s t u) {i j x y:Nat} (hij:i<j) (hj:j<n) (hx:x<s) (hy:y<s):
  Rel34 n s (s4 (s4 t i j x y false) j i y x false) (s3 u i j (x*s+y) false):=by
 refine⟨Js (Js h.o4),Mq h.o3,λi' j' x' y' h1 h2 h3 h4=>?_⟩
 have hi:i<n:=by omega
 rw[Jq (Js h.o4) hj hi hy hx,Jq h.o4 hi hj hx hy,Jq (Js h.o4) hj hi hy hx,Jq h.o4 hi hj hx hy,Mo h.o3 hi hj (Lc hx hy)]
 obtain⟨e1,e2⟩:=h.eq i' j' x' y' h1 h2 h3 h4
 by_cases e:i=i'/\j=j'/\x=x'/\y=y'
 ·obtain⟨rfl,rfl,rfl,rfl⟩:=e
  simp
 ·have e3: ¬(i=i'/\j=j'/\x*s+y=x'*s+y'):=λ⟨q1,q2,q3⟩=>by
   have:=Kf hy h4 q3
   exact e ⟨q1,q2,this.1,this.2⟩
  have e4: ¬(j=i'/\i=j'/\y=x'/\x=y'):=by omega
  have e5: ¬(i=j'/\j=i'/\x=y'/\y=x'):=by omega
  have e6: ¬(j=j'/\i=i'/\y=y'/\x=x'):=by omega
  simp only[if_neg e,if_neg e3,if_neg e4,if_neg e5,if_neg e6]
  exact⟨e1,e2⟩
end T
open Go Go.Va
namespace T
def V3 (n i j k x y z:Nat):List Int:=(((List.replicate n (0:Int)).set i (x:Int)).set j (y:Int)).set k (z:Int)
section
variable {a:Net} {n s:Nat} {t:T4} {u:T3}
def hP (a:Net) (n:Nat) (t:T4) (i j k x y z:Nat):Bool:=r4 t i k x z&&r4 t j k y z&&Mr (Mi a [(i:Int),(j:Int),(k:Int)]) (V3 n i j k x y z)
end
end T
open Go Go.Va
namespace T
section
variable {a:Net} {n s:Nat} {t:T4} {u:T3}
def V2 (n i j x y:Nat):List Int:=((List.replicate n (0:Int)).set i (x:Int)).set j (y:Int)
def fB (a:Net) (n i j x y:Nat):Bool:=Mr (Mi a [(i:Int),(j:Int)]) (V2 n i j x y)
end
end T
open Go Go.Va
namespace T
section
variable {a:Net} {n s:Nat} {t:T4} {u:T3}
def PA (n s i:Nat) (t:T4):Prop:=t.length=n/\ ∀i',i'<i->Ma n s (t.getD i' [])
def PB (n s i j:Nat) (t:T4):Prop:=PA n s i t/\(t.getD i []).length=n/\ ∀j',j'<j->LK s ((t.getD i []).getD j' [])
theorem PA.set {i:Nat} (h:PA n s i t) (r:T3):PA n s i (t.set i r):=by
 refine⟨by rw[List.length_set];exact h.1,λi' hi'=>?_⟩
 rw[A7,if_neg (by omega)];exact h.2 i' hi'
theorem PB.set {i j:Nat} (h:PB n s i j t) (hi:i<n) (c:List (List Bool)):PB n s i j (t.set i ((t.getD i []).set j c)):=by
 have hl:=h.1.1
 refine⟨h.1.set _,?_,λj' hj'=>?_⟩
 ·rw[A7,if_pos ⟨rfl,by omega⟩,List.length_set];exact h.2.1
 ·rw[A7,if_pos ⟨rfl,by omega⟩,A7,if_neg (by omega)];exact h.2.2 j' hj'
end
end T
open Go Go.Va
namespace T
section
variable {a:Net} {n s:Nat} {t:T4} {u:T3}
def cI (o:List Nat):List Int:=o.map λx:Nat=>(x:Int)
theorem HZ {o:List Nat} {i:Nat} (h:i<o.length):(cI o).getD i 0=((o.getD i 0:Nat):Int):=by
 unfold cI;rw[Ab (by simpa using h),Ab h];simp
end
end T
set_option linter.unusedVariables false
open Go Go.Va
namespace T
def Ci:Nat->(Int×(Int×(List Int))×(Int×(List Int))×Int)->Option ((Int×(List Int))×(Int×(List Int)))
 |0,_=>none
 |n+1,(n_,t2,op,at_)=>
 if decide (at_<(w64 ((w64 (n_*n_))*n_)))then
 if(w64 (n_*n_))≠0 then
 if n_≠0 then
 if n_≠0 then
 if n_≠0 then
 if n_≠0 then
 if op.2.length+ [Int.tmod (w64 ((w64 ((w64 ((w64 (Int.tdiv at_ (w64 (n_*n_))))+n_))-(Int.tmod (w64 (Int.tdiv at_ n_)) n_)))+(Int.tmod at_ n_))) n_].length<=lim then
 Ci n (n_,(t2.1,t2.2),(op.1,op.2++ [Int.tmod (w64 ((w64 ((w64 ((w64 (Int.tdiv at_ (w64 (n_*n_))))+n_))-(Int.tmod (w64 (Int.tdiv at_ n_)) n_)))+(Int.tmod at_ n_))) n_]),w64 (at_+1))
 else none
 else none
 else none
 else none
 else none
 else none
 else
 some ((t2.1,t2.2),(op.1,op.2))
def CD (n_:Int):Option ((Int×(List Int))):=
 (Ci Aa (n_,(0,[]),(3,[]),0)).bind λs1=>
 some (s1.2.1,s1.2.2)
def CC (n_:Int):Option ((Int×(List Int))×Bool):=
 (E1 n_).bind λr1=>
 if !r1 then
 some ((0,[]),false)
 else
 (CD n_).bind λr2=>
 some ((r2.1,r2.2),true)
def Fm:Nat->((List (List Int))×(List Int)×(List (List Int))×Int)->Option ((List (List Int)))
 |0,_=>none
 |n+1,(line,numbers,out,i)=>
 if decide (i<(numbers.length:Int))then
 if inb i numbers then
 if inb (gd numbers i 0) line then
 if out.length+ [gd line (gd numbers i 0) []].length<=lim then
 Fm n (line,numbers,out++ [gd line (gd numbers i 0) []],w64 (i+1))
 else none
 else none
 else none
 else
 some out
def K5 (line:List (List Int)) (numbers:List Int):Option ((List (List Int))):=
 (Fm Aa (line,numbers,[],0)).bind λs1=>
 some s1
def DB:Nat->(Int×(List (List Int))×Int×(Int×(List (Int×(List Int))))×(List Int)×Int×Int×Int)->Option (Int×(List (List Int))×Int×(Int×(List (Int×(List Int))))×(List Int)×Int×Int)
 |0,_=>none
 |n+1,(op,tuples,k,a,out,place,at_,i)=>
 if decide (i<(tuples.length:Int))then
 if inb i tuples then
 if inb place (gd tuples i [])then
 DB n (op,tuples,k,(a.1,a.2),out,place,w64 ((w64 (at_*a.1))+(gd (gd tuples i []) place 0)),w64 (i+1))
 else none
 else none
 else
 some (op,tuples,k,(a.1,a.2),out,place,at_)
def Cs:Nat->(Int×(List (List Int))×Int×(Int×(List (Int×(List Int))))×(List Int)×Int)->Option ((List Int))
 |0,_=>none
 |n+1,(op,tuples,k,a,out,place)=>
 if decide (place<k)then
 (DB Aa (op,tuples,k,(a.1,a.2),out,place,0,0)).bind λs1=>
 if inb s1.1 s1.2.2.2.1.2 then
 if inb s1.2.2.2.2.2.2 ((gd s1.2.2.2.1.2 s1.1 (0,[])).2)then
 if s1.2.2.2.2.1.length+ [gd ((gd s1.2.2.2.1.2 s1.1 (0,[])).2) s1.2.2.2.2.2.2 0].length<=lim then
 Cs n (s1.1,s1.2.1,s1.2.2.1,(s1.2.2.2.1.1,s1.2.2.2.1.2),s1.2.2.2.2.1++ [gd ((gd s1.2.2.2.1.2 s1.1 (0,[])).2) s1.2.2.2.2.2.2 0],w64 (s1.2.2.2.2.2.1+1))
 else none
 else none
 else none
 else
 some out
def Do (a:Int×(List (Int×(List Int)))) (op:Int) (tuples:List (List Int)) (k:Int):Option ((List Int)):=
 (Cs Aa (op,tuples,k,(a.1,a.2),[],0)).bind λs1=>
 some s1
def Di:Nat->(Int×(List Int)×Int)->Option (((List Int))⊕((List Int)×Bool))
 |0,_=>none
 |n+1,(n_,out,i)=>
 if decide (i≥0)then
 if inb i out then
 if decide ((gd out i 0)<(w64 (n_-1)))then
 if inb i out then
 if inb i out then
 some (.inr (stt out i (w64 ((gd out i 0)+1)),true))
 else none
 else none
 else
 if inb i out then
 Di n (n_,stt out i 0,w64 (i-1))
 else none
 else none
 else
 some (.inl out)
def CS (list:List Int) (n_:Int):Option ((List Int)×Bool):=
 (De list).bind λr1=>
  (Di Aa (n_,r1,w64 ((r1.length:Int)-1))).bind λs2=>
   match s2 with
   | .inl s3=>
    some (s3,false)
   | .inr s4=>
    some (s4.1,s4.2)
def C0:Nat->((List Int)×(List Int)×Int×Int)->Option ((List Int))
 |0,_=>none
 |n+1,(b,t10,t11,t12)=>
 if decide (t12<t11)then
 if inb t12 t10 then
 if(0:Int)<=8 then
 if b.length+ [IntKind.wrap .u8 (YiD .i64 (gd t10 t12 0) 8),IntKind.wrap .u8 (gd t10 t12 0)].length<=lim then
 C0 n (b++ [IntKind.wrap .u8 (YiD .i64 (gd t10 t12 0) 8),IntKind.wrap .u8 (gd t10 t12 0)],t10,t11,w64 (t12+1))
 else none
 else none
 else none
 else
 some b
def EN (list:List Int):Option (ByteArray):=
 if(0:Int)<=0/\(0:Int)<=(w64 (2*(list.length:Int)))/\(w64 (2*(list.length:Int)))<=lim then
 (C0 Aa (List.replicate (Int.toNat 0) (0:Int),list,(list.length:Int),0)).bind λs1=>
 some (Ybp s1)
 else none
def CK:Nat->((List ByteArray)×(List (List Int))×Int×Int)->Option ((List ByteArray))
 |0,_=>none
 |n+1,(set,t8,t9,t10)=>
 if decide (t10<t9)then
 if inb t10 t8 then
 (EN (gd t8 t10 [])).bind λr1=>
 CK n (YhI set r1,t8,t9,w64 (t10+1))
 else none
 else
 some set
def Ea (r:Int×(List (List Int))):Option ((List ByteArray)):=
 (CK Aa ([],r.2,(r.2.length:Int),0)).bind λs1=>
 some s1
def B9:Nat->(Int×(Int×(List Int))×(Int×(List (List Int)))×(List ByteArray)×Int×(List Int)×(List Int)×Int×Int×Int)->Option (Int×(Int×(List Int))×(Int×(List (List Int)))×(List ByteArray)×Int×(List Int)×(List Int)×Int)
 |0,_=>none
 |n+1,(t0,t4,t5,t9,t10,t11,t12,t13,t14,t15)=>
 if decide (t15≥0)then
 if t10≠0 then
 if inb t15 t11 then
 if t10≠0 then
 B9 n (t0,(t4.1,t4.2),(t5.1,t5.2),t9,t10,stt t11 t15 (Int.tmod t14 t10),t12,t13,w64 (Int.tdiv t14 t10),w64 (t15-1))
 else none
 else none
 else none
 else
 some (t0,(t4.1,t4.2),(t5.1,t5.2),t9,t10,t11,t12,t13)
def BI:Nat->(Unit×Int×(Int×(List Int))×(Int×(List (List Int)))×(List ByteArray)×Int×(List Int)×(List Int)×Int×Int×Int×Int×Int×Int×Int)->Option (Int×(Int×(List Int))×(Int×(List (List Int)))×(List ByteArray)×Int×(List Int)×(List Int)×Int×Int×Int×Int×Int)
 |0,_=>none
 |n+1,(al61,t0,t4,t5,t9,t10,t11,t12,t13,t16,t17,t57,t58,t62,t63)=>
 if decide (t63<t62)then
 if inb t63 t11 then
 if inb (gd t11 t63 0) t5.2 then
 if inb t16 (gd t5.2 (gd t11 t63 0) [])then
 BI n ((),t0,(t4.1,t4.2),(t5.1,t5.2),t9,t10,t11,t12,t13,t16,w64 ((w64 (t17*t0))+(gd (gd t5.2 (gd t11 t63 0) []) t16 0)),t57,t58,t62,w64 (t63+1))
 else none
 else none
 else none
 else
 some (t0,(t4.1,t4.2),(t5.1,t5.2),t9,t10,t11,t12,t13,t16,t17,t57,t58)
def BH:Nat->(Int×(Int×(List Int))×(Int×(List (List Int)))×(List ByteArray)×Int×(List Int)×(List Int)×Int×Int×Int)->Option (Int×(Int×(List Int))×(Int×(List (List Int)))×(List ByteArray)×Int×(List Int)×(List Int)×Int)
 |0,_=>none
 |n+1,(t0,t4,t5,t9,t10,t11,t12,t13,t57,t58)=>
 if decide (t58<t57)then
 (BI Aa ((),t0,(t4.1,t4.2),(t5.1,t5.2),t9,t10,t11,t12,t13,t58,0,t57,t58,(t11.length:Int),0)).bind λs4=>
 if inb s4.2.2.2.2.2.2.2.2.2.1 s4.2.1.2 then
 if inb s4.2.2.2.2.2.2.2.2.1 s4.2.2.2.2.2.2.1 then
 BH n (s4.1,(s4.2.1.1,s4.2.1.2),(s4.2.2.1.1,s4.2.2.1.2),s4.2.2.2.1,s4.2.2.2.2.1,s4.2.2.2.2.2.1,stt s4.2.2.2.2.2.2.1 s4.2.2.2.2.2.2.2.2.1 (gd s4.2.1.2 s4.2.2.2.2.2.2.2.2.2.1 0),s4.2.2.2.2.2.2.2.1,s4.2.2.2.2.2.2.2.2.2.2.1,w64 (s4.2.2.2.2.2.2.2.2.2.2.2+1))
 else none
 else none
 else
 some (t0,(t4.1,t4.2),(t5.1,t5.2),t9,t10,t11,t12,t13)
def BO:Nat->(Int×(Int×(List Int))×(Int×(List (List Int)))×(List ByteArray)×Int×(List Int)×(List Int)×Int)->Option ((Unit)⊕((List Int)×(List Int)×Bool))
 |0,_=>none
 |n+1,(t0,t4,t5,t9,t10,t11,t12,t13)=>
 (B5 t10 t4.1).bind λr2=>
 if decide (t13<r2)then
 (B9 Aa (t0,(t4.1,t4.2),(t5.1,t5.2),t9,t10,t11,t12,t13,t13,w64 (t4.1-1))).bind λs3=>
 (BH Aa (s3.1,(s3.2.1.1,s3.2.1.2),(s3.2.2.1.1,s3.2.2.1.2),s3.2.2.2.1,s3.2.2.2.2.1,s3.2.2.2.2.2.1,s3.2.2.2.2.2.2.1,s3.2.2.2.2.2.2.2,(s3.2.2.2.2.2.2.1.length:Int),0)).bind λs4=>
 (EN s4.2.2.2.2.2.2.1).bind λr5=>
 if !(Xs s4.2.2.2.1 r5)then
 some (.inr (s4.2.2.2.2.2.1,s4.2.2.2.2.2.2.1,true))
 else
 BO n (s4.1,(s4.2.1.1,s4.2.1.2),(s4.2.2.1.1,s4.2.2.1.2),s4.2.2.2.1,s4.2.2.2.2.1,s4.2.2.2.2.2.1,s4.2.2.2.2.2.2.1,w64 (s4.2.2.2.2.2.2.2+1))
 else
 some (.inl ())
def En (t0:Int) (t1:Int×(List Int)) (t2:Int×(List (List Int))):Option ((List Int)×(List Int)×Bool):=
 (Ea (t2.1,t2.2)).bind λr1=>
  if 0<=t1.1/\t1.1<=t1.1/\t1.1<=lim then
   if 0<=t2.1/\t2.1<=t2.1/\t2.1<=lim then
    (BO Aa (t0,(t1.1,t1.2),(t2.1,t2.2),r1,(t2.2.length:Int),List.replicate (Int.toNat t1.1) (0:Int),List.replicate (Int.toNat t2.1) (0:Int),0)).bind λs2=>
     match s2 with
     | .inl s3=>
      some ([],[],false)
     | .inr s4=>
      some (s4.1,s4.2.1,s4.2.2)
   else none
  else none
end T
open Go Go.Va
namespace T
def kb (l:List Int):List Int:=l.flatMap λx=> [0,x]
def HC (l:List Int):ByteArray:=Ybp (kb l)
theorem IE {x:Int} (h0:0<=x) (h1:x<256):IntKind.wrap .u8 x=x:=by
 simp[IntKind.wrap,IntKind.bits,IntKind.signed]
 omega
theorem JY {x:Int} (h0:0<=x) (h1:x<256):YiD .i64 x 8=0:=by
 unfold YiD
 have:(min (8:Int).toNat IntKind.i64.bits)=8:=by decide
 rw[this,Int.fdiv_eq_ediv_of_nonneg _ (by decide)]
 have:(2:Int)^8=256:=by decide
 rw[this];omega
theorem F7 {l:List Int} (hl:l.length<=1048576) (hv: ∀x∈l,0<=x/\x<256):EN l=some (HC l):=by
 unfold EN
 have e2:w64 (2*(l.length:Int))=2*(l.length:Int):=Ao (by omega) (by omega)
 rw[e2,if_pos (by unfold lim;omega)]
 have kbl: ∀k,k<=l.length->(kb (l.take k)).length=2*k:=by
  intro k hk
  have: ∀l:List Int,(kb l).length=2*l.length:=by
   intro l
   induction l with
   |nil=>rfl
   |cons x l ih=>unfold kb at ih⊢;simp only[List.flatMap_cons,List.length_append,ih,List.length_cons,List.length_nil];omega
  rw[this];simp;omega
 have:=BL l.length (λm o i=>C0 m (o,l,(l.length:Int),i)) (λk=>kb (l.take k)) (r:=some (kb l)) (λm k hk=>?_) (λm=>?_) (n:=Aa) (by unfold Aa;omega)
 ·have e0:kb (l.take 0)= []:=rfl
  rw[e0]at this
  have:C0 Aa (List.replicate (Int.toNat 0) (0:Int),l,(l.length:Int),0)=some (kb l):=this
  rw[this];rfl
 ·have hx:=hv _ (List.getElem_mem hk)
  have hlen:=kbl k (by omega)
  have e:kb (l.take (k+1))=kb (l.take k)++ [0,l[k]]:=by
   unfold kb;rw[List.take_succ_eq_append_getElem hk,List.flatMap_append];simp
  simp only[C0,Ae,Ak hk,Ac (show k<4611686018427387904 by omega),IE hx.1 hx.2,JY hx.1 hx.2,IE (show(0:Int)<=0 by omega) (show(0:Int)<256 by omega),e]
  rw[if_pos (by simp;omega),if_pos hk,if_pos (by omega),if_pos (by unfold lim;simp;omega)]
 ·simp only[C0,List.take_length]
  rw[if_neg (by simp)]
theorem Gc: ∀(xs:List Int) (s:ByteArray),(xs.foldl (λs n=>s.push (UInt8.ofNat n.toNat)) s).data=s.data++(xs.map λn=>UInt8.ofNat n.toNat).toArray
 | [],s=>by simp
 |x::xs,s=>by
  rw[List.foldl_cons,Gc xs]
  apply Array.ext'
  simp[ByteArray.push]
theorem Ky: ∀(l l':List Int),(∀x∈l,0<=x/\x<256)->(∀x∈l',0<=x/\x<256)->(kb l).map (λn=>UInt8.ofNat n.toNat)=(kb l').map (λn=>UInt8.ofNat n.toNat)->l=l'
 | [],[],_,_,_=>rfl
 | [],y::l',_,_,h=>by simp[kb]at h
 |x::l,[],_,_,h=>by simp[kb]at h
 |x::l,y::l',hv,hv',h=>by
  simp only[kb,List.flatMap_cons,List.map_append,List.map_cons,List.map_nil,List.cons_append,List.nil_append,List.cons.injEq,true_and]at h
  obtain⟨h1,h2⟩:=h
  have hx:=hv x (by simp)
  have hy:=hv' y (by simp)
  have h1:=congrArg UInt8.toNat h1
  simp only[UInt8.toNat_ofNat']at h1
  have:x=y:=by omega
  rw[this,Ky l l' (λz hz=>hv z (List.mem_cons_of_mem _ hz)) (λz hz=>hv' z (List.mem_cons_of_mem _ hz)) h2]
theorem KB {l l':List Int} (hv: ∀x∈l,0<=x/\x<256) (hv': ∀x∈l',0<=x/\x<256) (h:HC l=HC l'):l=l':=by
 have h:=congrArg ByteArray.data h
 unfold HC Ybp at h
 rw[Gc,Gc]at h
 have h:=congrArg Array.toList h
 simp only[Array.toList_append]at h
 exact Ky l l' hv hv' (List.append_cancel_left h)
theorem Ka {a b:ByteArray}:(a==b)=decide (a=b):=by
 show(a.data==b.data)=_
 rw[Bool.eq_iff_iff,beq_iff_eq,decide_eq_true_eq]
 exact⟨λh=>ByteArray.ext h,λh=>congrArg ByteArray.data h⟩
theorem Iw {ks:List ByteArray} {s:ByteArray}:Xs ks s=true↔s∈ks:=by
 unfold Xs
 rw[List.any_eq_true]
 constructor
 ·rintro ⟨k,h1,h2⟩;rw[Ka,decide_eq_true_eq]at h2;subst h2;exact h1
 ·intro h;exact⟨s,h,by rw[Ka];simp⟩
theorem KJ {ks:List ByteArray} {s t:ByteArray}:t∈YhI ks s↔t∈ks∨t=s:=by
 unfold YhI
 by_cases h:Xs ks s=true
 ·rw[if_pos h]
  exact⟨.inl,λh'=>h'.elim id λe=>e▸Iw.1 h⟩
 ·rw[if_neg h];simp
def F5 (l:List (List Int)):List ByteArray:=l.foldl (λks t=>YhI ks (HC t)) []
theorem KC {l:List (List Int)} {s:ByteArray}:s∈F5 l↔ ∃t∈l,s=HC t:=by
 have key: ∀(l:List (List Int)) (ks:List ByteArray),s∈l.foldl (λks t=>YhI ks (HC t)) ks↔s∈ks∨ ∃t∈l,s=HC t:=by
  intro l
  induction l with
  |nil=>intro ks;simp
  |cons t l ih=>
   intro ks
   rw[List.foldl_cons,ih,KJ]
   simp only[List.mem_cons,exists_eq_or_imp,or_assoc]
 unfold F5;rw[key];simp
theorem GP {r:Int×List (List Int)} (hl:r.2.length<=1048576) (hv: ∀t∈r.2,t.length<=1048576/\ ∀x∈t,0<=x/\x<256):Ea r=some (F5 r.2):=by
 unfold Ea
 have:=BL r.2.length (λm o i=>CK m (o,r.2,(r.2.length:Int),i)) (λk=>F5 (r.2.take k)) (r:=some (F5 r.2)) (λm k hk=>?_) (λm=>?_) (n:=Aa) (by unfold Aa;omega)
 ·have e0:F5 (r.2.take 0)= []:=rfl
  rw[e0]at this
  simp only[this,Option.bind_some]
 ·obtain⟨h1,h2⟩:=hv _ (List.getElem_mem hk)
  have e:F5 (r.2.take (k+1))=YhI (F5 (r.2.take k)) (HC r.2[k]):=by
   unfold F5;rw[List.take_succ_eq_append_getElem hk,List.foldl_append];rfl
  simp only[CK,Ae,Ak hk,Ac (show k<4611686018427387904 by omega),F7 h1 h2,Option.bind_some,e]
  rw[if_pos (by simp;omega),if_pos hk]
 ·simp only[CK,List.take_length]
  rw[if_neg (by simp)]
theorem JP {l:List (List Int)} {t:List Int} (hl: ∀t∈l,∀x∈t,0<=x/\x<256) (ht: ∀x∈t,0<=x/\x<256):Xs (F5 l) (HC t)=decide (t∈l):=by
 rw[Bool.eq_iff_iff,Iw,decide_eq_true_eq,KC]
 constructor
 ·rintro ⟨u,h1,h2⟩;rw[KB ht (hl u h1) h2];exact h1
 ·intro h;exact⟨t,h,rfl⟩
def dg (b:Nat):Nat->Nat->List Nat
 |0,_=> []
 |k+1,i=>dg b k (i/b)++ [i%b]
theorem EJ {b:Nat}: ∀ {k i:Nat},(dg b k i).length=k
 |0,_=>rfl
 |k+1,i=>by simp[dg,EJ (k:=k)]
theorem Hj {b:Nat} (hb:0<b): ∀ {k i:Nat},∀x∈dg b k i,x<b
 |0,_,x,h=>by simp[dg]at h
 |k+1,i,x,h=>by
  simp only[dg]at h
  rcases List.mem_append.1 h with h|h
  ·exact Hj hb x h
  ·simp at h;subst h;exact Nat.mod_lt _ hb
theorem Jh {b:Nat}: ∀ {k:Nat},dg b k 0=List.replicate k 0
 |0=>rfl
 |k+1=>by simp[dg,Jh (k:=k),List.replicate_succ']
theorem Dq {o:List Nat}:(cI o).length=o.length:=by unfold cI;simp
end T
open Go Go.Va
namespace T
def vt (ts:List (List Int)) (x j:Nat):Nat:=((ts.getD x []).getD j 0).toNat
def atF (n:Nat) (ts:List (List Int)) (j:Nat) (args:List Nat):Nat:=args.foldl (λa x=>a*n+vt ts x j) 0
def Gi (n:Nat) (op:Opn) (ts:List (List Int)) (m:Nat) (args:List Nat):List Int:=(List.range m).map λj=>op.2.getD (atF n ts j args) 0
structure KOk (n k m:Nat) (op:Opn) (r:Int×List (List Int)):Prop where
 op1:op.1=(k:Int)
 hk:1<=k/\k<=3
 hn:1<=n/\n<=8
 opl:op.2.length=n^k
 opv: ∀x∈op.2,0<=x/\x<(n:Int)
 ar:r.1=(m:Int)
 hm:1<=m/\m<=3
 tl: ∀t∈r.2,t.length=m
 tv: ∀t∈r.2,∀x∈t,0<=x/\x<(n:Int)
 many:r.2.length<=64
 inc:Dl r.2=true
def kB (n k m:Nat) (op:Opn) (r:Int×List (List Int)):Bool:=(List.range (r.2.length^k)).all λi=>decide (Gi n op r.2 m (dg r.2.length k i)∈r.2)
theorem Mn {b k:Nat} (hb:b<=64) (hk:k<=3):b^k<=262144:=by
 have h1:b^k<=64^k:=Nat.pow_le_pow_left hb k
 have h2:64^k<=64^3:=Nat.pow_le_pow_right (by omega) hk
 have:(64:Nat)^3=262144:=by decide
 omega
theorem KN {b j:Nat} (hb:b<=64) (hj:j+1<=3):w64 (((b^j:Nat):Int)*(b:Int))=((b^(j+1):Nat):Int):=by
 have h:=Mn hb hj
 rw[Nat.pow_succ]at h⊢
 rw[←Int.natCast_mul]
 exact Ao (by omega) (by omega)
theorem I2 {b:Nat} (hb:b<=64): ∀(m k j:Nat),j+k<=3->k<m->Cc m ((b:Int),(k:Int),((b^j:Nat):Int))=some (((b^(j+k):Nat):Int)):=by
 intro m
 induction m with
 |zero=>intro k j _ h;omega
 |succ m ih=>
  intro k j hj hk
  simp only[Cc]
  cases k with
  |zero=>simp
  |succ k=>
   have e:w64 (((k+1:Nat):Int)-1)=(k:Int):=by rw[Ao (by omega) (by omega)];omega
   rw[e,KN hb (by omega),if_pos (by simp),ih k (j+1) (by omega) (by omega)]
   congr 3;omega
theorem H9 {b k:Nat} (hb:b<=64) (hk:k<=3):B5 (b:Int) (k:Int)=some (((b^k:Nat):Int)):=by
 unfold B5
 have:=I2 hb Aa k 0 (by omega) (by unfold Aa;omega)
 have this:Cc Aa ((b:Int),(k:Int),1)=_:=this
 rw[this];simp
section
variable {n k m:Nat} {op:Opn} {r:Int×List (List Int)}
theorem KOk.vt_lt (h:KOk n k m op r) {x j:Nat} (hx:x<r.2.length) (hj:j<m):vt r.2 x j<n/\(r.2.getD x []).getD j 0=((vt r.2 x j:Nat):Int)/\j<(r.2.getD x []).length:=by
 have hmem:r.2[x]∈r.2:=List.getElem_mem hx
 have hl:=h.tl _ hmem
 have hj':j<(r.2[x]).length:=by omega
 have hv:=h.tv _ hmem _ (List.getElem_mem hj')
 unfold vt
 rw[Ab hx,Ab hj']
 exact⟨by omega,by omega,by omega⟩
theorem JS {n k:Nat} (hn:n<=8) (hk:k<=3):n^k<=512:=by
 have h1:n^k<=8^k:=Nat.pow_le_pow_left hn k
 have h2:8^k<=8^3:=Nat.pow_le_pow_right (by omega) hk
 have:(8:Nat)^3=512:=by decide
 omega
theorem Ib {n k:Nat} (hn:n<=64) (hk:k<=3):n^k<=262144:=by
 have h1:n^k<=64^k:=Nat.pow_le_pow_left hn k
 have h2:64^k<=64^3:=Nat.pow_le_pow_right (by omega) hk
 have:(64:Nat)^3=262144:=by decide
 omega
theorem IN {ts:List (List Int)} {j:Nat} {a:List Nat} {x:Nat}:atF n ts j (a++ [x])=atF n ts j a*n+vt ts x j:=by unfold atF;rw[List.foldl_append];rfl
theorem Jl {n:Nat} {v:Nat->Nat}: ∀(a:List Nat) (c:Nat),(∀x∈a,v x<n)->a.foldl (λa x=>a*n+v x) c<(c+1)*n^a.length
 | [],c,_=>by simp
 |x::a,c,h=>by
  have h1:=Jl a (c*n+v x) λy hy=>h y (List.mem_cons_of_mem _ hy)
  have h2:=h x (by simp)
  have h3:(c*n+v x+1)*n^a.length<=((c+1)*n)*n^a.length:=Nat.mul_le_mul_right _ (by rw[Nat.succ_mul];omega)
  rw[List.foldl_cons,List.length_cons,Nat.pow_succ]
  have h4:((c+1)*n)*n^a.length=(c+1)*(n^a.length*n):=by rw[Nat.mul_assoc,Nat.mul_comm n]
  omega
theorem J9 (h:KOk n k m op r) {j:Nat} (hj:j<m) (a:List Nat) (ha: ∀x∈a,x<r.2.length):atF n r.2 j a<n^a.length:=by
 have:=Jl (n:=n) (v:=λx=>vt r.2 x j) a 0 λx hx=>(h.vt_lt (ha x hx) hj).1
 unfold atF;omega
theorem Jr (h:KOk n k m op r) {a:List Nat} (hl:a.length=k) (ha: ∀x∈a,x<r.2.length) {j:Nat} (hj:j<m):atF n r.2 j a<op.2.length/\0<=op.2.getD (atF n r.2 j a) 0/\op.2.getD (atF n r.2 j a) 0<(n:Int):=by
 have h1:=J9 h hj a ha
 rw[hl]at h1
 have h2:atF n r.2 j a<op.2.length:=by rw[h.opl];exact h1
 rw[Ab h2]
 exact⟨h2,h.opv _ (List.getElem_mem h2)⟩
theorem J6 (hn:n<=8) {x v:Nat} (hx:x<=512) (hv:v<n):w64 (w64 ((x:Int)*(n:Int))+(v:Int))=((x*n+v:Nat):Int):=by
 have h1:x*n<=512*8:=Nat.mul_le_mul hx hn
 have e:(x:Int)*(n:Int)=((x*n:Nat):Int):=by push_cast;rfl
 rw[e,Ao (x:=((x*n:Nat):Int)) (by omega) (by omega),Ao (by omega) (by omega)]
 push_cast;rfl
theorem LS (h:KOk n k m op r) (hb:0<r.2.length) (set:List ByteArray) (res:List Int) (i:Int):
  ∀(j:Nat) (args:List Nat) (rest f:Nat),args.length=k->j<=k->j<f->rest<=262144->
   B9 f ((n:Int),(op.1,op.2),(r.1,r.2),set,(r.2.length:Int),cI args,res,i,(rest:Int),(j:Int)-1)=
    some ((n:Int),(op.1,op.2),(r.1,r.2),set,(r.2.length:Int),cI (dg r.2.length j rest++args.drop j),res,i):=by
 have h8:=h.many
 intro j
 induction j with
 |zero=>
  intro args rest f hl _ hf _
  obtain⟨f,rfl⟩: ∃q,f=q+1:=⟨f-1,by omega⟩
  simp only[B9]
  rw[if_neg (by simp)];rfl
 |succ j ih=>
  intro args rest f hl hj hf hr
  obtain⟨f,rfl⟩: ∃q,f=q+1:=⟨f-1,by omega⟩
  have e1:((j+1:Nat):Int)-1=(j:Int):=by omega
  have e2:w64 ((j:Int)-1)=(j:Int)-1:=by have:=h.hk;exact Ao (by omega) (by omega)
  have hdiv:rest/r.2.length<=262144:=Nat.le_trans (Nat.div_le_self _ _) hr
  have e3:Int.tmod (rest:Int) (r.2.length:Int)=((rest%r.2.length:Nat):Int):=by rw[Int.tmod_eq_emod_of_nonneg (by omega),Int.natCast_emod]
  have e4:w64 (Int.tdiv (rest:Int) (r.2.length:Int))=((rest/r.2.length:Nat):Int):=by
   rw[Int.tdiv_eq_ediv_of_nonneg (by omega),←Int.natCast_ediv]
   have hd':((rest/r.2.length:Nat):Int)<=262144:=Int.ofNat_le.2 hdiv
   exact Ao (Int.le_trans (by decide) (Int.natCast_nonneg _)) (Int.le_trans hd' (by decide))
  have hjl:j<(cI args).length:=by rw[Dq];omega
  have e5:(cI args).set j ((rest%r.2.length:Nat):Int)=cI (args.set j (rest%r.2.length)):=by unfold cI;rw[List.map_set]
  have hne: ¬((r.2.length:Int)=0):=by omega
  have ihx:=ih (args.set j (rest%r.2.length)) (rest/r.2.length) f (by simpa using hl) (by omega) (by omega) hdiv
  rw[e1]
  simp only[B9,ne_eq,hne,not_false_eq_true,if_true,Ae,hjl,e2,e3,e4,BA,e5,ihx]
  rw[if_pos (by simp)]
  have e6:dg r.2.length j (rest/r.2.length)++(args.set j (rest%r.2.length)).drop j=dg r.2.length (j+1) rest++args.drop (j+1):=by
   have:(args.set j (rest%r.2.length)).drop j=(rest%r.2.length)::args.drop (j+1):=by
    rw[List.drop_eq_getElem_cons (by simp;omega),List.getElem_set_self,List.drop_set_of_lt (by omega)]
   rw[this];simp[dg]
  rw[e6]
theorem LV (h:KOk n k m op r) (set:List ByteArray) (res:List Int) (i:Int) {args:List Nat} (hl:args.length=k) (ha: ∀x∈args,x<r.2.length) {j:Nat} (hj:j<m) (t57 t58:Int):
  BI Aa ((),(n:Int),(op.1,op.2),(r.1,r.2),set,(r.2.length:Int),cI args,res,i,(j:Int),0,t57,t58,(k:Int),0)=
   some ((n:Int),(op.1,op.2),(r.1,r.2),set,(r.2.length:Int),cI args,res,i,(j:Int),((atF n r.2 j args:Nat):Int),t57,t58):=by
 have hk3:=h.hk
 have:=BL k (λf (s:Int) q=>BI f ((),(n:Int),(op.1,op.2),(r.1,r.2),set,(r.2.length:Int),cI args,res,i,(j:Int),s,t57,t58,(k:Int),q)) (λq=>((atF n r.2 j (args.take q):Nat):Int))
  (r:=some ((n:Int),(op.1,op.2),(r.1,r.2),set,(r.2.length:Int),cI args,res,i,(j:Int),((atF n r.2 j args:Nat):Int),t57,t58)) (λf q hq=>?_) (λf=>?_) (n:=Aa) (by unfold Aa;omega)
 ·exact this
 ·have hql:q<args.length:=by omega
  have hqc:q<(cI args).length:=by rw[Dq];exact hql
  have hg:(cI args).getD q 0=((args.getD q 0:Nat):Int):=HZ hql
  have hx:args.getD q 0<r.2.length:=by rw[Ab hql];exact ha _ (List.getElem_mem _)
  obtain⟨v1,v2,v3⟩:=h.vt_lt hx hj
  have hb:=J9 h hj (args.take q) λx hx=>ha x (List.mem_of_mem_take hx)
  have hb2:n^(args.take q).length<=512:=JS h.hn.2 (by simp;omega)
  have e:atF n r.2 j (args.take (q+1))=atF n r.2 j (args.take q)*n+vt r.2 (args.getD q 0) j:=by
   rw[List.take_succ_eq_append_getElem hql,IN,Ab hql]
  rw[e]
  simp only[BI,decide_eq_true (show(q:Int)<(k:Int) by omega),if_true,Ae,hqc,Co,hg,hx,v2,v3,J6 h.hn.2 (show atF n r.2 j (args.take q)<=512 by omega) v1,Ac (show q<4611686018427387904 by omega)]
 ·simp only[BI]
  rw[if_neg (by simp),←hl,List.take_length]
theorem LU (h:KOk n k m op r) (set:List ByteArray) {res:List Int} (hr:res.length=m) (i:Int) {args:List Nat} (hl:args.length=k) (ha: ∀x∈args,x<r.2.length):
  BH Aa ((n:Int),(op.1,op.2),(r.1,r.2),set,(r.2.length:Int),cI args,res,i,(m:Int),0)=
   some ((n:Int),(op.1,op.2),(r.1,r.2),set,(r.2.length:Int),cI args,Gi n op r.2 m args,i):=by
 have hm3:=h.hm
 have hcl:((cI args).length:Int)=(k:Int):=by rw[Dq,hl]
 have:=LW (List.range m) (λf o q=>BH f ((n:Int),(op.1,op.2),(r.1,r.2),set,(r.2.length:Int),cI args,o,i,(m:Int),q)) (λj=>op.2.getD (atF n r.2 j args) 0)
  (λo=>some ((n:Int),(op.1,op.2),(r.1,r.2),set,(r.2.length:Int),cI args,o,i)) (λf o j hj ho=>?_) (λf o ho=>?_) (n:=Aa) (out:=res) (by simpa using hr) (by unfold Aa;simp;omega)
 ·exact this
 ·rw[List.length_range]at hj ho
  have h19:=LV h set o i hl ha hj (m:Int) (j:Int)
  obtain⟨v1,_,_⟩:=Jr h hl ha hj
  simp only[BH,decide_eq_true (show(j:Int)<(m:Int) by omega),if_true,hcl,h19,Option.bind_some,Ae,v1,ho,hj,Co,BA,List.getElem_range,Ac (show j<4611686018427387904 by omega)]
 ·simp only[BH,List.length_range]
  rw[if_neg (by simp)]
theorem JT (h:KOk n k m op r) {a:List Nat} (hl:a.length=k) (ha: ∀x∈a,x<r.2.length):(Gi n op r.2 m a).length=m/\ ∀x∈Gi n op r.2 m a,0<=x/\x<(n:Int):=by
 unfold Gi
 refine⟨by simp,λx hx=>?_⟩
 rw[List.mem_map]at hx
 obtain⟨j,hj,rfl⟩:=hx
 exact(Jr h hl ha (List.mem_range.1 hj)).2
theorem HS (h:KOk n k m op r): ∀t∈r.2,∀x∈t,0<=x/\x<256:=λt ht x hx=>by have:=h.tv t ht x hx;have:=h.hn;omega
theorem Mf (h:KOk n k m op r): ∀(d i:Nat) (args:List Nat) (res:List Int) (f:Nat),i+d=r.2.length^k->d<f->args.length=k->res.length=m->
  ∃q,BO f ((n:Int),(op.1,op.2),(r.1,r.2),F5 r.2,(r.2.length:Int),cI args,res,(i:Int))=some q/\
   (match q with| .inl _=>((List.range' i d).all λi=>decide (Gi n op r.2 m (dg r.2.length k i)∈r.2))=true| .inr z=>z.2.2=true/\((List.range' i d).all λi=>decide (Gi n op r.2 m (dg r.2.length k i)∈r.2))=false):=by
 have hk3:=h.hk
 have h8:=h.many
 have hpow:=H9 (b:=r.2.length) (k:=k) (by omega) (by omega)
 have hp8:=Ib h8 hk3.2
 intro d
 induction d with
 |zero=>
  intro i args res f hi hf _ _
  obtain⟨f,rfl⟩: ∃q,f=q+1:=⟨f-1,by omega⟩
  refine⟨.inl (),?_,by simp⟩
  simp only[BO,h.op1,hpow,Option.bind_some]
  rw[if_neg (by rw[decide_eq_true_eq];omega)]
 |succ d ih=>
  intro i args res f hi hf hl hr
  obtain⟨f,rfl⟩: ∃q,f=q+1:=⟨f-1,by omega⟩
  have hb:0<r.2.length:=Nat.pos_of_ne_zero λe=>by
   rw[e,Nat.zero_pow (by omega)]at hi;omega
  have hdl:(dg r.2.length k i).length=k:=EJ
  have hdv: ∀x∈dg r.2.length k i,x<r.2.length:=Hj hb
  have h10:=LS h hb (F5 r.2) res (i:Int) k args i Aa hl (Nat.le_refl _) (by unfold Aa;omega) (by omega)
  have e0:dg r.2.length k i++args.drop k=dg r.2.length k i:=by rw[List.drop_of_length_le (by omega),List.append_nil]
  rw[e0]at h10
  have e1:w64 ((k:Int)-1)=(k:Int)-1:=Ao (by omega) (by omega)
  have h15:=LU h (F5 r.2) hr (i:Int) hdl hdv
  obtain⟨s1,s2⟩:=JT h hdl hdv
  have s3: ∀x∈Gi n op r.2 m (dg r.2.length k i),0<=x/\x<256:=λx hx=>by have:=s2 x hx;have:=h.hn;omega
  have hkey:=F7 (l:=Gi n op r.2 m (dg r.2.length k i)) (by have:=h.hm;omega) s3
  have hhas:=JP (HS h) s3
  have hrl:((res.length:Nat):Int)=(m:Int):=by rw[hr]
  rw[h.op1]at h10 h15
  rw[List.range'_succ,List.all_cons]
  simp only[BO,h.op1,hpow,Option.bind_some,e1,h10,hrl,h15,hkey,hhas]
  rw[if_pos (by rw[decide_eq_true_eq];omega)]
  cases hc:decide (Gi n op r.2 m (dg r.2.length k i)∈r.2)with
  |false=>exact⟨.inr (cI (dg r.2.length k i),Gi n op r.2 m (dg r.2.length k i),true),by simp,⟨rfl,by simp⟩⟩
  |true=>
   obtain⟨q,h1,h2⟩:=ih (i+1) (dg r.2.length k i) (Gi n op r.2 m (dg r.2.length k i)) f (by omega) (by omega) hdl s1
   refine⟨q,?_,by simpa using h2⟩
   rw[h.op1]at h1
   simp only[Bool.not_true,Bool.false_eq_true,if_false,Ac (show i<4611686018427387904 by omega)]
   exact h1
theorem Gd (h:KOk n k m op r): ∃z,En (n:Int) op r=some z/\z.2.2=!kB n k m op r:=by
 have hk3:=h.hk
 have hm3:=h.hm
 have hset:=GP (r:=r) (by have:=h.many;omega) (λt ht=>⟨by have:=h.tl t ht;omega,HS h t ht⟩)
 obtain⟨q,h1,h2⟩:=Mf h (r.2.length^k) 0 (List.replicate k 0) (List.replicate m 0) Aa (by omega) (by have:=Ib h.many hk3.2;unfold Aa;omega) (by simp) (by simp)
 have e:cI (List.replicate k 0)=List.replicate k (0:Int):=by unfold cI;simp
 rw[e]at h1
 have h1:BO Aa ((n:Int),(op.1,op.2),(r.1,r.2),F5 r.2,(r.2.length:Int),List.replicate k (0:Int),List.replicate m (0:Int),0)=some q:=h1
 unfold En
 rw[show Ea (r.1,r.2)=some (F5 r.2) from hset]
 simp only[Option.bind_some]
 rw[if_pos (by rw[h.op1];unfold lim;omega),if_pos (by rw[h.ar];unfold lim;omega)]
 rw[h.op1,h.ar,Int.toNat_natCast,Int.toNat_natCast]
 rw[h.op1,h.ar]at h1
 rw[h1]
 have e2:kB n k m op r=(List.range' 0 (r.2.length^k)).all λi=>decide (Gi n op r.2 m (dg r.2.length k i)∈r.2):=by unfold kB;rw[List.range_eq_range']
 rw[e2]
 cases q with
 |inl x=>exact⟨([],[],false),rfl,by rw[h2];rfl⟩
 |inr x=>exact⟨_,rfl,by rw[h2.2,h2.1];rfl⟩
end
end T
open Go Go.Va
namespace T
section
variable {n k m:Nat} {op:Opn} {r:Int×List (List Int)}
theorem Mm {b:Nat} (hb:0<b) (hb8:b<=64) (hk:k<=3): ∀(j q f:Nat),j<=k->j<f->q<b^j->
  Di f ((b:Int),cI (dg b j q++List.replicate (k-j) 0),(j:Int)-1)=some (if q+1<b^j then .inr (cI (dg b j (q+1)++List.replicate (k-j) 0),true)else .inl (cI (List.replicate k 0))):=by
 intro j
 induction j with
 |zero=>
  intro q f _ hf hq
  obtain⟨f,rfl⟩: ∃z,f=z+1:=⟨f-1,by omega⟩
  simp only[Di]
  rw[if_neg (by simp),if_neg (by simp)]
  simp[dg]
 |succ j ih=>
  intro q f hj hf hq
  obtain⟨f,rfl⟩: ∃z,f=z+1:=⟨f-1,by omega⟩
  have e1:((j+1:Nat):Int)-1=(j:Int):=by omega
  have hdl:(dg b j (q/b)).length=j:=EJ
  have hz:List.replicate (k-j) 0=0::List.replicate (k-(j+1)) 0:=by rw[show k-j=(k-(j+1))+1 by omega,List.replicate_succ]
  have hfull:dg b (j+1) q++List.replicate (k-(j+1)) 0=dg b j (q/b)++q%b::List.replicate (k-(j+1)) 0:=by simp[dg]
  have hset: ∀y:Nat,(cI (dg b j (q/b)++q%b::List.replicate (k-(j+1)) 0)).set j (y:Int)=cI (dg b j (q/b)++y::List.replicate (k-(j+1)) 0):=λy=>by
   unfold cI
   rw[List.map_append,List.map_append,List.map_cons,List.map_cons,List.set_append_right _ _ (by simp[hdl])]
   simp[hdl]
  have hlen:j<(cI (dg b j (q/b)++q%b::List.replicate (k-(j+1)) 0)).length:=by rw[Dq];simp[hdl]
  have hget:(cI (dg b j (q/b)++q%b::List.replicate (k-(j+1)) 0)).getD j 0=((q%b:Nat):Int):=by
   rw[HZ (by simp[hdl])]
   rw[Ab (by simp[hdl]),List.getElem_append_right (by omega)]
   simp[hdl]
  have hmod:q%b<b:=Nat.mod_lt _ hb
  have hdm:b*(q/b)+q%b=q:=Nat.div_add_mod q b
  have hpow:b^(j+1)=b*b^j:=by rw[Nat.pow_succ,Nat.mul_comm]
  have hqd:q/b<b^j:=by
   rcases Nat.lt_or_ge (q/b) (b^j)with h|h
   ·exact h
   ·have:b*b^j<=b*(q/b):=Nat.mul_le_mul_left _ h
    omega
  have w1:w64 ((b:Int)-1)=(b:Int)-1:=Ao (by omega) (by omega)
  have w2:w64 ((j:Int)-1)=(j:Int)-1:=Ao (by omega) (by omega)
  have hge:decide ((j:Int)≥0)=true:=by simp
  rw[e1,hfull]
  simp only[Di,hge,if_true,Ae,hlen,Co,hget,w1,BA]
  by_cases hc:q%b+1<b
  ·have hlt:q+1<b^(j+1):=by
    have:b*(q/b+1)<=b*b^j:=Nat.mul_le_mul_left _ hqd
    rw[Nat.mul_succ]at this;omega
   have hd1:(q+1)/b=q/b:=by
    rw[Nat.div_eq_iff hb];rw[Nat.mul_comm]at hdm;constructor<;>omega
   have hm1:(q+1)%b=q%b+1:=by
    have:=Nat.div_add_mod (q+1) b
    rw[hd1]at this;omega
   have w3:w64 (((q%b:Nat):Int)+1)=((q%b+1:Nat):Int):=Ac (by omega)
   rw[if_pos (by simp;omega),w3,hset,if_pos hlt]
   simp[dg,hd1,hm1]
  ·have hlast:q%b=b-1:=by omega
   have ihx:=ih (q/b) f (by omega) (by omega) hqd
   have hset0:=hset 0
   have hset0:(cI (dg b j (q/b)++q%b::List.replicate (k-(j+1)) 0)).set j 0=cI (dg b j (q/b)++0::List.replicate (k-(j+1)) 0):=hset0
   rw[if_neg (by simp;omega),hset0,w2,←hz,ihx]
   have hq1:q+1=b*(q/b+1):=by rw[Nat.mul_succ];omega
   have hiff:q+1<b^(j+1)↔q/b+1<b^j:=by
    rw[hq1,hpow];exact Nat.mul_lt_mul_left hb
   have hd1:(q+1)/b=q/b+1:=by rw[hq1,Nat.mul_div_cancel_left _ hb]
   have hm1:(q+1)%b=0:=by rw[hq1,Nat.mul_mod_right]
   by_cases h2:q/b+1<b^j
   ·rw[if_pos h2,if_pos (hiff.2 h2)]
    have:dg b j (q/b+1)++List.replicate (k-j) 0=dg b (j+1) (q+1)++List.replicate (k-(j+1)) 0:=by
     rw[hz];simp[dg,hd1,hm1]
    rw[this]
   ·rw[if_neg h2,if_neg λh=>h2 (hiff.1 h)]
theorem FU {b:Nat} (hb:0<b) (hb8:b<=64) (hk:k<=3) {i:Nat} (hi:i<b^k):
  CS (cI (dg b k i)) (b:Int)=some (if i+1<b^k then(cI (dg b k (i+1)),true)else(cI (List.replicate k 0),false)):=by
 have hl:(cI (dg b k i)).length=k:=by rw[Dq,EJ]
 have hown:=Dv (l:=cI (dg b k i)) (by omega)
 have w1:w64 ((k:Int)-1)=(k:Int)-1:=Ao (by omega) (by omega)
 have:=Mm (k:=k) hb hb8 hk k i Aa (Nat.le_refl _) (by unfold Aa;omega) hi
 simp only[Nat.sub_self,List.replicate_zero,List.append_nil]at this
 unfold CS
 rw[hown]
 simp only[Option.bind_some,hl,w1,this]
 by_cases h:i+1<b^k
 ·simp[h]
 ·simp[h]
end
end T
set_option linter.unusedVariables false
open Go Go.Va
namespace T
def Fb (x:Int) (y:Int) (z:Int) (t3:Int):Option (Int×Int):=
 if t3≠0 then
 some (t3,Int.tmod (w64 ((w64 ((w64 (x-y))+z))+t3)) t3)
 else none
def As:Nat->(Int×Int×(Int×(List Int))×(Int×(List Int))×Int)->Option (Int×(Int×(List Int))×(Int×(List Int)))
 |0,_=>none
 |n+1,(n_,value,t4,f,i)=>
 if decide (i<(w64 ((w64 (n_*n_))*n_)))then
 if n_≠0 then
 if n_≠0 then
 if n_≠0 then
 if n_≠0 then
 if n_≠0 then
 (Fb (w64 (Int.tdiv (w64 (Int.tdiv i n_)) n_)) (Int.tmod (w64 (Int.tdiv i n_)) n_) (Int.tmod i n_) value).bind λr1=>
 if f.2.length+ [r1.2].length<=lim then
 As n (n_,r1.1,(t4.1,t4.2),(f.1,f.2++ [r1.2]),w64 (i+1))
 else none
 else none
 else none
 else none
 else none
 else none
 else
 some (value,(t4.1,t4.2),(f.1,f.2))
def BU (n_:Int) (value:Int):Option (Int×(Int×(List Int))):=
 (As Aa (n_,value,(0,[]),(3,[]),0)).bind λs1=>
 some (s1.1,(s1.2.2.1,s1.2.2.2))
def CB (n_:Int):Option ((Int×(List Int))×Bool):=
 (DI n_).bind λr1=>
 if !r1 then
 some ((0,[]),false)
 else
 (BU n_ n_).bind λr2=>
 some ((r2.2.1,r2.2.2),true)
def Dg:Nat->(Int×Int×(List Int)×Int)->Option ((List Int))
 |0,_=>none
 |n+1,(n_,at_,out,i)=>
 if decide (i≥0)then
 if n_≠0 then
 if inb i out then
 if n_≠0 then
 Dg n (n_,w64 (Int.tdiv at_ n_),stt out i (Int.tmod at_ n_),w64 (i-1))
 else none
 else none
 else none
 else
 some out
def FQ (n_:Int) (arity:Int) (at_:Int):Option ((List Int)):=
 if 0<=arity/\arity<=arity/\arity<=lim then
 (Dg Aa (n_,at_,List.replicate (Int.toNat arity) (0:Int),w64 (arity-1))).bind λs1=>
 some s1
 else none
def G1 (a:Int) (b:Int):Option (Int):=
 if decide (a>b)then
 some a
 else
 some b
def BX:Nat->((List Int)×Int×Int)->Option ((List Int))
 |0,_=>none
 |n+1,(list,t8,t9)=>
 if decide (t9<t8)then
 if inb t9 list then
 BX n (stt list t9 (-1),t8,w64 (t9+1))
 else none
 else
 some list
def C6 (many:Int):Option ((List Int)):=
 if 0<=many/\many<=many/\many<=lim then
 (BX Aa (List.replicate (Int.toNat many) (0:Int),((List.replicate (Int.toNat many) (0:Int)).length:Int),0)).bind λs1=>
 some s1
 else none
def C5:Nat->(Int×Int×(List Int)×Int)->Option ((List Int))
 |0,_=>none
 |n+1,(i,n_,args,j)=>
 if decide (j≥0)then
 if n_≠0 then
 if inb j args then
 if n_≠0 then
 C5 n (w64 (Int.tdiv i n_),n_,stt args j (Int.tmod i n_),w64 (j-1))
 else none
 else none
 else none
 else
 some args
def FN (i:Int) (k:Int) (n_:Int):Option ((List Int)):=
 if 0<=k/\k<=k/\k<=lim then
 (C5 Aa (i,n_,List.replicate (Int.toNat k) (0:Int),w64 (k-1))).bind λs1=>
 some s1
 else none
def CT (list:List Int):Option ((List Int)):=
 if([]:List Int).length+list.length<=lim then
 some ([]++list)
 else none
end T
open Go Go.Va
namespace T
theorem ID {a b:Nat} (ha:a<4611686018427387904):w64 (Int.tdiv (a:Int) (b:Int))=((a/b:Nat):Int):=by
 rw[Int.tdiv_eq_ediv_of_nonneg (by omega),←Int.natCast_ediv]
 have:=Nat.div_le_self a b
 generalize a/b=q at this
 exact Ao (by omega) (by omega)
theorem Jw {a b:Nat}:Int.tmod (a:Int) (b:Int)=((a%b:Nat):Int):=by
 rw[Int.tmod_eq_emod_of_nonneg (by omega),←Int.natCast_emod]
def DK (n i:Nat):Int:=((((i/(n*n)+n)-(i/n)%n+i%n)%n:Nat):Int)
section
variable {n:Nat}
theorem G5 (h:1<=n/\n<=8):n*n<=64/\n*n*n<=512/\1<=n*n:=by
 have h2:n*n<=8*8:=Nat.mul_le_mul h.2 h.2
 have h3:n*n*n<=64*8:=Nat.mul_le_mul h2 h.2
 have h4:1*1<=n*n:=Nat.mul_le_mul h.1 h.1
 omega
theorem LJ {a:Nat} (h:a<4611686018427387904):w64 (a:Int)=(a:Int):=Ao (by omega) (by omega)
theorem D3 (h:1<=n/\n<=8):CD (n:Int)=some (3,(List.range (n*n*n)).map (DK n)):=by
 obtain⟨h2,h3,h4⟩:=G5 h
 have e1:w64 ((n:Int)*n)=((n*n:Nat):Int):=by rw[←Int.natCast_mul];exact LJ (by omega)
 have e2:w64 (((n*n:Nat):Int)*n)=((n*n*n:Nat):Int):=by rw[←Int.natCast_mul];exact LJ (by omega)
 unfold CD
 have:=BL (n*n*n) (λf o i=>Ci f ((n:Int),(0,[]),(3,o),i)) (λk=>(List.range k).map (DK n)) (r:=some ((0,[]),(3,(List.range (n*n*n)).map (DK n)))) (λf k hk=>?_) (λf=>?_) (n:=Aa) (by unfold Aa;omega)
 ·have e0:(List.range 0).map (DK n)= []:=rfl
  rw[e0]at this
  have this:Ci Aa ((n:Int),(0,[]),(3,[]),0)=_:=this
  rw[this];rfl
 ·have hdiv:k/(n*n)<n:=Nat.div_lt_of_lt_mul (by rw[Nat.mul_comm]at hk;rw[Nat.mul_comm];exact hk)
  have hm1:(k/n)%n<n:=Nat.mod_lt _ (by omega)
  have hm2:k%n<n:=Nat.mod_lt _ (by omega)
  have e345:w64 (w64 (w64 ((((k/(n*n):Nat):Int))+(n:Int))-(((k/n)%n:Nat):Int))+((k%n:Nat):Int))=((k/(n*n)+n-(k/n)%n+k%n:Nat):Int):=by
   generalize k/(n*n)=q1 at hdiv⊢
   generalize (k/n)%n=q2 at hm1⊢
   generalize k%n=q3 at hm2⊢
   rw[Ao (x:=(q1:Int)+n) (by omega) (by omega),Ao (x:=(q1:Int)+n-q2) (by omega) (by omega),Ao (by omega) (by omega)];omega
  have e6:(List.range (k+1)).map (DK n)=(List.range k).map (DK n)++ [DK n k]:=by rw[List.range_succ,List.map_append];rfl
  simp only[Ci,e1,e2,ID (show k<4611686018427387904 by omega),Jw,e345,e6,Ac (show k<4611686018427387904 by omega)]
  have hne:((n:Int))≠0:=by omega
  have hnn:((n*n:Nat):Int)≠0:=Int.natCast_ne_zero.2 (by omega)
  rw[if_pos (decide_eq_true (show(k:Int)<((n*n*n:Nat):Int) from Int.ofNat_lt.2 hk)),if_pos hnn,if_pos hne,if_pos hne,if_pos hne,if_pos hne,if_pos (by unfold lim;simp;omega)]
  rfl
 ·simp only[Ci,e1,e2]
  rw[if_neg (by simp)]
theorem FD (h:1<=n/\n<=8):BU (n:Int) (n:Int)=some ((n:Int),(3,(List.range (n*n*n)).map (DK n))):=by
 obtain⟨h2,h3,h4⟩:=G5 h
 have e1:w64 ((n:Int)*n)=((n*n:Nat):Int):=by rw[←Int.natCast_mul];exact LJ (by omega)
 have e2:w64 (((n*n:Nat):Int)*n)=((n*n*n:Nat):Int):=by rw[←Int.natCast_mul];exact LJ (by omega)
 unfold BU
 have:=BL (n*n*n) (λf o i=>As f ((n:Int),(n:Int),(0,[]),(3,o),i)) (λk=>(List.range k).map (DK n)) (r:=some ((n:Int),(0,[]),(3,(List.range (n*n*n)).map (DK n)))) (λf k hk=>?_) (λf=>?_) (n:=Aa) (by unfold Aa;omega)
 ·have e0:(List.range 0).map (DK n)= []:=rfl
  rw[e0]at this
  have this:As Aa ((n:Int),(n:Int),(0,[]),(3,[]),0)=_:=this
  rw[this];rfl
 ·have hdiv:k/(n*n)<n:=Nat.div_lt_of_lt_mul (by rw[Nat.mul_comm]at hk;rw[Nat.mul_comm];exact hk)
  have hm1:(k/n)%n<n:=Nat.mod_lt _ (by omega)
  have hm2:k%n<n:=Nat.mod_lt _ (by omega)
  have hdd:k/n/n=k/(n*n):=Nat.div_div_eq_div_mul _ _ _
  have hkn:k/n<=k:=Nat.div_le_self _ _
  have e345:w64 (w64 (w64 (((k/(n*n):Nat):Int)-(((k/n)%n:Nat):Int))+((k%n:Nat):Int))+(n:Int))=((k/(n*n)+n-(k/n)%n+k%n:Nat):Int):=by
   generalize k/(n*n)=q1 at hdiv⊢
   generalize (k/n)%n=q2 at hm1⊢
   generalize k%n=q3 at hm2⊢
   rw[Ao (x:=(q1:Int)-q2) (by omega) (by omega),Ao (x:=(q1:Int)-q2+q3) (by omega) (by omega),Ao (by omega) (by omega)];omega
  have e6:(List.range (k+1)).map (DK n)=(List.range k).map (DK n)++ [DK n k]:=by rw[List.range_succ,List.map_append];rfl
  simp only[As,e1,e2,ID (show k<4611686018427387904 by omega),ID (show k/n<4611686018427387904 from Nat.lt_of_le_of_lt hkn (by omega)),Jw,hdd,Fb,e345,e6,Ac (show k<4611686018427387904 by omega)]
  have hne:((n:Int))≠0:=by omega
  rw[if_pos (decide_eq_true (show(k:Int)<((n*n*n:Nat):Int) from Int.ofNat_lt.2 hk)),if_pos hne,if_pos hne,if_pos hne,if_pos hne,if_pos hne,if_pos hne]
  simp only[Option.bind_some]
  rw[if_pos (by unfold lim;simp;omega)]
  rfl
 ·simp only[As,e1,e2]
  rw[if_neg (by simp)]
end
theorem Ii (n:Int): ∃R:Opn×Bool,CB n=some R/\CC n=some R/\R.1.2.length<=512:=by
 unfold CB CC
 rw[Db,ET]
 cases hb:Ef n with
 |false=>exact⟨((0,[]),false),by simp,by simp,by simp⟩
 |true=>
  unfold Ef at hb
  have hb:=of_decide_eq_true hb
  obtain⟨m,rfl⟩: ∃m:Nat,n=(m:Int):=⟨n.toNat,by omega⟩
  have h:1<=m/\m<=8:=by omega
  obtain⟨_,h3,_⟩:=G5 h
  exact⟨((3,(List.range (m*m*m)).map (DK m)),true),by simp[FD h],by simp[D3 h],by simp;omega⟩
end T
open Go Go.Va
namespace T
abbrev HA:=Int×List (List Int)
structure ROk (n m:Nat) (r:HA):Prop where
 ar:r.1=(m:Int)
 hm:1<=m/\m<=3
 tl: ∀t∈r.2,t.length=m
 tv: ∀t∈r.2,∀x∈t,0<=x/\x<(n:Int)
 many:r.2.length<=64
 inc:Dl r.2=true
theorem Ke {l:List Nat} {s:List Nat} {x y:Nat}:(cI (l++x::s)).set l.length (y:Int)=cI (l++y::s):=by
 unfold cI
 rw[List.map_append,List.map_append,List.map_cons,List.map_cons,List.set_append_right _ _ (by simp)]
 simp
theorem K9 {b:Nat} (hb:0<b): ∀(j i f:Nat) (s:List Nat),j<f->i<4611686018427387904->j<=1000->
  C5 f ((i:Int),(b:Int),cI (List.replicate j 0++s),(j:Int)-1)=some (cI (dg b j i++s)):=by
 intro j
 induction j with
 |zero=>
  intro i f s hf hi hj
  obtain⟨f,rfl⟩: ∃z,f=z+1:=⟨f-1,by omega⟩
  simp only[C5]
  rw[if_neg (by simp)];rfl
 |succ j ih=>
  intro i f s hf hi hj
  obtain⟨f,rfl⟩: ∃z,f=z+1:=⟨f-1,by omega⟩
  have e1:((j+1:Nat):Int)-1=(j:Int):=by omega
  have hz:List.replicate (j+1) 0++s=List.replicate j 0++0::s:=by rw[List.replicate_succ'];simp
  have hlen:j<(cI (List.replicate j 0++0::s)).length:=by rw[Dq];simp
  have hset:=Ke (l:=List.replicate j 0) (s:=s) (x:=0) (y:=i%b)
  rw[List.length_replicate]at hset
  have w2:w64 ((j:Int)-1)=(j:Int)-1:=Ao (by omega) (by omega)
  have hle:=Nat.div_le_self i b
  rw[e1,hz]
  simp only[C5,ID hi,Jw,Ae,hlen,BA,hset,w2]
  rw[if_pos (by simp),if_pos (by omega),if_pos trivial,if_pos (by omega),ih (i/b) f _ (by omega) (by omega) (by omega)]
  simp[dg]
theorem Hn {b k i:Nat} (hb:0<b) (hk:k<=1000) (hi:i<4611686018427387904):FN (i:Int) (k:Int) (b:Int)=some (cI (dg b k i)):=by
 have h:=K9 hb k i Aa [] (by unfold Aa;omega) hi hk
 have e:cI (List.replicate k 0++ [])=List.replicate (Int.toNat (k:Int)) (0:Int):=by unfold cI;simp
 rw[e,List.append_nil]at h
 unfold FN
 rw[Ao (x:=(k:Int)-1) (by omega) (by omega),h,if_pos (by unfold lim;omega)];rfl
theorem JO {b:Nat} (hb:0<b): ∀(j i f:Nat) (s:List Nat),j<f->i<4611686018427387904->j<=1000->
  Dg f ((b:Int),(i:Int),cI (List.replicate j 0++s),(j:Int)-1)=some (cI (dg b j i++s)):=by
 intro j
 induction j with
 |zero=>
  intro i f s hf hi hj
  obtain⟨f,rfl⟩: ∃z,f=z+1:=⟨f-1,by omega⟩
  simp only[Dg]
  rw[if_neg (by simp)];rfl
 |succ j ih=>
  intro i f s hf hi hj
  obtain⟨f,rfl⟩: ∃z,f=z+1:=⟨f-1,by omega⟩
  have e1:((j+1:Nat):Int)-1=(j:Int):=by omega
  have hz:List.replicate (j+1) 0++s=List.replicate j 0++0::s:=by rw[List.replicate_succ'];simp
  have hlen:j<(cI (List.replicate j 0++0::s)).length:=by rw[Dq];simp
  have hset:=Ke (l:=List.replicate j 0) (s:=s) (x:=0) (y:=i%b)
  rw[List.length_replicate]at hset
  have w2:w64 ((j:Int)-1)=(j:Int)-1:=Ao (by omega) (by omega)
  have hle:=Nat.div_le_self i b
  rw[e1,hz]
  simp only[Dg,ID hi,Jw,Ae,hlen,BA,hset,w2]
  rw[if_pos (by simp),if_pos (by omega),if_pos trivial,if_pos (by omega),ih (i/b) f _ (by omega) (by omega) (by omega)]
  simp[dg]
theorem Hz {b k i:Nat} (hb:0<b) (hk:k<=1000) (hi:i<4611686018427387904):FQ (b:Int) (k:Int) (i:Int)=some (cI (dg b k i)):=by
 have h:=JO hb k i Aa [] (by unfold Aa;omega) hi hk
 have e:cI (List.replicate k 0++ [])=List.replicate (Int.toNat (k:Int)) (0:Int):=by unfold cI;simp
 rw[e,List.append_nil]at h
 unfold FQ
 rw[Ao (x:=(k:Int)-1) (by omega) (by omega),h,if_pos (by unfold lim;omega)];rfl
section
variable {n k m:Nat} {r:HA}
theorem ROk.vt_lt (h:ROk n m r) {x j:Nat} (hx:x<r.2.length) (hj:j<m):vt r.2 x j<n/\(r.2.getD x []).getD j 0=((vt r.2 x j:Nat):Int)/\j<(r.2.getD x []).length:=by
 have hmem:r.2[x]∈r.2:=List.getElem_mem hx
 have hl:=h.tl _ hmem
 have hj':j<(r.2[x]).length:=by omega
 have hv:=h.tv _ hmem _ (List.getElem_mem hj')
 unfold vt
 rw[Ab hx,Ab hj']
 exact⟨by omega,by omega,by omega⟩
end
end T
open Go Go.Va
namespace T
section
variable {n k m:Nat} {r:HA}
theorem DG {α:Type} {f:α->Nat->α} {a:α} {i:Nat}:(List.range (i+1)).foldl f a=f ((List.range i).foldl f a) i:=by rw[List.range_succ,List.foldl_append];rfl
end
end T
open Go Go.Va
namespace T
section
variable {n k m:Nat} {r:HA} {rels:List HA}
theorem LQ {a b:List Nat} (h:cI a=cI b):a=b:=by
 unfold cI at h
 exact List.map_inj_right (λx y e=>by exact Int.ofNat_inj.1 e)|>.1 h
end
end T
open Go Go.Va
namespace T
theorem Kr {N:Nat} (h:N<=1000):C6 (N:Int)=some (List.replicate N (-1)):=by
 unfold C6
 rw[Int.toNat_natCast,if_pos (by unfold lim;omega)]
 have:=BL N (λf o i=>BX f (o,((List.replicate N (0:Int)).length:Int),i)) (λj=>List.replicate j (-1)++List.replicate (N-j) (0:Int)) (r:=some (List.replicate N (-1))) (λf j hj=>?_) (λf=>?_) (n:=Aa) (by unfold Aa;omega)
 ·have this:BX Aa (List.replicate N (0:Int),((List.replicate N (0:Int)).length:Int),0)=_:=this
  rw[this];rfl
 ·have hin:j<(List.replicate j (-1)++List.replicate (N-j) (0:Int)).length:=by simp;omega
  have e:(List.replicate j (-1)++List.replicate (N-j) (0:Int)).set j (-1)=List.replicate (j+1) (-1)++List.replicate (N-(j+1)) (0:Int):=by
   rw[show N-j=(N-(j+1))+1 by omega,List.replicate_succ,List.set_append_right _ _ (by simp),List.replicate_succ']
   simp
  simp only[BX,Ae,hin,BA,e,if_true,Ac (show j<4611686018427387904 by omega)]
  rw[if_pos (by simp;omega)]
 ·simp only[BX]
  rw[if_neg (by simp)];simp
end T
open Go Go.Va
namespace T
section
variable {n:Int} {rels:List HA}
end
def B6 (V:List Int) (x:Nat):Int:=match V.findIdx? (λy=>y==(x:Int))with|some i=>(i:Int)|none=> -1
section
variable {n:Nat} {t:List Int}
end
section
variable {n m:Nat} {t:List Int} {r:HA} {rels:List HA}
end
end T
set_option linter.unusedVariables false
open Go Go.Va
namespace T
def ER:Nat->(Int×Int×Int)->Option (Int)
 |0,_=>none
 |n+1,(p,x,y)=>
 if p≠0 then
 if(Int.tmod (w64 (x*y)) p) !=1 then
 ER n (p,x,w64 (y+1))
 else
 some y
 else none
def Et (p:Int) (x:Int):Option (Int):=
 (ER Aa (p,x,1)).bind λs1=>
 some s1
def Cg:Nat->(Int×(List Int)×Int×(List Int)×Int)->Option ((List Int))
 |0,_=>none
 |n+1,(p,row,by_,out,i)=>
 if decide (i<(row.length:Int))then
 if inb i row then
 if p≠0 then
 if out.length+ [Int.tmod (w64 ((gd row i 0)*by_)) p].length<=lim then
 Cg n (p,row,by_,out++ [Int.tmod (w64 ((gd row i 0)*by_)) p],w64 (i+1))
 else none
 else none
 else none
 else
 some out
def E6 (p:Int) (row:List Int) (by_:Int):Option ((List Int)):=
 (Cg Aa (p,row,by_,[],0)).bind λs1=>
 some s1
def Bz:Nat->(Int×Int×(List (List Int))×((List (List Int))×((List Int)×(List (List Int))))×((List (List Int))×((List Int)×(List (List Int))))×Int)->Option (Int×Int×((List (List Int))×((List Int)×(List (List Int))))×((List (List Int))×((List Int)×(List (List Int)))))
 |0,_=>none
 |n+1,(t0,t1,t2,t6,t7,t8)=>
 if decide (t8<(t2.length:Int))then
 if inb t8 t2 then
 (De (gd t2 t8 [])).bind λr1=>
 if t7.2.2.length+ [r1].length<=lim then
 Bz n (t0,t1,t2,(t6.1,(t6.2.1,t6.2.2)),(t7.1,(t7.2.1,t7.2.2++ [r1])),w64 (t8+1))
 else none
 else none
 else
 some (t0,t1,(t6.1,(t6.2.1,t6.2.2)),(t7.1,(t7.2.1,t7.2.2)))
def A8:Nat->(Int×Int×((List (List Int))×((List Int)×(List (List Int))))×((List (List Int))×((List Int)×(List (List Int))))×Int×Int)->Option (Int×Int×((List (List Int))×((List Int)×(List (List Int))))×((List (List Int))×((List Int)×(List (List Int))))×Int×Int)
 |0,_=>none
 |n+1,(t0,t1,t6,t7,t9,t10)=>
 if decide (t10<(t7.2.2.length:Int))then
 if inb t10 t7.2.2 then
 if inb t9 (gd t7.2.2 t10 [])then
 if(gd (gd t7.2.2 t10 []) t9 0)==0 then
 A8 n (t0,t1,(t6.1,(t6.2.1,t6.2.2)),(t7.1,(t7.2.1,t7.2.2)),t9,w64 (t10+1))
 else
 some (t0,t1,(t6.1,(t6.2.1,t6.2.2)),(t7.1,(t7.2.1,t7.2.2)),t9,t10)
 else none
 else none
 else
 some (t0,t1,(t6.1,(t6.2.1,t6.2.2)),(t7.1,(t7.2.1,t7.2.2)),t9,t10)
def A9:Nat->(Int×Int×((List (List Int))×((List Int)×(List (List Int))))×((List (List Int))×((List Int)×(List (List Int))))×Int×(List Int)×(List (List Int))×Int)->Option (Int×Int×((List (List Int))×((List Int)×(List (List Int))))×((List (List Int))×((List Int)×(List (List Int))))×Int×(List Int)×(List (List Int)))
 |0,_=>none
 |n+1,(t0,t1,t6,t7,t9,t11,t12,t13)=>
 if decide (t13<(t12.length:Int))then
 if inb t13 t12 then
 if inb t13 t12 then
 if inb t9 (gd t12 t13 [])then
 (Bk t0 (gd t12 t13 []) t11 (gd (gd t12 t13 []) t9 0)).bind λr6=>
 if inb t13 t12 then
 A9 n (t0,t1,(t6.1,(t6.2.1,t6.2.2)),(t7.1,(t7.2.1,t7.2.2)),t9,t11,stt t12 t13 r6,w64 (t13+1))
 else none
 else none
 else none
 else none
 else
 some (t0,t1,(t6.1,(t6.2.1,t6.2.2)),(t7.1,(t7.2.1,t7.2.2)),t9,t11,t12)
def Ba:Nat->(Int×Int×((List (List Int))×((List Int)×(List (List Int))))×((List (List Int))×((List Int)×(List (List Int))))×Int×(List Int)×(List (List Int))×Int)->Option (Int×Int×((List (List Int))×((List Int)×(List (List Int))))×((List (List Int))×((List Int)×(List (List Int))))×Int×(List Int)×(List (List Int)))
 |0,_=>none
 |n+1,(t0,t1,t6,t7,t9,t11,t12,t14)=>
 if decide (t14<(t7.1.length:Int))then
 if inb t14 t7.1 then
 if inb t14 t7.1 then
 if inb t9 (gd t7.1 t14 [])then
 (Bk t0 (gd t7.1 t14 []) t11 (gd (gd t7.1 t14 []) t9 0)).bind λr8=>
 if inb t14 t7.1 then
 Ba n (t0,t1,(t6.1,(t6.2.1,t6.2.2)),(stt t7.1 t14 r8,(t7.2.1,t7.2.2)),t9,t11,t12,w64 (t14+1))
 else none
 else none
 else none
 else none
 else
 some (t0,t1,(t6.1,(t6.2.1,t6.2.2)),(t7.1,(t7.2.1,t7.2.2)),t9,t11,t12)
def Bf:Nat->(Int×Int×((List (List Int))×((List Int)×(List (List Int))))×((List (List Int))×((List Int)×(List (List Int))))×Int)->Option (((List (List Int))×((List Int)×(List (List Int))))×((List (List Int))×((List Int)×(List (List Int)))))
 |0,_=>none
 |n+1,(t0,t1,t6,t7,t9)=>
 if decide (t9<t1)then
 (A8 Aa (t0,t1,(t6.1,(t6.2.1,t6.2.2)),(t7.1,(t7.2.1,t7.2.2)),t9,0)).bind λs3=>
 if s3.2.2.2.2.2==(s3.2.2.2.1.2.2.length:Int)then
 Bf n (s3.1,s3.2.1,(s3.2.2.1.1,(s3.2.2.1.2.1,s3.2.2.1.2.2)),(s3.2.2.2.1.1,(s3.2.2.2.1.2.1,s3.2.2.2.1.2.2)),w64 (s3.2.2.2.2.1+1))
 else
 if inb s3.2.2.2.2.2 s3.2.2.2.1.2.2 then
 if inb s3.2.2.2.2.2 s3.2.2.2.1.2.2 then
 if inb s3.2.2.2.2.1 (gd s3.2.2.2.1.2.2 s3.2.2.2.2.2 [])then
 (Et s3.1 (gd (gd s3.2.2.2.1.2.2 s3.2.2.2.2.2 []) s3.2.2.2.2.1 0)).bind λr4=>
 (E6 s3.1 (gd s3.2.2.2.1.2.2 s3.2.2.2.2.2 []) r4).bind λr5=>
 if(0:Int)<=0/\0<=s3.2.2.2.2.2/\s3.2.2.2.2.2<=(s3.2.2.2.1.2.2.length:Int)then
 if([]:List (List Int)).length+((s3.2.2.2.1.2.2.take (Int.toNat s3.2.2.2.2.2)).drop (Int.toNat 0)).length<=lim then
 if(0:Int)<=(w64 (s3.2.2.2.2.2+1))/\(w64 (s3.2.2.2.2.2+1))<=(s3.2.2.2.1.2.2.length:Int)/\(s3.2.2.2.1.2.2.length:Int)<=(s3.2.2.2.1.2.2.length:Int)then
 if([]++((s3.2.2.2.1.2.2.take (Int.toNat s3.2.2.2.2.2)).drop (Int.toNat 0))).length+((s3.2.2.2.1.2.2.take (Int.toNat (s3.2.2.2.1.2.2.length:Int))).drop (Int.toNat (w64 (s3.2.2.2.2.2+1)))).length<=lim then
 (A9 Aa (s3.1,s3.2.1,(s3.2.2.1.1,(s3.2.2.1.2.1,s3.2.2.1.2.2)),(s3.2.2.2.1.1,(s3.2.2.2.1.2.1,s3.2.2.2.1.2.2)),s3.2.2.2.2.1,r5,([]++((s3.2.2.2.1.2.2.take (Int.toNat s3.2.2.2.2.2)).drop (Int.toNat 0)))++((s3.2.2.2.1.2.2.take (Int.toNat (s3.2.2.2.1.2.2.length:Int))).drop (Int.toNat (w64 (s3.2.2.2.2.2+1)))),0)).bind λs6=>
 (Ba Aa (s6.1,s6.2.1,(s6.2.2.1.1,(s6.2.2.1.2.1,s6.2.2.1.2.2)),(s6.2.2.2.1.1,(s6.2.2.2.1.2.1,s6.2.2.2.1.2.2)),s6.2.2.2.2.1,s6.2.2.2.2.2.1,s6.2.2.2.2.2.2,0)).bind λs7=>
 if s7.2.2.2.1.1.length+ [s7.2.2.2.2.2.1].length<=lim then
 if s7.2.2.2.1.2.1.length+ [s7.2.2.2.2.1].length<=lim then
 Bf n (s7.1,s7.2.1,(s7.2.2.1.1,(s7.2.2.1.2.1,s7.2.2.1.2.2)),(s7.2.2.2.1.1++ [s7.2.2.2.2.2.1],(s7.2.2.2.1.2.1++ [s7.2.2.2.2.1],s7.2.2.2.2.2.2)),w64 (s7.2.2.2.2.1+1))
 else none
 else none
 else none
 else none
 else none
 else none
 else none
 else none
 else none
 else
 some ((t6.1,(t6.2.1,t6.2.2)),(t7.1,(t7.2.1,t7.2.2)))
def Bj (t0:Int) (t1:Int) (t2:List (List Int)):Option (((List (List Int))×((List Int)×(List (List Int))))):=
 (Bz Aa (t0,t1,t2,([],([],[])),([],([],[])),0)).bind λs1=>
 (Bf Aa (s1.1,s1.2.1,(s1.2.2.1.1,(s1.2.2.1.2.1,s1.2.2.1.2.2)),(s1.2.2.2.1,(s1.2.2.2.2.1,s1.2.2.2.2.2)),0)).bind λs2=>
 some (s2.2.1,(s2.2.2.1,s2.2.2.2))
def D2 (l:Int×Int×(List (List Int))):Option (((List (List Int))×((List Int)×(List (List Int))))):=
 (Bj l.1 l.2.1 l.2.2).bind λr1=>
 some (r1.1,(r1.2.1,r1.2.2))
def CN:Nat->(Int×((List (List Int))×(List Int)×(List (List Int)))×Int)->Option ((Unit)⊕(Bool))
 |0,_=>none
 |n+1,(vars,w,i)=>
 if decide (i<(w.2.2.length:Int))then
 if inb i w.2.2 then
 if inb vars (gd w.2.2 i [])then
 if(gd (gd w.2.2 i []) vars 0) !=0 then
 some (.inr true)
 else
 CN n (vars,(w.1,(w.2.1,w.2.2)),w64 (i+1))
 else none
 else none
 else
 some (.inl ())
def C1 (w:(List (List Int))×(List Int)×(List (List Int))) (vars:Int):Option (Bool):=
 (CN Aa (vars,(w.1,(w.2.1,w.2.2)),0)).bind λs1=>
  match s1 with
  | .inl s2=>
   some false
  | .inr s3=>
   some s3
def CM (l:Int×Int×(List (List Int))):Option (Int×Bool):=
 (Cz (l.1,(l.2.1,l.2.2))).bind λr1=>
 if !r1 then
 some (0,false)
 else
 (D2 (l.1,(l.2.1,l.2.2))).bind λr2=>
 (C1 (r2.1,(r2.2.1,r2.2.2)) l.2.1).bind λr3=>
 if r3 then
 some (0,true)
 else
 (Fz l.1 (w64 (l.2.1-(r2.2.1.length:Int)))).bind λr4=>
 some (r4,true)
def BW:Nat->((List (List Int))×(List (List Int))×Int×Int)->Option ((List (List Int)))
 |0,_=>none
 |n+1,(list,t7,t8,t9)=>
 if decide (t9<t8)then
 if inb t9 t7 then
 (CT (gd t7 t9 [])).bind λr1=>
 if list.length+ [r1].length<=lim then
 BW n (list++ [r1],t7,t8,w64 (t9+1))
 else none
 else none
 else
 some list
def BT (rows:List (List Int)):Option ((List (List Int))):=
 (BW Aa ([],rows,(rows.length:Int),0)).bind λs1=>
 some s1
def EX:Nat->(Int×Int×Int)->Option ((Unit)⊕(Int))
 |0,_=>none
 |n+1,(x,p,y)=>
 if decide (y<p)then
 if p≠0 then
 if(Int.tmod (w64 (x*y)) p)==1 then
 some (.inr y)
 else
 EX n (x,p,w64 (y+1))
 else none
 else
 some (.inl ())
def Da (x:Int) (p:Int):Option (Int):=
 (EX Aa (x,p,1)).bind λs1=>
  match s1 with
  | .inl s2=>
   some 0
  | .inr s3=>
   some s3
def Bh:Nat->(Int×Int×(Int×(Int×((List (List Int))×(Int×(List Int)))))×Int×Int)->Option (Int×Int×(Int×(Int×((List (List Int))×(Int×(List Int)))))×Int×Int)
 |0,_=>none
 |n+1,(t0,t1,t7,t8,t9)=>
 if decide (t9<(t7.2.2.1.length:Int))then
 if inb t9 t7.2.2.1 then
 if inb t8 (gd t7.2.2.1 t9 [])then
 if(gd (gd t7.2.2.1 t9 []) t8 0)==0 then
 Bh n (t0,t1,(t7.1,(t7.2.1,(t7.2.2.1,(t7.2.2.2.1,t7.2.2.2.2)))),t8,w64 (t9+1))
 else
 some (t0,t1,(t7.1,(t7.2.1,(t7.2.2.1,(t7.2.2.2.1,t7.2.2.2.2)))),t8,t9)
 else none
 else none
 else
 some (t0,t1,(t7.1,(t7.2.1,(t7.2.2.1,(t7.2.2.2.1,t7.2.2.2.2)))),t8,t9)
def Bc:Nat->(Int×Int×Int×(Int×(Int×((List (List Int))×(Int×(List Int)))))×Int×Int×Int×Int)->Option (Int×Int×Int×(Int×(Int×((List (List Int))×(Int×(List Int)))))×Int)
 |0,_=>none
 |n+1,(row10,t0,t1,t7,t8,t11,t110,t111)=>
 if decide (t111<t110)then
 if inb t111 (gd t7.2.2.1 row10 [])then
 if t0≠0 then
 if inb t111 (gd t7.2.2.1 row10 [])then
 Bc n (row10,t0,t1,(t7.1,(t7.2.1,(stt t7.2.2.1 row10 (stt (gd t7.2.2.1 row10 []) t111 (Int.tmod (w64 ((gd (gd t7.2.2.1 row10 []) t111 0)*t11)) t0)),(t7.2.2.2.1,t7.2.2.2.2)))),t8,t11,t110,w64 (t111+1))
 else none
 else none
 else none
 else
 some (row10,t0,t1,(t7.1,(t7.2.1,(t7.2.2.1,(t7.2.2.2.1,t7.2.2.2.2)))),t8)
def Bd:Nat->(Int×Int×Unit×Int×Int×(Int×(Int×((List (List Int))×(Int×(List Int)))))×Int×Int×Int×Int×Int×Int)->Option (Int×Unit×Int×Int×(Int×(Int×((List (List Int))×(Int×(List Int)))))×Int×Int×Int)
 |0,_=>none
 |n+1,(row10,row14,al129,t0,t1,t7,t8,t15,t130,t131,t151,t152)=>
 if decide (t152<t151)then
 if inb t152 (gd t7.2.2.1 row14 [])then
 if inb t152 (gd t7.2.2.1 row10 [])then
 if t0≠0 then
 if inb t152 (gd t7.2.2.1 row14 [])then
 Bd n (row10,row14,(),t0,t1,(t7.1,(t7.2.1,(stt t7.2.2.1 row14 (stt (gd t7.2.2.1 row14 []) t152 (Int.tmod (w64 ((gd (gd t7.2.2.1 row14 []) t152 0)+(w64 ((w64 (t0-t15))*(gd (gd t7.2.2.1 row10 []) t152 0))))) t0)),(t7.2.2.2.1,t7.2.2.2.2)))),t8,t15,t130,t131,t151,w64 (t152+1))
 else none
 else none
 else none
 else none
 else
 some (row10,(),t0,t1,(t7.1,(t7.2.1,(t7.2.2.1,(t7.2.2.2.1,t7.2.2.2.2)))),t8,t130,t131)
def AN:Nat->(Int×Unit×Int×Int×(Int×(Int×((List (List Int))×(Int×(List Int)))))×Int×Int×Int)->Option (Int×Int×(Int×(Int×((List (List Int))×(Int×(List Int)))))×Int)
 |0,_=>none
 |n+1,(row10,al129,t0,t1,t7,t8,t130,t131)=>
 if decide (t131<t130)then
 if inb t131 t7.2.2.1 then
 if inb t8 (gd t7.2.2.1 t131 [])then
 if t131 !=t7.2.2.2.1 then
 if(gd (gd t7.2.2.1 t131 []) t8 0) !=0 then
 (Bd Aa (row10,t131,(),t0,t1,(t7.1,(t7.2.1,(t7.2.2.1,(t7.2.2.2.1,t7.2.2.2.2)))),t8,gd (gd t7.2.2.1 t131 []) t8 0,t130,t131,((gd t7.2.2.1 t131 []).length:Int),0)).bind λs6=>
 AN n (s6.1,(),s6.2.2.1,s6.2.2.2.1,(s6.2.2.2.2.1.1,(s6.2.2.2.2.1.2.1,(s6.2.2.2.2.1.2.2.1,(s6.2.2.2.2.1.2.2.2.1,s6.2.2.2.2.1.2.2.2.2)))),s6.2.2.2.2.2.1,s6.2.2.2.2.2.2.1,w64 (s6.2.2.2.2.2.2.2+1))
 else
 AN n (row10,(),t0,t1,(t7.1,(t7.2.1,(t7.2.2.1,(t7.2.2.2.1,t7.2.2.2.2)))),t8,t130,w64 (t131+1))
 else
 AN n (row10,(),t0,t1,(t7.1,(t7.2.1,(t7.2.2.1,(t7.2.2.2.1,t7.2.2.2.2)))),t8,t130,w64 (t131+1))
 else none
 else none
 else
 some (t0,t1,(t7.1,(t7.2.1,(t7.2.2.1,(t7.2.2.2.1,t7.2.2.2.2)))),t8)
def AW:Nat->(Int×Int×(Int×(Int×((List (List Int))×(Int×(List Int)))))×Int)->Option ((Int×(Int×((List (List Int))×(Int×(List Int))))))
 |0,_=>none
 |n+1,(t0,t1,t7,t8)=>
 if decide (t8<t1)then
 (Bh Aa (t0,t1,(t7.1,(t7.2.1,(t7.2.2.1,(t7.2.2.2.1,t7.2.2.2.2)))),t8,t7.2.2.2.1)).bind λs3=>
 if s3.2.2.2.2==(s3.2.2.1.2.2.1.length:Int)then
 AW n (s3.1,s3.2.1,(s3.2.2.1.1,(s3.2.2.1.2.1,(s3.2.2.1.2.2.1,(s3.2.2.1.2.2.2.1,s3.2.2.1.2.2.2.2)))),w64 (s3.2.2.2.1+1))
 else
 if inb s3.2.2.2.2 s3.2.2.1.2.2.1 then
 if(0:Int)<=(w64 (s3.2.2.1.2.2.2.1+1))/\(w64 (s3.2.2.1.2.2.2.1+1))<=(w64 (s3.2.2.2.2+1))/\(w64 (s3.2.2.2.2+1))<=(s3.2.2.1.2.2.1.length:Int)then
 if(0:Int)<=s3.2.2.1.2.2.2.1/\s3.2.2.1.2.2.2.1<=s3.2.2.2.2/\s3.2.2.2.2<=(s3.2.2.1.2.2.1.length:Int)then
 if(w64 (s3.2.2.1.2.2.2.1+1))=s3.2.2.1.2.2.2.1+1/\(w64 (s3.2.2.2.2+1))=s3.2.2.2.2+1/\s3.2.2.2.2=s3.2.2.2.2 then
 if inb s3.2.2.1.2.2.2.1 (upL s3.2.2.1.2.2.1 (Int.toNat s3.2.2.1.2.2.2.1) (Int.toNat s3.2.2.2.2) [])then
 if s3.2.2.1.2.2.2.1=s3.2.2.1.2.2.2.1 then
 if inb s3.2.2.2.1 (gd (stt (upL s3.2.2.1.2.2.1 (Int.toNat s3.2.2.1.2.2.2.1) (Int.toNat s3.2.2.2.2) []) s3.2.2.1.2.2.2.1 (gd s3.2.2.1.2.2.1 s3.2.2.2.2 [])) s3.2.2.1.2.2.2.1 [])then
 (Da (gd (gd (stt (upL s3.2.2.1.2.2.1 (Int.toNat s3.2.2.1.2.2.2.1) (Int.toNat s3.2.2.2.2) []) s3.2.2.1.2.2.2.1 (gd s3.2.2.1.2.2.1 s3.2.2.2.2 [])) s3.2.2.1.2.2.2.1 []) s3.2.2.2.1 0) s3.1).bind λr4=>
 (Bc Aa (s3.2.2.1.2.2.2.1,s3.1,s3.2.1,(s3.2.2.1.1,(s3.2.2.1.2.1,(stt (upL s3.2.2.1.2.2.1 (Int.toNat s3.2.2.1.2.2.2.1) (Int.toNat s3.2.2.2.2) []) s3.2.2.1.2.2.2.1 (gd s3.2.2.1.2.2.1 s3.2.2.2.2 []),(s3.2.2.1.2.2.2.1,s3.2.2.1.2.2.2.2)))),s3.2.2.2.1,r4,((gd (stt (upL s3.2.2.1.2.2.1 (Int.toNat s3.2.2.1.2.2.2.1) (Int.toNat s3.2.2.2.2) []) s3.2.2.1.2.2.2.1 (gd s3.2.2.1.2.2.1 s3.2.2.2.2 [])) s3.2.2.1.2.2.2.1 []).length:Int),0)).bind λs5=>
 (AN Aa (s5.1,(),s5.2.1,s5.2.2.1,(s5.2.2.2.1.1,(s5.2.2.2.1.2.1,(s5.2.2.2.1.2.2.1,(s5.2.2.2.1.2.2.2.1,s5.2.2.2.1.2.2.2.2)))),s5.2.2.2.2,(s5.2.2.2.1.2.2.1.length:Int),0)).bind λs6=>
 if inb s6.2.2.2 s6.2.2.1.2.2.2.2 then
 AW n (s6.1,s6.2.1,(s6.2.2.1.1,(s6.2.2.1.2.1,(s6.2.2.1.2.2.1,(w64 (s6.2.2.1.2.2.2.1+1),stt s6.2.2.1.2.2.2.2 s6.2.2.2 s6.2.2.1.2.2.2.1)))),w64 (s6.2.2.2+1))
 else none
 else none
 else none
 else none
 else none
 else none
 else none
 else none
 else
 some (t7.1,(t7.2.1,(t7.2.2.1,(t7.2.2.2.1,t7.2.2.2.2))))
def CI (t0:Int) (t1:Int) (t2:List (List Int)):Option ((Bool×Int×Int×(List (List Int))×Int×(List Int))):=
 (BT t2).bind λr1=>
 (C6 t1).bind λr2=>
 (AW Aa (t0,t1,(t0,(t1,(r1,(0,r2)))),0)).bind λs3=>
 some (true,(s3.1,(s3.2.1,(s3.2.2.1,(s3.2.2.2.1,s3.2.2.2.2)))))
def Bb (l:Int×Int×(List (List Int))):Option ((Bool×Int×Int×(List (List Int))×Int×(List Int))):=
 (CI l.1 l.2.1 l.2.2).bind λr1=>
 some r1
def Az:Nat->(Unit×(Int×(Int×((List (List Int))×(Int×(List Int)))))×(List Int)×Int×Int)->Option ((Int×(Int×((List (List Int))×(Int×(List Int)))))×(List Int))
 |0,_=>none
 |n+1,(al10,e,list,t11,t12)=>
 if decide (t12<t11)then
 if inb t12 e.2.2.2.2 then
 if decide ((gd e.2.2.2.2 t12 0)<0)then
 if list.length+ [t12].length<=lim then
 Az n ((),(e.1,(e.2.1,(e.2.2.1,(e.2.2.2.1,e.2.2.2.2)))),list++ [t12],t11,w64 (t12+1))
 else none
 else
 Az n ((),(e.1,(e.2.1,(e.2.2.1,(e.2.2.2.1,e.2.2.2.2)))),list,t11,w64 (t12+1))
 else none
 else
 some ((e.1,(e.2.1,(e.2.2.1,(e.2.2.2.1,e.2.2.2.2)))),list)
def AY (e:Int×(Int×((List (List Int))×(Int×(List Int))))):Option ((Int×(Int×((List (List Int))×(Int×(List Int)))))×(List Int)):=
 (Az Aa ((),(e.1,(e.2.1,(e.2.2.1,(e.2.2.2.1,e.2.2.2.2)))),[],(e.2.2.2.2.length:Int),0)).bind λs1=>
 some ((s1.1.1,(s1.1.2.1,(s1.1.2.2.1,(s1.1.2.2.2.1,s1.1.2.2.2.2)))),s1.2)
def Be:Nat->((Bool×Int×Int×(List (List Int))×Int×(List Int))×(List (List Int))×Int×Int)->Option ((Unit)⊕(Bool))
 |0,_=>none
 |n+1,(e,t13,t14,t15)=>
 if decide (t15<t14)then
 if inb t15 t13 then
 if e.1=true then
 if inb e.2.2.1 (gd t13 t15 [])then
 if(gd (gd t13 t15 []) e.2.2.1 0) !=0 then
 some (.inr true)
 else
 Be n (e,t13,t14,w64 (t15+1))
 else none
 else none
 else none
 else
 some (.inl ())
def CJ (e:Bool×Int×Int×(List (List Int))×Int×(List Int)):Option (Bool):=
 if e.1=true then
  if e.1=true then
   if(0:Int)<=e.2.2.2.2.1/\e.2.2.2.2.1<=(e.2.2.2.1.length:Int)/\(e.2.2.2.1.length:Int)<=(e.2.2.2.1.length:Int)then
    (Be Aa (e,(e.2.2.2.1.take (Int.toNat (e.2.2.2.1.length:Int))).drop (Int.toNat e.2.2.2.2.1),(((e.2.2.2.1.take (Int.toNat (e.2.2.2.1.length:Int))).drop (Int.toNat e.2.2.2.2.1)).length:Int),0)).bind λs1=>
     match s1 with
     | .inl s2=>
      some false
     | .inr s3=>
      some s3
   else none
  else none
 else none
def Aq:Nat->((List Int)×(List Int)×Int×Int)->Option ((List Int))
 |0,_=>none
 |n+1,(list,t10,t11,t12)=>
 if decide (t12<t11)then
 if inb t12 t10 then
 if decide ((gd t10 t12 0)<0)then
 if list.length+ [t12].length<=lim then
 Aq n (list++ [t12],t10,t11,w64 (t12+1))
 else none
 else
 Aq n (list,t10,t11,w64 (t12+1))
 else none
 else
 some list
def AG (e:Bool×Int×Int×(List (List Int))×Int×(List Int)):Option ((List Int)):=
 if e.1=true then
 (Aq Aa ([],e.2.2.2.2.2,(e.2.2.2.2.2.length:Int),0)).bind λs1=>
 some s1
 else none
def BM (l:Int×Int×(List (List Int))):Option (Int×Bool):=
 (D8 (l.1,(l.2.1,l.2.2))).bind λr1=>
 if !r1 then
 some (0,false)
 else
 (Bb (l.1,(l.2.1,l.2.2))).bind λr2=>
 (CJ r2).bind λr3=>
 if r3 then
 some (0,true)
 else
 (AG r2).bind λr4=>
 (B5 l.1 (r4.length:Int)).bind λr5=>
 some (r5,true)
def B7:Nat->(Int×((List (List Int))×(List Int)×(List (List Int)))×(List Int)×Int)->Option ((List Int))
 |0,_=>none
 |n+1,(vars,w,out,v)=>
 if decide (v<vars)then
 (EP w.2.1 v).bind λr1=>
 if !r1 then
 if out.length+ [v].length<=lim then
 B7 n (vars,(w.1,(w.2.1,w.2.2)),out++ [v],w64 (v+1))
 else none
 else
 B7 n (vars,(w.1,(w.2.1,w.2.2)),out,w64 (v+1))
 else
 some out
def EC (w:(List (List Int))×(List Int)×(List (List Int))) (vars:Int):Option ((List Int)):=
 (B7 Aa (vars,(w.1,(w.2.1,w.2.2)),[],0)).bind λs1=>
 some s1
def Ch:Nat->(Int×((List (List Int))×((List Int)×(List (List Int))))×(List Int)×Int)->Option ((List Int))
 |0,_=>none
 |n+1,(vars,w,out,i)=>
 if decide (i<(w.2.1.length:Int))then
 if inb i w.2.1 then
 if inb i w.1 then
 if inb vars (gd w.1 i [])then
 if inb (gd w.2.1 i 0) out then
 Ch n (vars,(w.1,(w.2.1,w.2.2)),stt out (gd w.2.1 i 0) (gd (gd w.1 i []) vars 0),w64 (i+1))
 else none
 else none
 else none
 else none
 else
 some out
def E7 (p:Int) (vars:Int) (rows:List (List Int)):Option ((List Int)×Bool):=
 (Bj p vars rows).bind λr1=>
 (C1 (r1.1,(r1.2.1,r1.2.2)) vars).bind λr2=>
 if r2 then
 some ([],false)
 else
 if 0<=vars/\vars<=vars/\vars<=lim then
 (Ch Aa (vars,(r1.1,(r1.2.1,r1.2.2)),List.replicate (Int.toNat vars) (0:Int),0)).bind λs3=>
 some (s3,true)
 else none
def AP:Nat->(Unit×(Int×(Int×((List (List Int))×(Int×(List Int)))))×(List Int)×(List Int)×(List Int)×Int×Int)->Option ((Int×(Int×((List (List Int))×(Int×(List Int)))))×(List Int)×(List Int)×(List Int))
 |0,_=>none
 |n+1,(al21,t0,t1,t5,t6,t22,t23)=>
 if decide (t23<t22)then
 if inb t23 t6 then
 if inb t23 t1 then
 if inb (gd t6 t23 0) t5 then
 AP n ((),(t0.1,(t0.2.1,(t0.2.2.1,(t0.2.2.2.1,t0.2.2.2.2)))),t1,stt t5 (gd t6 t23 0) (gd t1 t23 0),t6,t22,w64 (t23+1))
 else none
 else none
 else none
 else
 some ((t0.1,(t0.2.1,(t0.2.2.1,(t0.2.2.2.1,t0.2.2.2.2)))),t1,t5,t6)
def AM:Nat->(Unit×Unit×(Int×(Int×((List (List Int))×(Int×(List Int)))))×(List Int)×(List Int)×(List Int)×Int×Int×Int×Int×Int×Int×Int)->Option (Unit×(Int×(Int×((List (List Int))×(Int×(List Int)))))×(List Int)×(List Int)×(List Int)×Int×Int×Int×Int)
 |0,_=>none
 |n+1,(al39,al61,t0,t1,t5,t6,t9,t10,t11,t40,t41,t62,t63)=>
 if decide (t63<t62)then
 if inb t63 t6 then
 if inb t10 t0.2.2.1 then
 if inb (gd t6 t63 0) (gd t0.2.2.1 t10 [])then
 if inb t63 t1 then
 AM n ((),(),(t0.1,(t0.2.1,(t0.2.2.1,(t0.2.2.2.1,t0.2.2.2.2)))),t1,t5,t6,t9,t10,w64 (t11+(w64 ((w64 (t0.1-(gd (gd t0.2.2.1 t10 []) (gd t6 t63 0) 0)))*(gd t1 t63 0)))),t40,t41,t62,w64 (t63+1))
 else none
 else none
 else none
 else none
 else
 some ((),(t0.1,(t0.2.1,(t0.2.2.1,(t0.2.2.2.1,t0.2.2.2.2)))),t1,t5,t6,t9,t11,t40,t41)
def AA:Nat->(Unit×(Int×(Int×((List (List Int))×(Int×(List Int)))))×(List Int)×(List Int)×(List Int)×Int×Int)->Option ((Int×(Int×((List (List Int))×(Int×(List Int)))))×(List Int))
 |0,_=>none
 |n+1,(al39,t0,t1,t5,t6,t40,t41)=>
 if decide (t41<t40)then
 if inb t41 t0.2.2.2.2 then
 if decide ((gd t0.2.2.2.2 t41 0)<0)then
 AA n ((),(t0.1,(t0.2.1,(t0.2.2.1,(t0.2.2.2.1,t0.2.2.2.2)))),t1,t5,t6,t40,w64 (t41+1))
 else
 if inb (gd t0.2.2.2.2 t41 0) t0.2.2.1 then
 if inb t0.2.1 (gd t0.2.2.1 (gd t0.2.2.2.2 t41 0) [])then
 (AM Aa ((),(),(t0.1,(t0.2.1,(t0.2.2.1,(t0.2.2.2.1,t0.2.2.2.2)))),t1,t5,t6,t41,gd t0.2.2.2.2 t41 0,gd (gd t0.2.2.1 (gd t0.2.2.2.2 t41 0) []) t0.2.1 0,t40,t41,(t6.length:Int),0)).bind λs3=>
 if s3.2.1.1≠0 then
 if inb s3.2.2.2.2.2.1 s3.2.2.2.1 then
 AA n ((),(s3.2.1.1,(s3.2.1.2.1,(s3.2.1.2.2.1,(s3.2.1.2.2.2.1,s3.2.1.2.2.2.2)))),s3.2.2.1,stt s3.2.2.2.1 s3.2.2.2.2.2.1 (Int.tmod s3.2.2.2.2.2.2.1 s3.2.1.1),s3.2.2.2.2.1,s3.2.2.2.2.2.2.2.1,w64 (s3.2.2.2.2.2.2.2.2+1))
 else none
 else none
 else none
 else none
 else none
 else
 some ((t0.1,(t0.2.1,(t0.2.2.1,(t0.2.2.2.1,t0.2.2.2.2)))),t5)
def BS (t0:Int×(Int×((List (List Int))×(Int×(List Int))))) (t1:List Int):Option ((Int×(Int×((List (List Int))×(Int×(List Int)))))×(List Int)):=
 if 0<=t0.2.1/\t0.2.1<=t0.2.1/\t0.2.1<=lim then
 (AY (t0.1,(t0.2.1,(t0.2.2.1,(t0.2.2.2.1,t0.2.2.2.2))))).bind λr1=>
 (AP Aa ((),(r1.1.1,(r1.1.2.1,(r1.1.2.2.1,(r1.1.2.2.2.1,r1.1.2.2.2.2)))),t1,List.replicate (Int.toNat t0.2.1) (0:Int),r1.2,(r1.2.length:Int),0)).bind λs2=>
 (AA Aa ((),(s2.1.1,(s2.1.2.1,(s2.1.2.2.1,(s2.1.2.2.2.1,s2.1.2.2.2.2)))),s2.2.1,s2.2.2.1,s2.2.2.2,(s2.1.2.2.2.2.length:Int),0)).bind λs3=>
 some ((s3.1.1,(s3.1.2.1,(s3.1.2.2.1,(s3.1.2.2.2.1,s3.1.2.2.2.2)))),s3.2)
 else none
def AI:Nat->(Unit×(Bool×Int×Int×(List (List Int))×Int×(List Int))×(List Int)×(List Int)×(List Int)×Int×Int)->Option ((Bool×Int×Int×(List (List Int))×Int×(List Int))×(List Int)×(List Int)×(List Int))
 |0,_=>none
 |n+1,(al21,t0,t1,t5,t6,t22,t23)=>
 if decide (t23<t22)then
 if inb t23 t6 then
 if inb t23 t1 then
 if inb (gd t6 t23 0) t5 then
 AI n ((),t0,t1,stt t5 (gd t6 t23 0) (gd t1 t23 0),t6,t22,w64 (t23+1))
 else none
 else none
 else none
 else
 some (t0,t1,t5,t6)
def AB:Nat->(Unit×(Bool×Int×Int×(List (List Int))×Int×(List Int))×(List Int)×(List Int)×(List Int)×Int×Int×Int×(List Int)×Int×Int×Int×Int)->Option ((Bool×Int×Int×(List (List Int))×Int×(List Int))×(List Int)×(List Int)×(List Int)×Int×Int×(List Int)×Int×Int)
 |0,_=>none
 |n+1,(al61,t0,t1,t5,t6,t9,t10,t11,t39,t40,t41,t62,t63)=>
 if decide (t63<t62)then
 if inb t63 t6 then
 if t0.1=true then
 if t0.1=true then
 if inb t10 t0.2.2.2.1 then
 if inb (gd t6 t63 0) (gd t0.2.2.2.1 t10 [])then
 if inb t63 t1 then
 AB n ((),t0,t1,t5,t6,t9,t10,w64 (t11+(w64 ((w64 (t0.2.1-(gd (gd t0.2.2.2.1 t10 []) (gd t6 t63 0) 0)))*(gd t1 t63 0)))),t39,t40,t41,t62,w64 (t63+1))
 else none
 else none
 else none
 else none
 else none
 else none
 else
 some (t0,t1,t5,t6,t9,t11,t39,t40,t41)
def Ar:Nat->((Bool×Int×Int×(List (List Int))×Int×(List Int))×(List Int)×(List Int)×(List Int)×(List Int)×Int×Int)->Option ((List Int))
 |0,_=>none
 |n+1,(t0,t1,t5,t6,t39,t40,t41)=>
 if decide (t41<t40)then
 if inb t41 t39 then
 if decide ((gd t39 t41 0)<0)then
 Ar n (t0,t1,t5,t6,t39,t40,w64 (t41+1))
 else
 if t0.1=true then
 if inb (gd t39 t41 0) t0.2.2.2.1 then
 if t0.1=true then
 if inb t0.2.2.1 (gd t0.2.2.2.1 (gd t39 t41 0) [])then
 (AB Aa ((),t0,t1,t5,t6,t41,gd t39 t41 0,gd (gd t0.2.2.2.1 (gd t39 t41 0) []) t0.2.2.1 0,t39,t40,t41,(t6.length:Int),0)).bind λs3=>
 if s3.1.1=true then
 if s3.1.2.1≠0 then
 if inb s3.2.2.2.2.1 s3.2.2.1 then
 Ar n (s3.1,s3.2.1,stt s3.2.2.1 s3.2.2.2.2.1 (Int.tmod s3.2.2.2.2.2.1 s3.1.2.1),s3.2.2.2.1,s3.2.2.2.2.2.2.1,s3.2.2.2.2.2.2.2.1,w64 (s3.2.2.2.2.2.2.2.2+1))
 else none
 else none
 else none
 else none
 else none
 else none
 else none
 else none
 else
 some t5
def Cj (t0:Bool×Int×Int×(List (List Int))×Int×(List Int)) (t1:List Int):Option ((List Int)):=
 if t0.1=true then
 if 0<=t0.2.2.1/\t0.2.2.1<=t0.2.2.1/\t0.2.2.1<=lim then
 (AG t0).bind λr1=>
 (AI Aa ((),t0,t1,List.replicate (Int.toNat t0.2.2.1) (0:Int),r1,(r1.length:Int),0)).bind λs2=>
 if s2.1.1=true then
 (Ar Aa (s2.1,s2.2.1,s2.2.2.1,s2.2.2.2,s2.1.2.2.2.2.2,(s2.1.2.2.2.2.2.length:Int),0)).bind λs3=>
 some s3
 else none
 else none
 else none
end T
open Go Go.Va
namespace T
def mix {α:Type} (nw old:Nat->α) (N i:Nat):List α:=(List.range N).map λq=>if q<i then nw q else old q
section
variable {α:Type} {nw old:Nat->α} {N i:Nat}
theorem CG:(mix nw old N i).length=N:=by simp[mix]
theorem Fw {q:Nat} {d:α} (h:q<N):(mix nw old N i).getD q d=if q<i then nw q else old q:=by
 rw[Ab (by rw[CG];exact h)];simp[mix]
theorem EA (h:i<N):(mix nw old N i).set i (nw i)=mix nw old N (i+1):=by
 unfold mix
 apply List.ext_getElem
 ·simp
 ·intro q h1 h2
  rw[List.getElem_set]
  simp only[List.getElem_map,List.getElem_range]
  by_cases e:i=q
  ·subst e;rw[if_pos rfl,if_pos (by omega)]
  ·rw[if_neg e]
   by_cases e2:q<i
   ·rw[if_pos e2,if_pos (by omega)]
   ·rw[if_neg e2,if_neg (by omega)]
theorem Hu (h:i<N) (he:nw i=old i):mix nw old N (i+1)=mix nw old N i:=by
 unfold mix
 refine List.map_congr_left λq hq=>?_
 by_cases e:q=i
 ·subst e;rw[if_pos (by omega),if_neg (by omega),he]
 ·by_cases e2:q<i
  ·rw[if_pos e2,if_pos (by omega)]
  ·rw[if_neg e2,if_neg (by omega)]
theorem Fh {l:List α} {d:α} (h:l.length=N):mix nw (λq=>l.getD q d) N 0=l:=by
 apply List.ext_getElem
 ·rw[CG,h]
 ·intro q h1 h2
  simp only[mix,List.getElem_map,List.getElem_range]
  rw[if_neg (by omega),Ab h2]
theorem Ee:mix nw old N N=(List.range N).map nw:=by
 unfold mix
 refine List.map_congr_left λq hq=>?_
 rw[if_pos (List.mem_range.1 hq)]
end
def pr4 (p:Int):Prop:=p=2∨p=3∨p=5∨p=7
def Aj (p:Int) (W:Nat) (r:List Int):Prop:=r.length=W/\ ∀x∈r,0<=x/\x<p
def DT (p x:Int):Int:=(Da x p).getD 0
theorem Lm: ∀p:Fin 8,∀x:Fin 8,(p.val=2∨p.val=3∨p.val=5∨p.val=7)->0<x.val->x.val<p.val->
  Da (x.val:Int) (p.val:Int)=some (DT (p.val:Int) (x.val:Int))/\Et (p.val:Int) (x.val:Int)=some (DT (p.val:Int) (x.val:Int))/\1<=DT (p.val:Int) (x.val:Int)/\DT (p.val:Int) (x.val:Int)<(p.val:Int):=by decide+kernel
theorem Ia {p x:Int} (hp:pr4 p) (h0:0<x) (h1:x<p):Da x p=some (DT p x)/\Et p x=some (DT p x)/\1<=DT p x/\DT p x<p:=by
 unfold pr4 at hp
 have:=Lm ⟨p.toNat,by omega⟩ ⟨x.toNat,by omega⟩ (by simp;omega) (by simp;omega) (by simp;omega)
 simp only[Int.toNat_of_nonneg (show 0<=p by omega),Int.toNat_of_nonneg (show 0<=x by omega)]at this
 exact this
def AH (p b:Int) (r:List Int):List Int:=(List.range r.length).map λi=>Int.tmod (r.getD i 0*b) p
def AJ (p:Int) (row:List Int) (v:Nat) (r:List Int):List Int:=(List.range r.length).map λi=>Int.tmod (r.getD i 0+(p-r.getD v 0)*row.getD i 0) p
section
variable {p:Int} {W:Nat} {r row:List Int}
theorem BB (h:Aj p W r) {i:Nat} (hi:i<W):0<=r.getD i 0/\r.getD i 0<p:=by
 have:i<r.length:=by rw[h.1];exact hi
 rw[Ab this];exact h.2 _ (List.getElem_mem this)
theorem Hv (hp:pr4 p) {x:Int} (h:0<=x):0<=Int.tmod x p/\Int.tmod x p<p:=by
 unfold pr4 at hp
 rw[Int.tmod_eq_emod_of_nonneg h]
 exact⟨Int.emod_nonneg _ (by omega),Int.emod_lt_of_pos _ (by omega)⟩
theorem FY {a b:Int} (h0:0<=a) (h1:a<=8) (g0:0<=b) (g1:b<=8):0<=a*b/\a*b<=64:=by
 have h2:=Int.mul_nonneg h0 g0
 have h3:=Int.mul_le_mul h1 g1 g0 (by omega)
 exact⟨h2,by omega⟩
theorem GE (hp:pr4 p) (h:Aj p W r) {b:Int} (hb:0<=b/\b<p):Aj p W (AH p b r):=by
 refine⟨by unfold AH;simp;exact h.1,λx hx=>?_⟩
 unfold AH at hx
 obtain⟨i,hi,rfl⟩:=List.mem_map.1 hx
 have hi:=List.mem_range.1 hi
 have:=BB h (i:=i) (by rw[←h.1];exact hi)
 exact Hv hp (Int.mul_nonneg this.1 hb.1)
theorem Jn (hp:pr4 p) (h:Aj p W r) (hr:Aj p W row) {v:Nat} (hv:v<W):Aj p W (AJ p row v r):=by
 refine⟨by unfold AJ;simp;exact h.1,λx hx=>?_⟩
 unfold AJ at hx
 obtain⟨i,hi,rfl⟩:=List.mem_map.1 hx
 have hi:=List.mem_range.1 hi
 have h1:=BB h (i:=i) (by rw[←h.1];exact hi)
 have h2:=BB hr (i:=i) (by rw[←h.1];exact hi)
 have h3:=BB h hv
 exact Hv hp (by have:=Int.mul_nonneg (show 0<=p-r.getD v 0 by omega) h2.1;omega)
theorem HP (hp:pr4 p) (h:Aj p W r) (hr:Aj p W row) {v:Nat} (h0:r.getD v 0=0):AJ p row v r=r:=by
 unfold AJ
 apply List.ext_getElem
 ·simp
 ·intro i h1 h2
  simp only[List.getElem_map,List.getElem_range]
  have g:=h.2 _ (List.getElem_mem h2)
  have g2:=BB hr (i:=i) (by rw[←h.1];exact h2)
  rw[h0,Int.sub_zero,Ab h2]
  have hnn:=Int.mul_nonneg (show 0<=p by unfold pr4 at hp;omega) g2.1
  rw[Int.tmod_eq_emod_of_nonneg (by omega),Int.add_mul_emod_self_left]
  exact Int.emod_eq_of_lt g.1 g.2
theorem AC {x:Int} (h0: -1000000<=x) (h1:x<=1000000):w64 x=x:=Ao (by omega) (by omega)
theorem KF (hp:pr4 p) (h:Aj p W r) (hr:Aj p W row) {v i:Nat} (hv:v<W) (hi:i<W):
  Int.tmod (w64 (r.getD i 0+w64 (w64 (p-r.getD v 0)*row.getD i 0))) p=Int.tmod (r.getD i 0+(p-r.getD v 0)*row.getD i 0) p:=by
 have h1:=BB h hi
 have h2:=BB hr hi
 have h3:=BB h hv
 unfold pr4 at hp
 have h4:=FY (a:=p-r.getD v 0) (b:=row.getD i 0) (by omega) (by omega) (by omega) (by omega)
 rw[AC (x:=p-r.getD v 0) (by omega) (by omega),AC (x:=(p-r.getD v 0)*row.getD i 0) (by omega) (by omega),AC (by omega) (by omega)]
theorem GH (hp:pr4 p) (hW:W<=1000) (h:Aj p W r) (hr:Aj p W row) {v:Nat} (hv:v<W):Bk p r row (r.getD v 0)=some (AJ p row v r):=by
 unfold Bk
 have hlr:=h.1
 have hlo:=hr.1
 have hp0:p≠0:=by unfold pr4 at hp;omega
 have:=BL r.length (λf o i=>AE f (p,r,row,r.getD v 0,o,i)) (λj=>(List.range j).map λi=>Int.tmod (r.getD i 0+(p-r.getD v 0)*row.getD i 0) p) (r:=some (AJ p row v r)) (λf j hj=>?_) (λf=>?_) (n:=Aa) (by unfold Aa;omega)
 ·have this:AE Aa (p,r,row,r.getD v 0,[],0)=_:=this
  rw[this];rfl
 ·have e:(List.range (j+1)).map (λi=>Int.tmod (r.getD i 0+(p-r.getD v 0)*row.getD i 0) p)=(List.range j).map (λi=>Int.tmod (r.getD i 0+(p-r.getD v 0)*row.getD i 0) p)++ [Int.tmod (r.getD j 0+(p-r.getD v 0)*row.getD j 0) p]:=by rw[List.range_succ,List.map_append];rfl
  have hjo:j<row.length:=by omega
  simp only[AE,Ae,hj,hjo,Co,KF hp h hr hv (show j<W by omega),e,if_true,Ac (show j<4611686018427387904 by omega)]
  rw[if_pos (by simp;omega),if_pos hp0,if_pos (by simp;unfold lim;omega)]
 ·simp only[AE]
  rw[if_neg (by simp)];rfl
theorem HE (hp:pr4 p) (hW:W<=1000) (h:Aj p W r) {b:Int} (hb:0<=b/\b<p):E6 p r b=some (AH p b r):=by
 unfold E6
 have hlr:=h.1
 have hp0:p≠0:=by unfold pr4 at hp;omega
 have:=BL r.length (λf o i=>Cg f (p,r,b,o,i)) (λj=>(List.range j).map λi=>Int.tmod (r.getD i 0*b) p) (r:=some (AH p b r)) (λf j hj=>?_) (λf=>?_) (n:=Aa) (by unfold Aa;omega)
 ·have this:Cg Aa (p,r,b,[],0)=_:=this
  rw[this];rfl
 ·have e:(List.range (j+1)).map (λi=>Int.tmod (r.getD i 0*b) p)=(List.range j).map (λi=>Int.tmod (r.getD i 0*b) p)++ [Int.tmod (r.getD j 0*b) p]:=by rw[List.range_succ,List.map_append];rfl
  have h1:=BB h (i:=j) (by omega)
  unfold pr4 at hp
  have h4:=FY (a:=r.getD j 0) (b:=b) (by omega) (by omega) (by omega) (by omega)
  simp only[Cg,Ae,hj,Co,AC (x:=r.getD j 0*b) (by omega) (by omega),e,if_true,Ac (show j<4611686018427387904 by omega)]
  rw[if_pos (by simp;omega),if_pos hp0,if_pos (by simp;unfold lim;omega)]
 ·simp only[Cg]
  rw[if_neg (by simp)];rfl
end
abbrev ES:=List (List Int)×List Int×List (List Int)
def nzB (v:Nat) (r:List Int):Bool:=r.getD v 0 !=0
def CV (p:Int) (s:ES) (v:Nat):ES:=
 let at':=s.2.2.findIdx (nzB v)
 if at'<s.2.2.length then
  let row:=AH p (DT p ((s.2.2.getD at' []).getD v 0)) (s.2.2.getD at' [])
  (s.1.map (AJ p row v)++ [row],s.2.1++ [(v:Int)],(s.2.2.eraseIdx at').map (AJ p row v))
 else s
def Ad (p:Int) (rows:List (List Int)) (V:Nat):ES:=(List.range V).foldl (CV p) ([],[],rows)
structure ESok (p:Int) (W N v:Nat) (s:ES):Prop where
 t: ∀r∈s.1,Aj p W r
 l: ∀r∈s.2.2,Aj p W r
 bl:s.2.1.length=s.1.length
 n:s.1.length+s.2.2.length=N
 bv: ∀x∈s.2.1,0<=x/\x<(v:Int)
 bn:s.2.1.Nodup
section
variable {p:Int} {W N:Nat}
theorem G8 {l:List (List Int)} {v:Nat} (h:l.findIdx (nzB v)<l.length) (hl: ∀r∈l,Aj p W r) (hv:v<W):0<(l.getD (l.findIdx (nzB v)) []).getD v 0/\(l.getD (l.findIdx (nzB v)) []).getD v 0<p/\Aj p W (l.getD (l.findIdx (nzB v)) []):=by
 have h1:=List.findIdx_getElem (p:=nzB v) (xs:=l) (w:=h)
 have h2:=hl _ (List.getElem_mem h)
 rw[Ab h]
 generalize l[l.findIdx (nzB v)]'h=r at h1 h2⊢
 have h3:=BB h2 hv
 have h4:r.getD v 0≠0:=by unfold nzB at h1;exact bne_iff_ne.1 h1
 exact⟨by omega,h3.2,h2⟩
theorem Km (hp:pr4 p) {s:ES} {v:Nat} (h:ESok p W N v s) (hv:v<W):ESok p W N (v+1) (CV p s v):=by
 unfold CV
 by_cases hc:s.2.2.findIdx (nzB v)<s.2.2.length
 ·obtain⟨h1,h2,h3⟩:=G8 hc h.l hv
  obtain⟨_,_,i1,i2⟩:=Ia hp h1 h2
  have hrow:=GE hp h3 (b:=DT p ((s.2.2.getD (s.2.2.findIdx (nzB v)) []).getD v 0)) ⟨by omega,i2⟩
  dsimp only
  rw[if_pos hc]
  refine⟨λr hr=>?_,λr hr=>?_,by simp;exact h.bl,?_,λx hx=>?_,?_⟩
  ·rcases List.mem_append.1 hr with hr|hr
   ·obtain⟨q,hq,rfl⟩:=List.mem_map.1 hr
    exact Jn hp (h.t q hq) hrow hv
   ·rw[List.mem_singleton.1 hr];exact hrow
  ·obtain⟨q,hq,rfl⟩:=List.mem_map.1 hr
   exact Jn hp (h.l q (List.mem_of_mem_eraseIdx hq)) hrow hv
  ·have:=h.n
   have h9:(s.2.2.eraseIdx (s.2.2.findIdx (nzB v))).length=s.2.2.length-1:=List.length_eraseIdx_of_lt hc
   simp only[List.length_append,List.length_map,List.length_singleton]
   omega
  ·rcases List.mem_append.1 hx with hx|hx
   ·have:=h.bv x hx;omega
   ·rw[List.mem_singleton.1 hx];omega
  ·refine List.nodup_append.2 ⟨h.bn,by simp,λa ha b hb=>?_⟩
   rw[List.mem_singleton.1 hb]
   have:=h.bv a ha
   omega
 ·dsimp only
  rw[if_neg hc]
  exact⟨h.t,h.l,h.bl,h.n,λx hx=>by have:=h.bv x hx;omega,h.bn⟩
theorem AK (hp:pr4 p) {rows:List (List Int)} (hr: ∀r∈rows,Aj p W r): ∀v,v<=W->ESok p W rows.length v (Ad p rows v):=by
 intro v
 induction v with
 |zero=>intro _;exact⟨λr h=>by simp[Ad]at h,hr,rfl,by simp[Ad],λx h=>by simp[Ad]at h,by simp[Ad]⟩
 |succ v ih=>
  intro hv
  unfold Ad
  rw[DG]
  exact Km hp (ih (by omega)) (by omega)
end
end T
open Go Go.Va
namespace T
section
variable {p:Int} {W N:Nat}
theorem Gh {α β:Type} (g:α->β) {l:List α} {d:α}:((List.range l.length).map λq=>g (l.getD q d))=l.map g:=by
 apply List.ext_getElem
 ·simp
 ·intro i h1 h2
  simp only[List.getElem_map,List.getElem_range]
  rw[Ab (by simpa using h2)]
theorem LN {β:Type} (l:List (List Int)) (v:Nat) (L:Nat->Int->Option β) (g:Nat->β)
  (hs: ∀n (k:Nat) (hk:k<l.length),L (n+1) k=if nzB v l[k]then some (g k)else L n ((k+1:Nat):Int)) (he: ∀n,L (n+1) (l.length:Nat)=some (g l.length)):
  ∀(c k n:Nat),k+c=l.length->c<n->L n k=some (g (k+(l.drop k).findIdx (nzB v))):=by
 intro c
 induction c with
 |zero=>
  intro k n hk hn
  obtain⟨n,rfl⟩: ∃z,n=z+1:=⟨n-1,by omega⟩
  have:k=l.length:=by omega
  subst this
  rw[he,List.drop_length];rfl
 |succ c ih=>
  intro k n hk hn
  obtain⟨n,rfl⟩: ∃z,n=z+1:=⟨n-1,by omega⟩
  have hkl:k<l.length:=by omega
  rw[hs n k hkl,List.drop_eq_getElem_cons hkl,List.findIdx_cons]
  cases hb:nzB v l[k]with
  |true=>simp
  |false=>
   simp only[Bool.false_eq_true,if_false]
   rw[ih (k+1) n (by omega) (by omega)]
   simp only[cond_false]
   congr 2;omega
theorem KW {s:ES} {v V:Nat} (h:ESok p W N v s) (hv:v<W) (hN:N<=100000) (t6:ES):
  A8 Aa (p,(V:Int),(t6.1,(t6.2.1,t6.2.2)),(s.1,(s.2.1,s.2.2)),(v:Int),0)=some (p,(V:Int),(t6.1,(t6.2.1,t6.2.2)),(s.1,(s.2.1,s.2.2)),(v:Int),((s.2.2.findIdx (nzB v):Nat):Int)):=by
 have hn:=h.n
 have:=LN s.2.2 v (λf i=>A8 f (p,(V:Int),(t6.1,(t6.2.1,t6.2.2)),(s.1,(s.2.1,s.2.2)),(v:Int),i)) (λk=>(p,(V:Int),(t6.1,(t6.2.1,t6.2.2)),(s.1,(s.2.1,s.2.2)),(v:Int),(k:Int))) (λf k hk=>?_) (λf=>?_) s.2.2.length 0 Aa (by omega) (by unfold Aa;omega)
 ·rw[List.drop_zero,Nat.zero_add]at this
  exact this
 ·have hr:=h.l _ (List.getElem_mem hk)
  have hvl:v<s.2.2[k].length:=by rw[hr.1];exact hv
  simp only[A8,Ae,hk,Ak hk,hvl,Co,if_true,Ac (show k<4611686018427387904 by omega)]
  rw[if_pos (by simp;omega)]
  unfold nzB
  by_cases hz:s.2.2[k].getD v 0=0
  ·rw[if_pos (by simpa using hz),if_neg (by simpa using hz)]
  ·rw[if_neg (by simpa using hz),if_pos (by simpa using hz)]
 ·simp only[A8]
  rw[if_neg (by simp)]
theorem KX (hp:pr4 p) (hW:W<=1000) {l:List (List Int)} {row:List Int} (hl: ∀r∈l,Aj p W r) (hlen:l.length<=100000) (hr:Aj p W row) {v:Nat} (hv:v<W) (V:Int) (t6 s:ES):
  A9 Aa (p,V,(t6.1,(t6.2.1,t6.2.2)),(s.1,(s.2.1,s.2.2)),(v:Int),row,l,0)=some (p,V,(t6.1,(t6.2.1,t6.2.2)),(s.1,(s.2.1,s.2.2)),(v:Int),row,l.map (AJ p row v)):=by
 have:=BL l.length (λf o i=>A9 f (p,V,(t6.1,(t6.2.1,t6.2.2)),(s.1,(s.2.1,s.2.2)),(v:Int),row,o,i)) (λk=>mix (λq=>AJ p row v (l.getD q [])) (λq=>l.getD q []) l.length k)
  (r:=some (p,V,(t6.1,(t6.2.1,t6.2.2)),(s.1,(s.2.1,s.2.2)),(v:Int),row,l.map (AJ p row v))) (λf k hk=>?_) (λf=>?_) (n:=Aa) (by unfold Aa;omega)
 ·rw[Fh rfl]at this;exact this
 ·have hml:(mix (λq=>AJ p row v (l.getD q [])) (λq=>l.getD q []) l.length k).length=l.length:=CG
  have hin:k<(mix (λq=>AJ p row v (l.getD q [])) (λq=>l.getD q []) l.length k).length:=by rw[hml];exact hk
  have hg:(mix (λq=>AJ p row v (l.getD q [])) (λq=>l.getD q []) l.length k).getD k []=l.getD k []:=by rw[Fw hk,if_neg (by omega)]
  have hrk:Aj p W (l.getD k []):=by rw[Ab hk];exact hl _ (List.getElem_mem hk)
  have hvl:v<(l.getD k []).length:=by rw[hrk.1];exact hv
  have hst:=EA (nw:=λq=>AJ p row v (l.getD q [])) (old:=λq=>l.getD q []) hk
  simp only[A9,Ae,hin,Co,hg,hvl,GH hp hW hrk hr hv,Option.bind_some,BA,hst,if_true,Ac (show k<4611686018427387904 by omega)]
  rw[if_pos (by rw[hml];simp;omega)]
 ·simp only[A9,CG]
  rw[if_neg (by simp),Ee]
  rw[Gh (AJ p row v)]
theorem KY (hp:pr4 p) (hW:W<=1000) {l:List (List Int)} {row:List Int} (hl: ∀r∈l,Aj p W r) (hlen:l.length<=100000) (hr:Aj p W row) {v:Nat} (hv:v<W) (V:Int) (t6:ES) (b:List Int) (q:List (List Int)) (t12:List (List Int)):
  Ba Aa (p,V,(t6.1,(t6.2.1,t6.2.2)),(l,(b,q)),(v:Int),row,t12,0)=some (p,V,(t6.1,(t6.2.1,t6.2.2)),(l.map (AJ p row v),(b,q)),(v:Int),row,t12):=by
 have:=BL l.length (λf o i=>Ba f (p,V,(t6.1,(t6.2.1,t6.2.2)),(o,(b,q)),(v:Int),row,t12,i)) (λk=>mix (λq=>AJ p row v (l.getD q [])) (λq=>l.getD q []) l.length k)
  (r:=some (p,V,(t6.1,(t6.2.1,t6.2.2)),(l.map (AJ p row v),(b,q)),(v:Int),row,t12)) (λf k hk=>?_) (λf=>?_) (n:=Aa) (by unfold Aa;omega)
 ·rw[Fh rfl]at this;exact this
 ·have hml:(mix (λq=>AJ p row v (l.getD q [])) (λq=>l.getD q []) l.length k).length=l.length:=CG
  have hin:k<(mix (λq=>AJ p row v (l.getD q [])) (λq=>l.getD q []) l.length k).length:=by rw[hml];exact hk
  have hg:(mix (λq=>AJ p row v (l.getD q [])) (λq=>l.getD q []) l.length k).getD k []=l.getD k []:=by rw[Fw hk,if_neg (by omega)]
  have hrk:Aj p W (l.getD k []):=by rw[Ab hk];exact hl _ (List.getElem_mem hk)
  have hvl:v<(l.getD k []).length:=by rw[hrk.1];exact hv
  have hst:=EA (nw:=λq=>AJ p row v (l.getD q [])) (old:=λq=>l.getD q []) hk
  simp only[Ba,Ae,hin,Co,hg,hvl,GH hp hW hrk hr hv,Option.bind_some,BA,hst,if_true,Ac (show k<4611686018427387904 by omega)]
  rw[if_pos (by rw[hml];simp;omega)]
 ·simp only[Ba,CG]
  rw[if_neg (by simp),Ee]
  rw[Gh (AJ p row v)]
theorem Hl {l:List (List Int)} {k:Nat}:l.eraseIdx k=l.take k++l.drop (k+1):=List.eraseIdx_eq_take_drop_succ l k
theorem BE (hp:pr4 p) {V:Nat} (hVW:V<=W) (hW:W<=1000) {rows:List (List Int)} (hr: ∀r∈rows,Aj p W r) (hN:rows.length<=100000):Bj p (V:Int) rows=some (Ad p rows V):=by
 unfold Bj
 have h3:=BL rows.length (λf o i=>Bz f (p,(V:Int),rows,([],([],[])),([],([],o)),i)) (λk=>rows.take k) (r:=some (p,(V:Int),([],([],[])),([],([],rows)))) (λf k hk=>by
  have hrk:=hr _ (List.getElem_mem hk)
  have hlr:=hrk.1
  simp only[Bz,Ae,hk,Ak hk,Dv (show rows[k].length<=1099511627775 by omega),Option.bind_some,List.take_succ_eq_append_getElem hk,if_true,Ac (show k<4611686018427387904 by omega)]
  rw[if_pos (by simp;omega),if_pos (by simp;unfold lim;omega)]) (λf=>by
  simp only[Bz,List.take_length]
  rw[if_neg (by simp)]) (n:=Aa) (by unfold Aa;omega)
 have h3:Bz Aa (p,(V:Int),rows,([],([],[])),([],([],[])),0)=_:=h3
 simp only[h3,Option.bind_some]
 have h7:=BL V (λf (s:ES) i=>Bf f (p,(V:Int),([],([],[])),(s.1,(s.2.1,s.2.2)),i)) (λv=>Ad p rows v) (r:=some (([],([],[])),Ad p rows V)) (λf v hv=>?_) (λf=>?_) (n:=Aa) (by unfold Aa;omega)
 ·have h7:Bf Aa (p,(V:Int),([],([],[])),([],([],rows)),0)=_:=h7
  rw[h7];rfl
 ·have hok:=AK hp hr v (by omega)
  have hnx:Ad p rows (v+1)=CV p (Ad p rows v) v:=by unfold Ad;rw[DG]
  rw[hnx]
  generalize Ad p rows v=s at hok
  have hn:=hok.n
  have hbl:=hok.bl
  have h10:=KW (V:=V) hok (show v<W by omega) hN ([],([],[]))
  have h10:A8 Aa (p,(V:Int),([],([],[])),(s.1,(s.2.1,s.2.2)),(v:Int),0)=_:=h10
  simp only[Bf,h10,Option.bind_some]
  rw[if_pos (by simp;omega)]
  by_cases hc:s.2.2.findIdx (nzB v)<s.2.2.length
  ·obtain⟨f1,f2,f3⟩:=G8 hc hok.l (show v<W by omega)
   obtain⟨_,i1,i2,i3⟩:=Ia hp f1 f2
   have hsc:=HE hp hW f3 (b:=DT p ((s.2.2.getD (s.2.2.findIdx (nzB v)) []).getD v 0)) ⟨by omega,i3⟩
   have hrow:=GE hp f3 (b:=DT p ((s.2.2.getD (s.2.2.findIdx (nzB v)) []).getD v 0)) ⟨by omega,i3⟩
   have hS:CV p s v=(s.1.map (AJ p (AH p (DT p ((s.2.2.getD (s.2.2.findIdx (nzB v)) []).getD v 0)) (s.2.2.getD (s.2.2.findIdx (nzB v)) [])) v)++ [AH p (DT p ((s.2.2.getD (s.2.2.findIdx (nzB v)) []).getD v 0)) (s.2.2.getD (s.2.2.findIdx (nzB v)) [])],s.2.1++ [(v:Int)],(s.2.2.eraseIdx (s.2.2.findIdx (nzB v))).map (AJ p (AH p (DT p ((s.2.2.getD (s.2.2.findIdx (nzB v)) []).getD v 0)) (s.2.2.getD (s.2.2.findIdx (nzB v)) [])) v)):=by
    unfold CV;dsimp only;rw[if_pos hc]
   rw[hS]
   generalize hK:s.2.2.findIdx (nzB v)=K at*
   generalize hI:DT p ((s.2.2.getD K []).getD v 0)=I at*
   have hvl:v<(s.2.2.getD K []).length:=by rw[f3.1];omega
   have hoth:([]++((s.2.2.take (Int.toNat (K:Int))).drop (Int.toNat 0)))++((s.2.2.take (Int.toNat (s.2.2.length:Int))).drop (Int.toNat (w64 ((K:Int)+1))))=s.2.2.eraseIdx K:=by
    rw[Ac (show K<4611686018427387904 by omega),Hl];simp
   have hel:(s.2.2.eraseIdx K).length<=100000:=by have:=List.length_eraseIdx_le s.2.2 K;omega
   have h16:=KX hp hW (l:=s.2.2.eraseIdx K) (λr h=>hok.l r (List.mem_of_mem_eraseIdx h)) hel hrow (show v<W by omega) (V:Int) ([],([],[])) s
   have h16:A9 Aa (p,(V:Int),([],([],[])),(s.1,(s.2.1,s.2.2)),(v:Int),AH p I (s.2.2.getD K []),s.2.2.eraseIdx K,0)=_:=h16
   have h20:=KY hp hW (l:=s.1) hok.t (by omega) hrow (show v<W by omega) (V:Int) ([],([],[])) s.2.1 s.2.2 ((s.2.2.eraseIdx K).map (AJ p (AH p I (s.2.2.getD K [])) v))
   have h20:Ba Aa (p,(V:Int),([],([],[])),(s.1,(s.2.1,s.2.2)),(v:Int),AH p I (s.2.2.getD K []),(s.2.2.eraseIdx K).map (AJ p (AH p I (s.2.2.getD K [])) v),0)=_:=h20
   rw[if_neg (by simp;omega)]
   simp only[Ae,hc,Co,hvl,if_true,i1,hsc,Option.bind_some,hoth,h16,h20,Ac (show v<4611686018427387904 by omega)]
   rw[if_pos (by omega),if_pos (by simp;unfold lim;omega),if_pos (by rw[Ac (show K<4611686018427387904 by omega)];omega),if_pos (by rw[Ac (show K<4611686018427387904 by omega)];simp;unfold lim;omega),if_pos (by simp;unfold lim;omega),if_pos (by simp;unfold lim;omega)]
  ·have hS:CV p s v=s:=by unfold CV;dsimp only;rw[if_neg hc]
   have hle:=List.findIdx_le_length (xs:=s.2.2) (p:=nzB v)
   rw[hS,if_pos (by simp;omega)]
   simp only[Ac (show v<4611686018427387904 by omega)]
 ·simp only[Bf]
  rw[if_neg (by simp)]
end
end T
open Go Go.Va
namespace T
def BK (V:Nat) (b:List Int):List Int:=(List.range V).map (B6 b)
section
variable {p:Int} {W N V:Nat}
theorem JR {b:List Int} {x:Int} {u:Nat}:B6 (b++ [x]) u=if(u:Int)∈b then B6 b u else if x=(u:Int)then(b.length:Int)else-1:=by
 unfold B6
 rw[List.findIdx?_append]
 by_cases h:(u:Int)∈b
 ·rw[if_pos h]
  have h1:(b.findIdx? λy=>y==(u:Int)).isSome=true:=by
   rw[List.findIdx?_isSome,List.any_eq_true]
   exact⟨_,h,by simp⟩
  obtain⟨i,hi⟩:=Option.isSome_iff_exists.1 h1
  rw[hi];rfl
 ·rw[if_neg h]
  have h1:(b.findIdx? λy=>y==(u:Int))=none:=by
   rw[List.findIdx?_eq_none_iff]
   intro y hy
   simp only[beq_eq_false_iff_ne]
   intro e;exact h (e▸hy)
  rw[h1]
  by_cases hx:x=(u:Int)
  ·rw[if_pos hx,hx];simp[List.findIdx?_cons]
  ·rw[if_neg hx]
   have:(x==(u:Int))=false:=by simpa using hx
   simp[List.findIdx?_cons,this]
theorem C3 {b:List Int}:(BK V b).length=V:=by simp[BK]
theorem Gs {b:List Int} {u:Nat} (h:u<V):(BK V b).getD u 0=B6 b u:=by rw[Ab (by rw[C3];exact h)];simp[BK]
theorem Dm {b:List Int} {u:Nat} (h:(u:Int)∉b):B6 b u= -1:=by
 unfold B6
 have h1:(b.findIdx? λy=>y==(u:Int))=none:=by
  rw[List.findIdx?_eq_none_iff]
  intro y hy
  simp only[beq_eq_false_iff_ne]
  intro e;exact h (e▸hy)
 rw[h1]
theorem DA {b:List Int} {u:Nat} (h:(u:Int)∈b): ∃i,∃hi:i<b.length,B6 b u=(i:Int)/\b[i]=(u:Int):=by
 unfold B6
 have h1:(b.findIdx? λy=>y==(u:Int)).isSome=true:=by
  rw[List.findIdx?_isSome,List.any_eq_true]
  exact⟨_,h,by simp⟩
 obtain⟨i,hi⟩:=Option.isSome_iff_exists.1 h1
 rw[hi]
 obtain⟨g1,g2,_⟩:=List.findIdx?_eq_some_iff_getElem.1 hi
 exact⟨i,g1,rfl,by simpa using g2⟩
theorem Kb {b:List Int} {v:Nat} (hv:v<V) (hb:(v:Int)∉b):(BK V b).set v (b.length:Int)=BK V (b++ [(v:Int)]):=by
 unfold BK
 apply List.ext_getElem
 ·simp
 ·intro u h1 h2
  rw[List.getElem_set]
  simp only[List.getElem_map,List.getElem_range,JR]
  by_cases e:v=u
  ·subst e;rw[if_pos rfl,if_neg hb,if_pos rfl]
  ·rw[if_neg e]
   by_cases hu:(u:Int)∈b
   ·rw[if_pos hu]
   ·rw[if_neg hu,if_neg (by omega),Dm hu]
theorem Ey {rows:List (List Int)} (hN:rows.length<=100000) (hr: ∀r∈rows,r.length<=100000):BT rows=some rows:=by
 unfold BT
 have:=BL rows.length (λf o i=>BW f (o,rows,(rows.length:Int),i)) (λk=>rows.take k) (r:=some rows) (λf k hk=>by
  have hl:=hr _ (List.getElem_mem hk)
  have hcl:CT rows[k]=some rows[k]:=by
   unfold CT
   rw[if_pos (by simp;unfold lim;omega)];simp
  simp only[BW,Ae,hk,Ak hk,hcl,Option.bind_some,List.take_succ_eq_append_getElem hk,if_true,Ac (show k<4611686018427387904 by omega)]
  rw[if_pos (by simp;omega),if_pos (by simp;unfold lim;omega)]) (λf=>by
  simp only[BW,List.take_length]
  rw[if_neg (by simp)]) (n:=Aa) (by unfold Aa;omega)
 have this:BW Aa ([],rows,(rows.length:Int),0)=_:=this
 rw[this];rfl
theorem Li {t l:List (List Int)} {v:Nat} (hl: ∀r∈l,Aj p W r) (hv:v<W) (hN:t.length+l.length<=100000) (a b c:Int) (bd:List Int):
  Bh Aa (p,(V:Int),(a,(b,(t++l,(c,bd)))),(v:Int),(t.length:Int))=some (p,(V:Int),(a,(b,(t++l,(c,bd)))),(v:Int),((t.length+l.findIdx (nzB v):Nat):Int)):=by
 have hlen:(t++l).length=t.length+l.length:=List.length_append
 have key:=λP=>LN (l:=l) v (λf i=>Bh f (p,(V:Int),(a,(b,(t++l,(c,bd)))),(v:Int),(t.length:Int)+i)) (λk=>(p,(V:Int),(a,(b,(t++l,(c,bd)))),(v:Int),((t.length+k:Nat):Int))) (λf k hk=>?_) (λf=>?_) l.length 0 Aa (by omega) P
 ·have:=key (by unfold Aa;omega)
  rw[List.drop_zero,Nat.zero_add]at this
  have e:((t.length:Nat):Int)+((0:Nat):Int)=(t.length:Int):=by omega
  rw[e]at this
  exact this
 ·have hr:=hl _ (List.getElem_mem hk)
  have hkk:t.length+k<(t++l).length:=by omega
  have hg:(t++l).getD (t.length+k) []=l[k]:=by rw[Ab hkk,List.getElem_append_right (by omega)];simp
  have hvl:v<l[k].length:=by rw[hr.1];exact hv
  have e:(t.length:Int)+(k:Int)=((t.length+k:Nat):Int):=by push_cast;rfl
  have e2:(t.length:Int)+((k+1:Nat):Int)=((t.length+k+1:Nat):Int):=by push_cast;omega
  simp only[Bh,e,e2,Ae,hkk,Co,hg,hvl,if_true,Ac (show t.length+k<4611686018427387904 by omega)]
  rw[if_pos (decide_eq_true (Int.ofNat_lt.2 hkk))]
  unfold nzB
  by_cases hz:l[k].getD v 0=0
  ·rw[if_pos (by simpa using hz),if_neg (by simpa using hz)]
  ·rw[if_neg (by simpa using hz),if_pos (by simpa using hz)]
 ·have e:(t.length:Int)+(l.length:Int)=((t.length+l.length:Nat):Int):=by push_cast;rfl
  simp only[Bh,hlen,e]
  rw[if_neg (by simp)]
theorem Ku (hp:pr4 p) (hW:W<=1000) {R:List (List Int)} {T:Nat} (hT:T<R.length) (hr:Aj p W (R.getD T [])) {f0:Int} (hf:0<=f0/\f0<p) (a b c:Int) (bd:List Int) (v:Int):
  Bc Aa ((T:Int),p,(V:Int),(a,(b,(R,(c,bd)))),v,f0,((R.getD T []).length:Int),0)=some ((T:Int),p,(V:Int),(a,(b,(R.set T (AH p f0 (R.getD T [])),(c,bd)))),v):=by
 have hp0:p≠0:=by unfold pr4 at hp;omega
 generalize hq:R.getD T []=r at hr
 have hrl:=hr.1
 have:=BL r.length (λf (o:List (List Int)) i=>Bc f ((T:Int),p,(V:Int),(a,(b,(o,(c,bd)))),v,f0,(r.length:Int),i)) (λk=>R.set T (mix (λi=>Int.tmod (r.getD i 0*f0) p) (λi=>r.getD i 0) r.length k))
  (r:=some ((T:Int),p,(V:Int),(a,(b,(R.set T (AH p f0 r),(c,bd)))),v)) (λf k hk=>?_) (λf=>?_) (n:=Aa) (by unfold Aa;omega)
 ·have e:R.set T (mix (λi=>Int.tmod (r.getD i 0*f0) p) (λi=>r.getD i 0) r.length 0)=R:=by
   rw[Fh rfl,←hq,Ab hT,List.set_getElem_self]
  rw[e]at this
  exact this
 ·have hTl:T<(R.set T (mix (λi=>Int.tmod (r.getD i 0*f0) p) (λi=>r.getD i 0) r.length k)).length:=by simpa using hT
  have hg:gd (R.set T (mix (λi=>Int.tmod (r.getD i 0*f0) p) (λi=>r.getD i 0) r.length k)) (T:Int) []=mix (λi=>Int.tmod (r.getD i 0*f0) p) (λi=>r.getD i 0) r.length k:=by
   rw[Co,Ab hTl];simp
  have hkl:k<(mix (λi=>Int.tmod (r.getD i 0*f0) p) (λi=>r.getD i 0) r.length k).length:=by rw[CG];exact hk
  have hgk:(mix (λi=>Int.tmod (r.getD i 0*f0) p) (λi=>r.getD i 0) r.length k).getD k 0=r.getD k 0:=by rw[Fw hk,if_neg (by omega)]
  have hst:=EA (nw:=λi=>Int.tmod (r.getD i 0*f0) p) (old:=λi=>r.getD i 0) hk
  have h1:=BB hr (i:=k) (by omega)
  have h4:=FY (a:=r.getD k 0) (b:=f0) (by omega) (by unfold pr4 at hp;omega) (by omega) (by unfold pr4 at hp;omega)
  simp only[Bc,hg,Ae,hkl,Co,hgk,AC (x:=r.getD k 0*f0) (by omega) (by omega),BA,List.set_set,hst,if_true,Ac (show k<4611686018427387904 by omega)]
  rw[if_pos (by simp;omega),if_pos hp0]
 ·simp only[Bc,Ee]
  rw[if_neg (by simp)];rfl
theorem Kw (hp:pr4 p) (hW:W<=1000) {R:List (List Int)} {T K:Nat} (hT:T<R.length) (hK:K<R.length) (hne:K≠T) (hrT:Aj p W (R.getD T [])) (hrK:Aj p W (R.getD K [])) {v:Nat} (hv:v<W) (a b c:Int) (bd:List Int) (t130 t131:Int):
  Bd Aa ((T:Int),(K:Int),(),p,(V:Int),(a,(b,(R,(c,bd)))),(v:Int),(R.getD K []).getD v 0,t130,t131,((R.getD K []).length:Int),0)=some ((T:Int),(),p,(V:Int),(a,(b,(R.set K (AJ p (R.getD T []) v (R.getD K [])),(c,bd)))),(v:Int),t130,t131):=by
 have hp0:p≠0:=by unfold pr4 at hp;omega
 generalize hq:R.getD K []=r at hrK
 generalize hq2:R.getD T []=row at hrT
 have hrl:=hrK.1
 have:=BL r.length (λf (o:List (List Int)) i=>Bd f ((T:Int),(K:Int),(),p,(V:Int),(a,(b,(o,(c,bd)))),(v:Int),r.getD v 0,t130,t131,(r.length:Int),i)) (λk=>R.set K (mix (λi=>Int.tmod (r.getD i 0+(p-r.getD v 0)*row.getD i 0) p) (λi=>r.getD i 0) r.length k))
  (r:=some ((T:Int),(),p,(V:Int),(a,(b,(R.set K (AJ p row v r),(c,bd)))),(v:Int),t130,t131)) (λf k hk=>?_) (λf=>?_) (n:=Aa) (by unfold Aa;omega)
 ·have e:R.set K (mix (λi=>Int.tmod (r.getD i 0+(p-r.getD v 0)*row.getD i 0) p) (λi=>r.getD i 0) r.length 0)=R:=by
   rw[Fh rfl,←hq,Ab hK,List.set_getElem_self]
  rw[e]at this
  exact this
 ·have hKl:K<(R.set K (mix (λi=>Int.tmod (r.getD i 0+(p-r.getD v 0)*row.getD i 0) p) (λi=>r.getD i 0) r.length k)).length:=by simpa using hK
  have hTl:T<(R.set K (mix (λi=>Int.tmod (r.getD i 0+(p-r.getD v 0)*row.getD i 0) p) (λi=>r.getD i 0) r.length k)).length:=by simpa using hT
  have hg:gd (R.set K (mix (λi=>Int.tmod (r.getD i 0+(p-r.getD v 0)*row.getD i 0) p) (λi=>r.getD i 0) r.length k)) (K:Int) []=mix (λi=>Int.tmod (r.getD i 0+(p-r.getD v 0)*row.getD i 0) p) (λi=>r.getD i 0) r.length k:=by
   rw[Co,Ab hKl];simp
  have hg2:gd (R.set K (mix (λi=>Int.tmod (r.getD i 0+(p-r.getD v 0)*row.getD i 0) p) (λi=>r.getD i 0) r.length k)) (T:Int) []=row:=by
   have hRT:R[T]=row:=by rw[Ab hT]at hq2;exact hq2
   rw[Co,Ab hTl,List.getElem_set_ne (by omega)];exact hRT
  have hkl:k<(mix (λi=>Int.tmod (r.getD i 0+(p-r.getD v 0)*row.getD i 0) p) (λi=>r.getD i 0) r.length k).length:=by rw[CG];exact hk
  have hkr:k<row.length:=by rw[hrT.1];omega
  have hgk:(mix (λi=>Int.tmod (r.getD i 0+(p-r.getD v 0)*row.getD i 0) p) (λi=>r.getD i 0) r.length k).getD k 0=r.getD k 0:=by rw[Fw hk,if_neg (by omega)]
  have hst:=EA (nw:=λi=>Int.tmod (r.getD i 0+(p-r.getD v 0)*row.getD i 0) p) (old:=λi=>r.getD i 0) hk
  simp only[Bd,hg,hg2,Ae,hkl,hkr,Co,hgk,KF hp hrK hrT hv (show k<W by omega),BA,List.set_set,hst,if_true,Ac (show k<4611686018427387904 by omega)]
  rw[if_pos (by simp;omega),if_pos hp0]
 ·simp only[Bd,Ee]
  rw[if_neg (by simp)];rfl
def Gx (p:Int) (R:List (List Int)) (T v k:Nat):List Int:=if k=T then R.getD k []else AJ p (R.getD T []) v (R.getD k [])
theorem Kv (hp:pr4 p) (hW:W<=1000) {R:List (List Int)} {T:Nat} (hT:T<R.length) (hR: ∀k,k<R.length->Aj p W (R.getD k [])) (hN:R.length<=100000) {v:Nat} (hv:v<W) (a b:Int) (bd:List Int):
  AN Aa ((T:Int),(),p,(V:Int),(a,(b,(R,((T:Int),bd)))),(v:Int),(R.length:Int),0)=some (p,(V:Int),(a,(b,((List.range R.length).map (Gx p R T v),((T:Int),bd)))),(v:Int)):=by
 have:=BL R.length (λf (o:List (List Int)) i=>AN f ((T:Int),(),p,(V:Int),(a,(b,(o,((T:Int),bd)))),(v:Int),(R.length:Int),i)) (λk=>mix (Gx p R T v) (λk=>R.getD k []) R.length k)
  (r:=some (p,(V:Int),(a,(b,((List.range R.length).map (Gx p R T v),((T:Int),bd)))),(v:Int))) (λf k hk=>?_) (λf=>?_) (n:=Aa) (by unfold Aa;omega)
 ·rw[Fh rfl]at this
  exact this
 ·generalize hM:mix (Gx p R T v) (λk=>R.getD k []) R.length k=M
  have hMl:M.length=R.length:=by rw[←hM];exact CG
  have hMk:M.getD k []=R.getD k []:=by rw[←hM,Fw hk,if_neg (by omega)]
  have hMT:M.getD T []=R.getD T []:=by
   rw[←hM,Fw hT]
   split
   ·unfold Gx;rw[if_pos rfl]
   ·rfl
  have hin:k<M.length:=by omega
  have hrk:=hR k hk
  have hvl:v<(R.getD k []).length:=by rw[hrk.1];exact hv
  have hnx:k≠T->M.set k (AJ p (R.getD T []) v (R.getD k []))=mix (Gx p R T v) (λk=>R.getD k []) R.length (k+1):=λhne=>by
   have:=EA (nw:=Gx p R T v) (old:=λk=>R.getD k []) hk
   rw[←this,hM]
   unfold Gx;rw[if_neg hne]
  have hsame:Gx p R T v k=R.getD k []->mix (Gx p R T v) (λk=>R.getD k []) R.length (k+1)=M:=λh=>by rw[Hu hk h,hM]
  simp only[AN,Ae,hin,Co,hMk,hvl,if_true,Ac (show k<4611686018427387904 by omega)]
  rw[if_pos (by simp;omega)]
  by_cases hkT:k=T
  ·rw[if_neg (by simp[hkT]),hsame (by unfold Gx;rw[if_pos hkT])]
  ·rw[if_pos (by simp;omega)]
   by_cases hz:(R.getD k []).getD v 0=0
   ·rw[if_neg (by simpa using hz),hsame (by unfold Gx;rw[if_neg hkT,HP hp hrk (hR T hT) hz])]
   ·rw[if_pos (by simpa using hz)]
    have h24:=Kw (V:=V) hp hW (R:=M) (T:=T) (K:=k) (by omega) hin hkT (by rw[hMT];exact hR T hT) (by rw[hMk];exact hrk) hv a b (T:Int) bd (R.length:Int) (k:Int)
    rw[hMk,hMT]at h24
    simp only[h24,Option.bind_some,hnx hkT,Ac (show k<4611686018427387904 by omega)]
 ·simp only[AN,Ee]
  rw[if_neg (by simp)]
theorem LG {t l:List (List Int)} {K:Nat} (hK:K<l.length):upL (t++l) t.length (t.length+K) []=t++l.getD K []::l.eraseIdx K:=by
 unfold upL
 have e1:(t++l).take t.length=t:=by simp
 have e2:(t++l).getD (t.length+K) []=l.getD K []:=by
  rw[Ab (by simp;omega),Ab hK,List.getElem_append_right (by omega)];simp
 have e3:(t++l).drop t.length=l:=by simp
 have e4:(t++l).drop (t.length+K+1)=l.drop (K+1):=by
  rw[List.drop_append,List.drop_of_length_le (by omega),show t.length+K+1-t.length=K+1 by omega];rfl
 rw[e1,e2,e3,e4,Nat.add_sub_cancel_left,Hl]
theorem Gv (hp:pr4 p) (hVW:V<=W) (hW:W<=1000) {rows:List (List Int)} (hr: ∀r∈rows,Aj p W r) (hN:rows.length<=100000):
  CI p (V:Int) rows=some (true,(p,((V:Int),((Ad p rows V).1++(Ad p rows V).2.2,(((Ad p rows V).1.length:Int),BK V (Ad p rows V).2.1))))):=by
 unfold CI
 rw[Ey hN λr h=>by have:=(hr r h).1;omega,Kr (N:=V) (by omega)]
 simp only[Option.bind_some]
 have h3:=BL V (λf (s:List (List Int)×(Int×List Int)) i=>AW f (p,(V:Int),(p,((V:Int),(s.1,(s.2.1,s.2.2)))),i)) (λv=>((Ad p rows v).1++(Ad p rows v).2.2,(((Ad p rows v).1.length:Int),BK V (Ad p rows v).2.1)))
  (r:=some (p,((V:Int),((Ad p rows V).1++(Ad p rows V).2.2,(((Ad p rows V).1.length:Int),BK V (Ad p rows V).2.1))))) (λf v hv=>?_) (λf=>?_) (n:=Aa) (by unfold Aa;omega)
 ·have e0:BK V (Ad p rows 0).2.1=List.replicate V (-1):=by
   apply List.ext_getElem
   ·simp[BK]
   ·intro i h1 h2
    have:B6 ([]:List Int) i= -1:=Dm (by simp)
    simp only[BK,Ad,List.range_zero,List.foldl_nil,List.getElem_map,List.getElem_range,this,List.getElem_replicate]
  have h3:AW Aa (p,(V:Int),(p,((V:Int),(([]:List (List Int))++rows,(0,BK V (Ad p rows 0).2.1)))),0)=_:=h3
  rw[e0]at h3
  rw[List.nil_append]at h3
  rw[h3];rfl
 ·have hok:=AK hp hr v (by omega)
  have hnx:Ad p rows (v+1)=CV p (Ad p rows v) v:=by unfold Ad;rw[DG]
  rw[hnx]
  generalize Ad p rows v=s at hok
  have hn:=hok.n
  have hbl:=hok.bl
  obtain⟨t,bo,l⟩:=s
  dsimp only at hn hbl hok⊢
  have h6:=Li (V:=V) (p:=p) (W:=W) (t:=t) (l:=l) (v:=v) hok.l (show v<W by omega) (by omega) p (V:Int) (t.length:Int) (BK V bo)
  simp only[AW,h6,Option.bind_some]
  rw[if_pos (by simp;omega)]
  have hlen:(t++l).length=t.length+l.length:=List.length_append
  by_cases hc:l.findIdx (nzB v)<l.length
  ·obtain⟨f1,f2,f3⟩:=G8 hc hok.l (show v<W by omega)
   obtain⟨i0,i1,i2,i3⟩:=Ia hp f1 f2
   have hrow:=GE hp f3 (b:=DT p ((l.getD (l.findIdx (nzB v)) []).getD v 0)) ⟨by omega,i3⟩
   have hS:CV p (t,bo,l) v=(t.map (AJ p (AH p (DT p ((l.getD (l.findIdx (nzB v)) []).getD v 0)) (l.getD (l.findIdx (nzB v)) [])) v)++ [AH p (DT p ((l.getD (l.findIdx (nzB v)) []).getD v 0)) (l.getD (l.findIdx (nzB v)) [])],bo++ [(v:Int)],(l.eraseIdx (l.findIdx (nzB v))).map (AJ p (AH p (DT p ((l.getD (l.findIdx (nzB v)) []).getD v 0)) (l.getD (l.findIdx (nzB v)) [])) v)):=by
    unfold CV;dsimp only;rw[if_pos hc]
   rw[hS]
   generalize hK:l.findIdx (nzB v)=K at*
   generalize hx:l.getD K []=x at*
   generalize hI:DT p (x.getD v 0)=I at*
   have hvx:v<x.length:=by rw[f3.1];omega
   have hup:upL (t++l) (Int.toNat (t.length:Int)) (Int.toNat ((t.length+K:Nat):Int)) []=t++x::l.eraseIdx K:=by
    rw[Int.toNat_natCast,Int.toNat_natCast,LG hc,hx]
   have hgx:gd (t++l) ((t.length+K:Nat):Int) []=x:=by
    rw[Co,Ab (by omega),List.getElem_append_right (by omega),←hx,Ab hc];simp
   have hTl:t.length<(t++x::l.eraseIdx K).length:=by simp
   have hsx:stt (t++x::l.eraseIdx K) (t.length:Int) x=t++x::l.eraseIdx K:=by
    rw[BA];simp
   have hgT:gd (t++x::l.eraseIdx K) (t.length:Int) []=x:=by rw[Co,Ab hTl];simp
   have hgTD:(t++x::l.eraseIdx K).getD t.length []=x:=hgT
   have w1:w64 ((t.length:Int)+1)=((t.length+1:Nat):Int):=Ac (by omega)
   have w2:w64 (((t.length+K:Nat):Int)+1)=((t.length+K+1:Nat):Int):=Ac (by omega)
   have hR0l:(t++x::l.eraseIdx K).length=rows.length:=by
    have h9:(l.eraseIdx K).length=l.length-1:=List.length_eraseIdx_of_lt hc
    simp only[List.length_append,List.length_cons];omega
   have h14:=Ku (V:=V) hp hW (R:=t++x::l.eraseIdx K) (T:=t.length) hTl (by rw[hgTD];exact f3) (f0:=I) ⟨by omega,i3⟩ p (V:Int) (t.length:Int) (BK V bo) (v:Int)
   rw[hgTD]at h14
   have hset:(t++x::l.eraseIdx K).set t.length (AH p I x)=t++AH p I x::l.eraseIdx K:=by simp
   rw[hset]at h14
   have hR1: ∀k,k<(t++AH p I x::l.eraseIdx K).length->Aj p W ((t++AH p I x::l.eraseIdx K).getD k []):=λk hk=>by
    have hm:(t++AH p I x::l.eraseIdx K).getD k []∈t++AH p I x::l.eraseIdx K:=by rw[Ab hk];exact List.getElem_mem hk
    rcases List.mem_append.1 hm with h|h
    ·exact hok.t _ h
    ·rcases List.mem_cons.1 h with h|h
     ·rw[h];exact hrow
     ·exact hok.l _ (List.mem_of_mem_eraseIdx h)
   have hR1l:(t++AH p I x::l.eraseIdx K).length=rows.length:=by rw[←hR0l];simp
   have h19:=Kv (V:=V) hp hW (R:=t++AH p I x::l.eraseIdx K) (T:=t.length) (by simp) hR1 (by omega) (show v<W by omega) p (V:Int) (BK V bo)
   have hfin:(List.range (t++AH p I x::l.eraseIdx K).length).map (Gx p (t++AH p I x::l.eraseIdx K) t.length v)=(t.map (AJ p (AH p I x) v)++ [AH p I x])++(l.eraseIdx K).map (AJ p (AH p I x) v):=by
    have hgt:(t++AH p I x::l.eraseIdx K).getD t.length []=AH p I x:=by rw[Ab (by simp)];simp
    rw[List.append_assoc,List.singleton_append]
    apply List.ext_getElem
    ·simp
    ·intro k h1 h2
     simp only[List.getElem_map,List.getElem_range]
     unfold Gx
     rw[hgt]
     have hk:k<(t++AH p I x::l.eraseIdx K).length:=by simpa using h1
     by_cases c1:k<t.length
     ·rw[if_neg (by omega),Ab hk,List.getElem_append_left c1,List.getElem_append_left (by simpa using c1),List.getElem_map]
     ·by_cases c2:k=t.length
      ·subst c2
       rw[if_pos rfl,hgt,List.getElem_append_right (by simp)];simp
      ·rw[if_neg c2,Ab hk,List.getElem_append_right (by omega),List.getElem_append_right (by simp;omega)]
       simp only[List.length_map]
       rw[List.getElem_cons,dif_neg (by omega),List.getElem_cons,dif_neg (by omega),List.getElem_map]
   rw[hfin]at h19
   have hvb:v<(BK V bo).length:=by rw[C3];exact hv
   have hnb:(v:Int)∉bo:=λh=>by have:=hok.bv _ h;omega
   have hbs:(BK V bo).set v (t.length:Int)=BK V (bo++ [(v:Int)]):=by
    have:=Kb hv hnb
    rw[hbl]at this
    exact this
   rw[if_neg (by rw[hlen];simp;omega),if_pos (by rw[Ae];omega)]
   simp only[hup,hgx,hsx,hgT,Ae,hTl,hvx,i0,Option.bind_some,h14,h19,hvb,BA,hbs,if_true,w1,w2,Ac (show v<4611686018427387904 by omega)]
   rw[if_pos (by rw[hlen];omega),if_pos (by rw[hlen];omega)]
   have hgv:gd x (v:Int) 0=x.getD v 0:=Co
   simp only[hgv,i0,Option.bind_some,h14]
   rw[if_pos ⟨by omega,by omega,trivial⟩]
   rw[h19]
   simp only[Option.bind_some,Ae,hvb,BA,hbs,if_true,w1,Ac (show v<4611686018427387904 by omega)]
   rw[show(List.map (AJ p (AH p I x) v) t++ [AH p I x]).length=t.length+1 by simp]
  ·have hS:CV p (t,bo,l) v=(t,bo,l):=by unfold CV;dsimp only;rw[if_neg hc]
   have hle:=List.findIdx_le_length (xs:=l) (p:=nzB v)
   rw[hS,if_pos (by rw[hlen];simp;omega)]
   simp only[Ac (show v<4611686018427387904 by omega)]
 ·simp only[AW]
  rw[if_neg (by simp)]
end
end T
open Go Go.Va
namespace T
def Ap (N:Nat) (b:List Int):List Int:=((List.range N).filter λv:Nat=>!decide ((v:Int)∈b)).map λv:Nat=>(v:Int)
theorem EK {N:Nat} {b:List Int}:Ap (N+1) b=Ap N b++(if(N:Int)∈b then []else [(N:Int)]):=by
 unfold Ap
 rw[List.range_succ,List.filter_append,List.map_append]
 congr 1
 by_cases h:(N:Int)∈b<;>simp[h]
theorem EF {N:Nat} {b:List Int} {x:Int} (h:x∈Ap N b): ∃u:Nat,u<N/\x=(u:Int):=by
 unfold Ap at h
 obtain⟨u,hu,rfl⟩:=List.mem_map.1 h
 exact⟨u,List.mem_range.1 (List.mem_filter.1 hu).1,rfl⟩
theorem Cu {N:Nat} {b:List Int}:(Ap N b).length<=N:=by
 unfold Ap
 rw[List.length_map]
 have:=List.length_filter_le (λv:Nat=>!decide ((v:Int)∈b)) (List.range N)
 rw[List.length_range]at this
 exact this
theorem IV {N:Nat} {b:List Int} {x:Int} (h:(N:Int)<=x):Ap N (b++ [x])=Ap N b:=by
 unfold Ap
 congr 1
 refine List.filter_congr λu hu=>?_
 have:=List.mem_range.1 hu
 have e:((u:Int)∈b++ [x])↔(u:Int)∈b:=by
  rw[List.mem_append,List.mem_singleton]
  exact⟨λh=>h.resolve_right (by omega),Or.inl⟩
 simp only[e]
section
variable {p:Int} {W N V:Nat}
theorem Ks (hp:pr4 p) {rows:List (List Int)} (hr: ∀r∈rows,Aj p W r): ∀v,v<=W->(Ap v (Ad p rows v).2.1).length+(Ad p rows v).2.1.length=v:=by
 intro v
 induction v with
 |zero=>intro _;simp[Ap,Ad]
 |succ v ih=>
  intro hv
  have h1:=ih (by omega)
  have hok:=AK hp hr v (by omega)
  have hnx:Ad p rows (v+1)=CV p (Ad p rows v) v:=by unfold Ad;rw[DG]
  rw[hnx]
  generalize Ad p rows v=s at hok h1
  unfold CV
  dsimp only
  split
  ·rw[EK,if_pos (by simp),IV (by omega)]
   simp only[List.append_nil,List.length_append,List.length_singleton]
   omega
  ·have:(v:Int)∉s.2.1:=λh=>by have:=hok.bv _ h;omega
   rw[EK,if_neg this]
   simp only[List.length_append,List.length_singleton]
   omega
theorem FX {b:List Int} (hb:b.Nodup) {i:Nat} (hi:i<b.length) {u:Nat} (h:b[i]=(u:Int)):B6 b u=(i:Int):=by
 obtain⟨j,hj,h1,h2⟩:=DA (b:=b) (u:=u) (h▸List.getElem_mem hi)
 rw[h1]
 rcases Nat.lt_trichotomy i j with h3|h3|h3
 ·exact absurd (h.trans h2.symm) (List.pairwise_iff_getElem.1 hb i j hi hj h3)
 ·rw[h3]
 ·exact absurd (h2.trans h.symm) (List.pairwise_iff_getElem.1 hb j i hj hi h3)
theorem Ca {b:List Int} {u:Nat}:B6 b u<0↔(u:Int)∉b:=by
 by_cases h:(u:Int)∈b
 ·obtain⟨i,hi,h1,_⟩:=DA h
  rw[h1];simp[h]
 ·rw[Dm h];simp[h]
def DP (p:Int) (V:Nat) (s:ES):Bool×Int×Int×List (List Int)×Int×List Int:=(true,(p,((V:Int),(s.1++s.2.2,((s.1.length:Int),BK V s.2.1)))))
def C2 (V:Nat) (s:ES):Bool:=s.2.2.any (nzB V)
theorem Iq {s:ES} (hs:ESok p W N V s) (hV:V<W) (hN:N<=100000):CJ (DP p V s)=some (C2 V s):=by
 obtain⟨t,b,l⟩:=s
 have hn:=hs.n
 dsimp only at hn
 unfold CJ
 have e1:(((t++l).take (Int.toNat ((t++l).length:Int))).drop (Int.toNat (t.length:Int)))=l:=by rw[Int.toNat_natCast,Int.toNat_natCast,List.take_length];simp
 have key:=IM l (λm i=>Be m (DP p V (t,b,l),l,(l.length:Int),i)) (λr=>!nzB V r) (.inr true) (.inl ()) (λm k hk=>?_) (λm=>?_) (n:=Aa) (by unfold Aa;omega)
 ·have h1:(DP p V (t,b,l)).1=true:=rfl
  have h2:(DP p V (t,b,l)).2.2.2.1=t++l:=rfl
  have h3:(DP p V (t,b,l)).2.2.2.2.1=(t.length:Int):=rfl
  rw[if_pos h1,if_pos h1,h2,h3,if_pos ⟨by omega,by rw[List.length_append];omega,by omega⟩,e1,key]
  unfold C2
  have e:(l.all λr=>!nzB V r)=!(l.any (nzB V)):=by rw[List.not_any_eq_all_not]
  rw[e]
  cases l.any (nzB V)<;>simp
 ·have hr:=hs.l _ (List.getElem_mem hk)
  have hvl:V<l[k].length:=by rw[hr.1];exact hV
  have h1:(DP p V (t,b,l)).1=true:=rfl
  have h2:(DP p V (t,b,l)).2.2.1=(V:Int):=rfl
  simp only[Be,Ae,hk,Ak hk,h1,h2,hvl,Co,if_true,Ac (show k<4611686018427387904 by omega)]
  rw[if_pos (by simp;omega)]
  unfold nzB
  by_cases hz:l[k].getD V 0=0
  ·rw[if_neg (by simpa using hz),if_pos (by simpa using hz)]
  ·rw[if_pos (by simpa using hz),if_neg (by simpa using hz)]
 ·simp only[Be]
  rw[if_neg (by simp)]
theorem Ip {s:ES} (hs:ESok p W N V s) (hV:V<W) (hN:N<=100000):C1 s (V:Int)=some (C2 V s):=by
 obtain⟨t,b,l⟩:=s
 have hn:=hs.n
 dsimp only at hn
 unfold C1
 have key:=IM l (λm i=>CN m ((V:Int),(t,(b,l)),i)) (λr=>!nzB V r) (.inr true) (.inl ()) (λm k hk=>?_) (λm=>?_) (n:=Aa) (by unfold Aa;omega)
 ·dsimp only
  rw[key]
  unfold C2
  have e:(l.all λr=>!nzB V r)=!(l.any (nzB V)):=by rw[List.not_any_eq_all_not]
  rw[e]
  cases l.any (nzB V)<;>simp
 ·have hr:=hs.l _ (List.getElem_mem hk)
  have hvl:V<l[k].length:=by rw[hr.1];exact hV
  simp only[CN,Ae,hk,Ak hk,hvl,Co,if_true,Ac (show k<4611686018427387904 by omega)]
  rw[if_pos (by simp;omega)]
  unfold nzB
  by_cases hz:l[k].getD V 0=0
  ·rw[if_neg (by simpa using hz),if_pos (by simpa using hz)]
  ·rw[if_pos (by simpa using hz),if_neg (by simpa using hz)]
 ·simp only[CN]
  rw[if_neg (by simp)]
theorem EW {s:ES} (hV:V<=1000):AG (DP p V s)=some (Ap V s.2.1):=by
 unfold AG
 have h1:(DP p V s).1=true:=rfl
 have h2:(DP p V s).2.2.2.2.2=BK V s.2.1:=rfl
 have:=BL V (λf o i=>Aq f (o,BK V s.2.1,(V:Int),i)) (λk=>Ap k s.2.1) (r:=some (Ap V s.2.1)) (λf k hk=>?_) (λf=>?_) (n:=Aa) (by unfold Aa;omega)
 ·have this:Aq Aa ([],BK V s.2.1,(V:Int),0)=_:=this
  rw[if_pos h1,h2,C3,this];rfl
 ·have hl:k<(BK V s.2.1).length:=by rw[C3];exact hk
  have hle:=Cu (N:=k) (b:=s.2.1)
  simp only[Aq,Ae,hl,Co,Gs hk,if_true,Ac (show k<4611686018427387904 by omega),EK]
  rw[if_pos (by simp;omega)]
  by_cases hm:(k:Int)∈s.2.1
  ·rw[if_neg (by rw[decide_eq_true_iff,Ca];exact λh=>h hm),if_pos hm,List.append_nil]
  ·rw[if_pos (by rw[decide_eq_true_iff,Ca];exact hm),if_neg hm,if_pos (by simp;unfold lim;omega)]
 ·simp only[Aq]
  rw[if_neg (by simp)]
theorem Lg {s:ES} (hs:ESok p W N V s) (hN:N<=100000) (hV:V<=1000):EC s (V:Int)=some (Ap V s.2.1):=by
 unfold EC
 have hb:=hs.bl
 have hn:=hs.n
 have:=BL V (λf o i=>B7 f ((V:Int),(s.1,(s.2.1,s.2.2)),o,i)) (λk=>Ap k s.2.1) (r:=some (Ap V s.2.1)) (λf k hk=>?_) (λf=>?_) (n:=Aa) (by unfold Aa;omega)
 ·have this:B7 Aa ((V:Int),(s.1,(s.2.1,s.2.2)),[],0)=_:=this
  rw[this];rfl
 ·have hle:=Cu (N:=k) (b:=s.2.1)
  simp only[B7,E5 (show s.2.1.length<=1048576 by omega),Option.bind_some,Ac (show k<4611686018427387904 by omega),EK]
  rw[if_pos (by simp;omega)]
  by_cases hm:(k:Int)∈s.2.1
  ·rw[if_neg (by simpa using hm),if_pos hm,List.append_nil]
  ·rw[if_pos (by simpa using hm),if_neg hm,if_pos (by simp;unfold lim;omega)]
 ·simp only[B7]
  rw[if_neg (by simp)]
def FI (V:Nat) (s:ES) (u:Nat):Int:=if B6 s.2.1 u<0 then 0 else(s.1.getD (B6 s.2.1 u).toNat []).getD V 0
def Gk (V:Nat) (s:ES):List Int:=(List.range V).map (FI V s)
theorem KU (hp:pr4 p) (hV:V<W) (hW:W<=1000) {rows:List (List Int)} (hr: ∀r∈rows,Aj p W r) (hN:rows.length<=100000):E7 p (V:Int) rows=some (if C2 V (Ad p rows V)then([],false)else(Gk V (Ad p rows V),true)):=by
 unfold E7
 have hs:=AK hp hr V (by omega)
 rw[BE hp (by omega) hW hr hN]
 simp only[Option.bind_some]
 generalize Ad p rows V=s at hs
 have he:=Ip hs hV hN
 have he:C1 (s.1,(s.2.1,s.2.2)) (V:Int)=_:=he
 rw[he]
 simp only[Option.bind_some]
 cases C2 V s with
 |true=>rfl
 |false=>
  simp only[Bool.false_eq_true,if_false]
  rw[if_pos (by unfold lim;omega),Int.toNat_natCast]
  have hbl:=hs.bl
  have hn:=hs.n
  have l6:=BL s.2.1.length (λf (o:List Int) i=>Ch f ((V:Int),(s.1,(s.2.1,s.2.2)),o,i)) (λj=>(List.range V).map λu=>if 0<=B6 s.2.1 u/\B6 s.2.1 u<(j:Int)then(s.1.getD (B6 s.2.1 u).toNat []).getD V 0 else 0) (r:=some (Gk V s)) (λf j hj=>?_) (λf=>?_) (n:=Aa) (by unfold Aa;omega)
  ·have e0:((List.range V).map λu=>if 0<=B6 s.2.1 u/\B6 s.2.1 u<((0:Nat):Int)then(s.1.getD (B6 s.2.1 u).toNat []).getD V 0 else 0)=List.replicate V (0:Int):=by
    apply List.ext_getElem
    ·simp
    ·intro i _ _
     simp only[List.getElem_map,List.getElem_range,List.getElem_replicate]
     rw[if_neg (by omega)]
   rw[e0]at l6
   have l6:Ch Aa ((V:Int),(s.1,(s.2.1,s.2.2)),List.replicate V (0:Int),0)=_:=l6
   rw[l6];rfl
  ·have hbv:=hs.bv _ (List.getElem_mem hj)
   obtain⟨u,hu⟩: ∃u:Nat,s.2.1[j]=(u:Int):=⟨s.2.1[j].toNat,by omega⟩
   have hpu:=FX hs.bn hj hu
   have hj1:j<s.1.length:=by omega
   have hrow:Aj p W (s.1.getD j []):=by rw[Ab hj1];exact hs.t _ (List.getElem_mem hj1)
   have hVl:V<(s.1.getD j []).length:=by rw[hrow.1];exact hV
   have huV:u<V:=by omega
   simp only[Ch,Ae,hj,hj1,Ak hj,hu,Co,hVl,if_true,BA,Ac (show j<4611686018427387904 by omega)]
   rw[if_pos (by simp;omega),if_pos (by simp;omega)]
   congr 1
   refine congrArg (λo=>((V:Int),(s.1,(s.2.1,s.2.2)),o,((j+1:Nat):Int))) ?_
   apply List.ext_getElem
   ·simp
   ·intro w h1 h2
    rw[List.getElem_set]
    simp only[List.getElem_map,List.getElem_range]
    by_cases e:u=w
    ·subst e
     rw[if_pos rfl,hpu,if_pos (by omega),Int.toNat_natCast]
    ·rw[if_neg e]
     have hne:B6 s.2.1 w≠(j:Int):=λh=>by
      have hm:(w:Int)∈s.2.1:=by
       by_cases hm:(w:Int)∈s.2.1
       ·exact hm
       ·rw[Dm hm]at h;omega
      obtain⟨i,hi,g1,g2⟩:=DA hm
      have:i=j:=by omega
      subst this
      rw[hu]at g2;omega
     by_cases c:0<=B6 s.2.1 w/\B6 s.2.1 w<(j:Int)
     ·rw[if_pos c,if_pos (by omega)]
     ·rw[if_neg c,if_neg (by omega)]
  ·simp only[Ch]
   rw[if_neg (by simp)]
   unfold Gk
   congr 1
   refine List.map_congr_left λu _=>?_
   unfold FI
   by_cases hm:(u:Int)∈s.2.1
   ·obtain⟨i,hi,g1,_⟩:=DA hm
    rw[g1,if_pos (by omega),if_neg (by omega)]
   ·rw[Dm hm,if_neg (by omega),if_pos (by omega)]
end
end T
open Go Go.Va
namespace T
section
variable {a:Lin}
theorem FE (h:Hr a):Cz a=some (Dr a):=by
 have:=GV h
 unfold E4 at this
 have e:Cz (a.1,(a.2.1,a.2.2))=Cz a:=rfl
 rw[e]at this
 cases hg:Cz a with
 |none=>rw[hg]at this;cases this
 |some b=>rw[hg]at this;exact this
theorem Ht (h:Dr a=true):pr4 a.1/\ ∃V:Nat,a.2.1=(V:Int)/\V<=8/\a.2.2.length<=8/\ ∀r∈a.2.2,Aj a.1 (V+1) r:=by
 unfold Dr at h
 simp only[Bool.and_eq_true,decide_eq_true_eq,List.all_eq_true]at h
 obtain⟨⟨⟨h1,h2⟩,h3⟩,h4⟩:=h
 refine⟨by unfold Cp at h1;simp at h1;unfold pr4;omega,a.2.1.toNat,by omega,by omega,h3,λr hr=>?_⟩
 obtain⟨g1,g2⟩:=h4 r hr
 unfold Ay at g2
 exact⟨by omega,λx hx=>by simpa using List.all_eq_true.1 g2 x hx⟩
theorem EE {p:Int} {W V:Nat} (hp:pr4 p) (hV:V<=W) (hW:W<=1000) {rows:List (List Int)} (hr: ∀r∈rows,Aj p W r) (hN:rows.length<=100000):CI p (V:Int) rows=some (DP p V (Ad p rows V)):=Gv hp hV hW hr hN
theorem Hc (h:Hr a): ∃R:Int×Bool,BM a=some R/\CM a=some R:=by
 obtain⟨p,v,rows⟩:=a
 unfold BM CM
 rw[DX h,FE h]
 cases hg:Dr (p,v,rows)with
 |false=>exact⟨_,rfl,rfl⟩
 |true=>
  obtain⟨hp,V,hv,hV,hN,hr⟩:=Ht hg
  dsimp only at hp hv hN hr
  subst hv
  have hs:=AK hp hr V (by omega)
  unfold Bb D2
  have e1:=EE hp (show V<=V+1 by omega) (by omega) hr (by omega)
  have e2:=BE hp (show V<=V+1 by omega) (by omega) hr (by omega)
  have e3:=Ks hp hr V (by omega)
  simp only[e1,e2,Option.bind_some,Bool.not_true,Bool.false_eq_true,if_false]
  generalize Ad p rows V=s at hs e3
  have e4:=Iq hs (by omega) (by omega)
  have e5:=Ip hs (by omega) (by omega)
  have e5:C1 (s.1,(s.2.1,s.2.2)) (V:Int)=_:=e5
  have e6:=EW (p:=p) (V:=V) (s:=s) (by omega)
  have hpb:2<=p/\p<=7:=by unfold pr4 at hp;omega
  have e7:w64 ((V:Int)-(s.2.1.length:Int))=((Ap V s.2.1).length:Int):=by
   rw[AC (by omega) (by omega)];omega
  simp only[e4,e5,Option.bind_some]
  cases C2 V s with
  |true=>exact⟨_,rfl,rfl⟩
  |false=>
   simp only[Bool.false_eq_true,if_false,e6,Option.bind_some,e7,D9 (show 0<=p by omega) (show p<=8 by omega) (show(Ap V s.2.1).length<=20 by omega),F9 (show 0<=p by omega) (show p<=8 by omega) (show(Ap V s.2.1).length<=20 by omega)]
   exact⟨_,rfl,rfl⟩
end
end T
set_option linter.unusedVariables false
open Go Go.Va
namespace T
def BD:Nat->((Int×Int×(List (List Int)))×(Int×(Int×(List (List Int))))×(Unit×((List Int)×(List (List Int))))×(Int×(Int×(List (List Int))))×Int)->Option ((Int×(Int×(List (List Int))))×(Int×(Int×(List (List Int)))))
 |0,_=>none
 |n+1,(l,t2,w,out,i)=>
 if decide (i<(w.2.2.length:Int))then
 if inb i w.2.2 then
 if inb l.2.1 (gd w.2.2 i [])then
 if(gd (gd w.2.2 i []) l.2.1 0) !=0 then
 if inb i w.2.2 then
 if out.2.2.length+ [gd w.2.2 i []].length<=lim then
 BD n ((l.1,(l.2.1,l.2.2)),(t2.1,(t2.2.1,t2.2.2)),((),(w.2.1,w.2.2)),(out.1,(out.2.1,out.2.2++ [gd w.2.2 i []])),w64 (i+1))
 else none
 else none
 else
 BD n ((l.1,(l.2.1,l.2.2)),(t2.1,(t2.2.1,t2.2.2)),((),(w.2.1,w.2.2)),(out.1,(out.2.1,out.2.2)),w64 (i+1))
 else none
 else none
 else
 some ((t2.1,(t2.2.1,t2.2.2)),(out.1,(out.2.1,out.2.2)))
def FO (l:Int×Int×(List (List Int))):Option ((Int×(Int×(List (List Int))))×Bool):=
 (Cz (l.1,(l.2.1,l.2.2))).bind λr1=>
 if !r1 then
 some ((0,(0,[])),false)
 else
 (D2 (l.1,(l.2.1,l.2.2))).bind λr2=>
 (BD Aa ((l.1,(l.2.1,l.2.2)),(0,(0,[])),((),(r2.2.1,r2.2.2)),(l.1,(l.2.1,r2.1)),0)).bind λs3=>
 some ((s3.2.1,(s3.2.2.1,s3.2.2.2)),true)
def Bm:Nat->((Bool×Int×Int×(List (List Int))×Int×(List Int))×(Int×(Int×(List (List Int))))×(Int×(Int×(List (List Int))))×(List (List Int))×Int×Int)->Option ((Int×(Int×(List (List Int))))×(Int×(Int×(List (List Int)))))
 |0,_=>none
 |n+1,(e,t2,l,t33,t34,t35)=>
 if decide (t35<t34)then
 if inb t35 t33 then
 if e.1=true then
 if inb e.2.2.1 (gd t33 t35 [])then
 if(gd (gd t33 t35 []) e.2.2.1 0) !=0 then
 (CT (gd t33 t35 [])).bind λr2=>
 if l.2.2.length+ [r2].length<=lim then
 Bm n (e,(t2.1,(t2.2.1,t2.2.2)),(l.1,(l.2.1,l.2.2++ [r2])),t33,t34,w64 (t35+1))
 else none
 else
 Bm n (e,(t2.1,(t2.2.1,t2.2.2)),(l.1,(l.2.1,l.2.2)),t33,t34,w64 (t35+1))
 else none
 else none
 else none
 else
 some ((t2.1,(t2.2.1,t2.2.2)),(l.1,(l.2.1,l.2.2)))
def Er (e:Bool×Int×Int×(List (List Int))×Int×(List Int)):Option ((Int×(Int×(List (List Int))))):=
 if e.1=true then
 if e.1=true then
 if e.1=true then
 if e.1=true then
 if(0:Int)<=0/\0<=e.2.2.2.2.1/\e.2.2.2.2.1<=(e.2.2.2.1.length:Int)then
 (BT ((e.2.2.2.1.take (Int.toNat e.2.2.2.2.1)).drop (Int.toNat 0))).bind λr1=>
 if e.1=true then
 if e.1=true then
 if(0:Int)<=e.2.2.2.2.1/\e.2.2.2.2.1<=(e.2.2.2.1.length:Int)/\(e.2.2.2.1.length:Int)<=(e.2.2.2.1.length:Int)then
 (Bm Aa (e,(0,(0,[])),(e.2.1,(e.2.2.1,r1)),(e.2.2.2.1.take (Int.toNat (e.2.2.2.1.length:Int))).drop (Int.toNat e.2.2.2.2.1),(((e.2.2.2.1.take (Int.toNat (e.2.2.2.1.length:Int))).drop (Int.toNat e.2.2.2.2.1)).length:Int),0)).bind λs2=>
 some (s2.2.1,(s2.2.2.1,s2.2.2.2))
 else none
 else none
 else none
 else none
 else none
 else none
 else none
 else none
def Ah (l:Int×Int×(List (List Int))):Option ((Int×(Int×(List (List Int))))×Bool):=
 (D8 (l.1,(l.2.1,l.2.2))).bind λr1=>
 if !r1 then
 some ((0,(0,[])),false)
 else
 (Bb (l.1,(l.2.1,l.2.2))).bind λr2=>
 (Er r2).bind λr3=>
 some ((r3.1,(r3.2.1,r3.2.2)),true)
end T
open Go Go.Va
namespace T
section
variable {a:Lin} {p:Int} {W N V:Nat}
theorem FL {α:Type} {q:α->Bool} {l:List α} {x:α}:(l++ [x]).filter q=l.filter q++(if q x then [x]else []):=by
 rw[List.filter_append];congr 1;cases h:q x<;>simp[h]
theorem Iv {s:ES} (hs:ESok p W N V s) (hV:V<W) (hN:N<=100000) (hW:W<=1000):Er (DP p V s)=some (p,((V:Int),s.1++s.2.2.filter (nzB V))):=by
 obtain⟨t,b,l⟩:=s
 have hn:=hs.n
 dsimp only at hn
 generalize hE:DP p V (t,b,l)=E
 have h1:E.1=true:=by rw[←hE];rfl
 have h2:E.2.1=p:=by rw[←hE];rfl
 have h3:E.2.2.1=(V:Int):=by rw[←hE];rfl
 have h4:E.2.2.2.1=t++l:=by rw[←hE];rfl
 have h5:E.2.2.2.2.1=(t.length:Int):=by rw[←hE];rfl
 have e1:(((t++l).take (Int.toNat ((t++l).length:Int))).drop (Int.toNat (t.length:Int)))=l:=by rw[Int.toNat_natCast,Int.toNat_natCast,List.take_length];simp
 have e2:(((t++l).take (Int.toNat (t.length:Int))).drop (Int.toNat 0))=t:=by simp
 have l3:=BL l.length (λf (o:List (List Int)) i=>Bm f (E,(0,(0,[])),(p,((V:Int),o)),l,(l.length:Int),i)) (λk=>t++(l.take k).filter (nzB V)) (r:=some ((0,(0,[])),(p,((V:Int),t++l.filter (nzB V))))) (λf k hk=>?_) (λf=>?_) (n:=Aa) (by unfold Aa;omega)
 ·rw[List.take_zero,List.filter_nil,List.append_nil]at l3
  have l3:Bm Aa (E,(0,(0,[])),(p,((V:Int),t)),l,(l.length:Int),0)=_:=l3
  unfold Er
  simp only[h1,h2,h3,h4,h5,if_true,e1,e2]
  rw[if_pos ⟨by omega,by omega,by rw[List.length_append];omega⟩,Ey (by omega) λr h=>by have:=(hs.t r h).1;omega]
  simp only[Option.bind_some]
  rw[if_pos ⟨by omega,by rw[List.length_append];omega,by omega⟩,l3]
  rfl
 ·have hrk:=hs.l _ (List.getElem_mem hk)
  have hvl:V<l[k].length:=by rw[hrk.1];exact hV
  have hcl:CT l[k]=some l[k]:=by
   unfold CT
   rw[if_pos (by have:=hrk.1;simp;unfold lim;omega)];simp
  simp only[Bm,Ae,hk,Ak hk,h1,h3,hvl,Co,hcl,Option.bind_some,if_true,List.take_succ_eq_append_getElem hk,FL,Ac (show k<4611686018427387904 by omega)]
  rw[if_pos (by simp;omega)]
  have hfl:=List.length_filter_le (nzB V) (l.take k)
  rw[List.length_take]at hfl
  have hnz:nzB V l[k]=(l[k].getD V 0 !=0):=rfl
  rw[hnz]
  by_cases hz:l[k].getD V 0=0
  ·rw[if_neg (by simpa using hz),if_neg (by simpa using hz),List.append_nil]
  ·rw[if_pos (by simpa using hz),if_pos (by simp only[List.length_append,List.length_singleton];unfold lim;omega),if_pos (by simpa using hz),List.append_assoc]
 ·simp only[Bm,List.take_length]
  rw[if_neg (by simp)]
theorem Ig {s:ES} (hs:ESok p W N V s) (hV:V<W) (hN:N<=100000) (rows:List (List Int)):BD Aa ((p,((V:Int),rows)),(0,(0,[])),((),(s.2.1,s.2.2)),(p,((V:Int),s.1)),0)=some ((0,(0,[])),(p,((V:Int),s.1++s.2.2.filter (nzB V)))):=by
 obtain⟨t,b,l⟩:=s
 have hn:=hs.n
 dsimp only at hn⊢
 have l3:=BL l.length (λf (o:List (List Int)) i=>BD f ((p,((V:Int),rows)),(0,(0,[])),((),(b,l)),(p,((V:Int),o)),i)) (λk=>t++(l.take k).filter (nzB V)) (r:=some ((0,(0,[])),(p,((V:Int),t++l.filter (nzB V))))) (λf k hk=>?_) (λf=>?_) (n:=Aa) (by unfold Aa;omega)
 ·rw[List.take_zero,List.filter_nil,List.append_nil]at l3
  exact l3
 ·have hrk:=hs.l _ (List.getElem_mem hk)
  have hvl:V<l[k].length:=by rw[hrk.1];exact hV
  simp only[BD,Ae,hk,Ak hk,hvl,Co,if_true,List.take_succ_eq_append_getElem hk,FL,Ac (show k<4611686018427387904 by omega)]
  rw[if_pos (by simp;omega)]
  have hfl:=List.length_filter_le (nzB V) (l.take k)
  rw[List.length_take]at hfl
  have hnz:nzB V l[k]=(l[k].getD V 0 !=0):=rfl
  rw[hnz]
  by_cases hz:l[k].getD V 0=0
  ·rw[if_neg (by simpa using hz),if_neg (by simpa using hz),List.append_nil]
  ·rw[if_pos (by simpa using hz),if_pos (by simp only[List.length_append,List.length_singleton];unfold lim;omega),if_pos (by simpa using hz),List.append_assoc]
 ·simp only[BD,List.take_length]
  rw[if_neg (by simp)]
end
end T
set_option linter.unusedVariables false
open Go Go.Va
namespace T
def B3:Nat->(Int×Int×((List (List Int))×(List Int)×(List (List Int)))×(List (List Int))×(List Int)×Int×(List Int)×Int)->Option (Int×Int×((List (List Int))×(List Int)×(List (List Int)))×(List (List Int))×(List Int)×Int×(List Int))
 |0,_=>none
 |n+1,(p,vars,w,out,free,i,values,k)=>
 if decide (k<(w.2.1.length:Int))then
 if inb k w.2.1 then
 if inb k w.1 then
 if inb i free then
 if inb (gd free i 0) (gd w.1 k [])then
 if p≠0 then
 if inb (gd w.2.1 k 0) values then
 B3 n (p,vars,(w.1,(w.2.1,w.2.2)),out,free,i,stt values (gd w.2.1 k 0) (Int.tmod (w64 (p-(gd (gd w.1 k []) (gd free i 0) 0))) p),w64 (k+1))
 else none
 else none
 else none
 else none
 else none
 else none
 else
 some (p,vars,(w.1,(w.2.1,w.2.2)),out,free,i,values)
def B2:Nat->(Int×Int×((List (List Int))×(List Int)×(List (List Int)))×(List (List Int))×(List Int)×Int)->Option ((List (List Int)))
 |0,_=>none
 |n+1,(p,vars,w,out,free,i)=>
 if decide (i<(free.length:Int))then
 if 0<=vars/\vars<=vars/\vars<=lim then
 if inb i free then
 if inb (gd free i 0) (List.replicate (Int.toNat vars) (0:Int))then
 (B3 Aa (p,vars,(w.1,(w.2.1,w.2.2)),out,free,i,stt (List.replicate (Int.toNat vars) (0:Int)) (gd free i 0) 1,0)).bind λs2=>
 if s2.2.2.2.1.length+ [s2.2.2.2.2.2.2].length<=lim then
 B2 n (s2.1,s2.2.1,(s2.2.2.1.1,(s2.2.2.1.2.1,s2.2.2.1.2.2)),s2.2.2.2.1++ [s2.2.2.2.2.2.2],s2.2.2.2.2.1,w64 (s2.2.2.2.2.2.1+1))
 else none
 else none
 else none
 else none
 else
 some out
def CO (w:(List (List Int))×(List Int)×(List (List Int))) (p:Int) (vars:Int):Option ((List (List Int))):=
 (EC (w.1,(w.2.1,w.2.2)) vars).bind λr1=>
 (B2 Aa (p,vars,(w.1,(w.2.1,w.2.2)),[],r1,0)).bind λs2=>
 some s2
def CF:Nat->(Int×Int×(Int×(Int×((List (List Int))×(Int×(List Int)))))×Int×Int)->Option (Int×Int×(Int×(Int×((List (List Int))×(Int×(List Int)))))×Int×Int)
 |0,_=>none
 |n+1,(t0,t1,t7,t8,t9)=>
 if decide (t9<(t7.2.2.1.length:Int))then
 if inb t9 t7.2.2.1 then
 if inb t8 (gd t7.2.2.1 t9 [])then
 if(gd (gd t7.2.2.1 t9 []) t8 0)==0 then
 CF n (t0,t1,(t7.1,(t7.2.1,(t7.2.2.1,(t7.2.2.2.1,t7.2.2.2.2)))),t8,w64 (t9+1))
 else
 some (t0,t1,(t7.1,(t7.2.1,(t7.2.2.1,(t7.2.2.2.1,t7.2.2.2.2)))),t8,t9)
 else none
 else none
 else
 some (t0,t1,(t7.1,(t7.2.1,(t7.2.2.1,(t7.2.2.2.1,t7.2.2.2.2)))),t8,t9)
def Cv:Nat->(Int×Int×Int×(Int×(Int×((List (List Int))×(Int×(List Int)))))×Int×Int×Int×Int)->Option (Int×Int×Int×(Int×(Int×((List (List Int))×(Int×(List Int)))))×Int)
 |0,_=>none
 |n+1,(row10,t0,t1,t7,t8,t11,t110,t111)=>
 if decide (t111<t110)then
 if inb t111 (gd t7.2.2.1 row10 [])then
 if t0≠0 then
 if inb t111 (gd t7.2.2.1 row10 [])then
 Cv n (row10,t0,t1,(t7.1,(t7.2.1,(stt t7.2.2.1 row10 (stt (gd t7.2.2.1 row10 []) t111 (Int.tmod (w64 ((gd (gd t7.2.2.1 row10 []) t111 0)*t11)) t0)),(t7.2.2.2.1,t7.2.2.2.2)))),t8,t11,t110,w64 (t111+1))
 else none
 else none
 else none
 else
 some (row10,t0,t1,(t7.1,(t7.2.1,(t7.2.2.1,(t7.2.2.2.1,t7.2.2.2.2)))),t8)
def Cw:Nat->(Int×Int×Unit×Int×Int×(Int×(Int×((List (List Int))×(Int×(List Int)))))×Int×Int×Int×Int×Int×Int)->Option (Int×Unit×Int×Int×(Int×(Int×((List (List Int))×(Int×(List Int)))))×Int×Int×Int)
 |0,_=>none
 |n+1,(row10,row14,al129,t0,t1,t7,t8,t15,t130,t131,t151,t152)=>
 if decide (t152<t151)then
 if inb t152 (gd t7.2.2.1 row14 [])then
 if inb t152 (gd t7.2.2.1 row10 [])then
 if t0≠0 then
 if inb t152 (gd t7.2.2.1 row14 [])then
 Cw n (row10,row14,(),t0,t1,(t7.1,(t7.2.1,(stt t7.2.2.1 row14 (stt (gd t7.2.2.1 row14 []) t152 (Int.tmod (w64 ((gd (gd t7.2.2.1 row14 []) t152 0)+(w64 ((w64 (t0-t15))*(gd (gd t7.2.2.1 row10 []) t152 0))))) t0)),(t7.2.2.2.1,t7.2.2.2.2)))),t8,t15,t130,t131,t151,w64 (t152+1))
 else none
 else none
 else none
 else none
 else
 some (row10,(),t0,t1,(t7.1,(t7.2.1,(t7.2.2.1,(t7.2.2.2.1,t7.2.2.2.2)))),t8,t130,t131)
def Bq:Nat->(Int×Unit×Int×Int×(Int×(Int×((List (List Int))×(Int×(List Int)))))×Int×Int×Int)->Option (Int×Int×(Int×(Int×((List (List Int))×(Int×(List Int)))))×Int)
 |0,_=>none
 |n+1,(row10,al129,t0,t1,t7,t8,t130,t131)=>
 if decide (t131<t130)then
 if inb t131 t7.2.2.1 then
 if inb t8 (gd t7.2.2.1 t131 [])then
 if t131 !=t7.2.2.2.1 then
 if(gd (gd t7.2.2.1 t131 []) t8 0) !=0 then
 (Cw Aa (row10,t131,(),t0,t1,(t7.1,(t7.2.1,(t7.2.2.1,(t7.2.2.2.1,t7.2.2.2.2)))),t8,gd (gd t7.2.2.1 t131 []) t8 0,t130,t131,((gd t7.2.2.1 t131 []).length:Int),0)).bind λs6=>
 Bq n (s6.1,(),s6.2.2.1,s6.2.2.2.1,(s6.2.2.2.2.1.1,(s6.2.2.2.2.1.2.1,(s6.2.2.2.2.1.2.2.1,(s6.2.2.2.2.1.2.2.2.1,s6.2.2.2.2.1.2.2.2.2)))),s6.2.2.2.2.2.1,s6.2.2.2.2.2.2.1,w64 (s6.2.2.2.2.2.2.2+1))
 else
 Bq n (row10,(),t0,t1,(t7.1,(t7.2.1,(t7.2.2.1,(t7.2.2.2.1,t7.2.2.2.2)))),t8,t130,w64 (t131+1))
 else
 Bq n (row10,(),t0,t1,(t7.1,(t7.2.1,(t7.2.2.1,(t7.2.2.2.1,t7.2.2.2.2)))),t8,t130,w64 (t131+1))
 else none
 else none
 else
 some (t0,t1,(t7.1,(t7.2.1,(t7.2.2.1,(t7.2.2.2.1,t7.2.2.2.2)))),t8)
def B8:Nat->(Int×Int×(Int×(Int×((List (List Int))×(Int×(List Int)))))×Int)->Option ((Int×(Int×((List (List Int))×(Int×(List Int))))))
 |0,_=>none
 |n+1,(t0,t1,t7,t8)=>
 if decide (t8<t1)then
 (CF Aa (t0,t1,(t7.1,(t7.2.1,(t7.2.2.1,(t7.2.2.2.1,t7.2.2.2.2)))),t8,t7.2.2.2.1)).bind λs3=>
 if s3.2.2.2.2==(s3.2.2.1.2.2.1.length:Int)then
 B8 n (s3.1,s3.2.1,(s3.2.2.1.1,(s3.2.2.1.2.1,(s3.2.2.1.2.2.1,(s3.2.2.1.2.2.2.1,s3.2.2.1.2.2.2.2)))),w64 (s3.2.2.2.1+1))
 else
 if inb s3.2.2.2.2 s3.2.2.1.2.2.1 then
 if(0:Int)<=(w64 (s3.2.2.1.2.2.2.1+1))/\(w64 (s3.2.2.1.2.2.2.1+1))<=(w64 (s3.2.2.2.2+1))/\(w64 (s3.2.2.2.2+1))<=(s3.2.2.1.2.2.1.length:Int)then
 if(0:Int)<=s3.2.2.1.2.2.2.1/\s3.2.2.1.2.2.2.1<=s3.2.2.2.2/\s3.2.2.2.2<=(s3.2.2.1.2.2.1.length:Int)then
 if(w64 (s3.2.2.1.2.2.2.1+1))=s3.2.2.1.2.2.2.1+1/\(w64 (s3.2.2.2.2+1))=s3.2.2.2.2+1/\s3.2.2.2.2=s3.2.2.2.2 then
 if inb s3.2.2.1.2.2.2.1 (upL s3.2.2.1.2.2.1 (Int.toNat s3.2.2.1.2.2.2.1) (Int.toNat s3.2.2.2.2) [])then
 if s3.2.2.1.2.2.2.1=s3.2.2.1.2.2.2.1 then
 if inb s3.2.2.2.1 (gd (stt (upL s3.2.2.1.2.2.1 (Int.toNat s3.2.2.1.2.2.2.1) (Int.toNat s3.2.2.2.2) []) s3.2.2.1.2.2.2.1 (gd s3.2.2.1.2.2.1 s3.2.2.2.2 [])) s3.2.2.1.2.2.2.1 [])then
 (Da (gd (gd (stt (upL s3.2.2.1.2.2.1 (Int.toNat s3.2.2.1.2.2.2.1) (Int.toNat s3.2.2.2.2) []) s3.2.2.1.2.2.2.1 (gd s3.2.2.1.2.2.1 s3.2.2.2.2 [])) s3.2.2.1.2.2.2.1 []) s3.2.2.2.1 0) s3.1).bind λr4=>
 (Cv Aa (s3.2.2.1.2.2.2.1,s3.1,s3.2.1,(s3.2.2.1.1,(s3.2.2.1.2.1,(stt (upL s3.2.2.1.2.2.1 (Int.toNat s3.2.2.1.2.2.2.1) (Int.toNat s3.2.2.2.2) []) s3.2.2.1.2.2.2.1 (gd s3.2.2.1.2.2.1 s3.2.2.2.2 []),(s3.2.2.1.2.2.2.1,s3.2.2.1.2.2.2.2)))),s3.2.2.2.1,r4,((gd (stt (upL s3.2.2.1.2.2.1 (Int.toNat s3.2.2.1.2.2.2.1) (Int.toNat s3.2.2.2.2) []) s3.2.2.1.2.2.2.1 (gd s3.2.2.1.2.2.1 s3.2.2.2.2 [])) s3.2.2.1.2.2.2.1 []).length:Int),0)).bind λs5=>
 (Bq Aa (s5.1,(),s5.2.1,s5.2.2.1,(s5.2.2.2.1.1,(s5.2.2.2.1.2.1,(s5.2.2.2.1.2.2.1,(s5.2.2.2.1.2.2.2.1,s5.2.2.2.1.2.2.2.2)))),s5.2.2.2.2,(s5.2.2.2.1.2.2.1.length:Int),0)).bind λs6=>
 if inb s6.2.2.2 s6.2.2.1.2.2.2.2 then
 B8 n (s6.1,s6.2.1,(s6.2.2.1.1,(s6.2.2.1.2.1,(s6.2.2.1.2.2.1,(w64 (s6.2.2.1.2.2.2.1+1),stt s6.2.2.1.2.2.2.2 s6.2.2.2 s6.2.2.1.2.2.2.1)))),w64 (s6.2.2.2+1))
 else none
 else none
 else none
 else none
 else none
 else none
 else none
 else none
 else
 some (t7.1,(t7.2.1,(t7.2.2.1,(t7.2.2.2.1,t7.2.2.2.2))))
def Ce (t0:Int) (t1:Int) (t2:List (List Int)):Option ((Int×(Int×((List (List Int))×(Int×(List Int)))))):=
 (BT t2).bind λr1=>
 (C6 t1).bind λr2=>
 (B8 Aa (t0,t1,(t0,(t1,(r1,(0,r2)))),0)).bind λs3=>
 some (s3.1,(s3.2.1,(s3.2.2.1,(s3.2.2.2.1,s3.2.2.2.2))))
def AL:Nat->(Unit×(Int×(Int×((List (List Int))×(Int×(List Int)))))×Int×Int)->Option ((Int×(Int×((List (List Int))×(Int×(List Int))))))
 |0,_=>none
 |n+1,(al12,e,t13,t14)=>
 if decide (t14<t13)then
 if inb t14 e.2.2.1 then
 if inb e.2.1 (gd e.2.2.1 t14 [])then
 AL n ((),(e.1,(e.2.1,(stt e.2.2.1 t14 (stt (gd e.2.2.1 t14 []) e.2.1 0),(e.2.2.2.1,e.2.2.2.2)))),t13,w64 (t14+1))
 else none
 else none
 else
 some (e.1,(e.2.1,(e.2.2.1,(e.2.2.2.1,e.2.2.2.2))))
def AX:Nat->((Int×(Int×((List (List Int))×(Int×(List Int)))))×(List (List Int))×(List Int)×Int×Int)->Option ((Int×(Int×((List (List Int))×(Int×(List Int)))))×(List (List Int)))
 |0,_=>none
 |n+1,(e,list,free,t29,t30)=>
 if decide (t30<t29)then
 if 0<=(free.length:Int)/\(free.length:Int)<=(free.length:Int)/\(free.length:Int)<=lim then
 if inb t30 (List.replicate (Int.toNat (free.length:Int)) (0:Int))then
 (BS (e.1,(e.2.1,(e.2.2.1,(e.2.2.2.1,e.2.2.2.2)))) (stt (List.replicate (Int.toNat (free.length:Int)) (0:Int)) t30 1)).bind λr3=>
 if list.length+ [r3.2].length<=lim then
 AX n ((r3.1.1,(r3.1.2.1,(r3.1.2.2.1,(r3.1.2.2.2.1,r3.1.2.2.2.2)))),list++ [r3.2],free,t29,w64 (t30+1))
 else none
 else none
 else none
 else
 some ((e.1,(e.2.1,(e.2.2.1,(e.2.2.2.1,e.2.2.2.2)))),list)
def Cb (e:Int×(Int×((List (List Int))×(Int×(List Int))))):Option ((Int×(Int×((List (List Int))×(Int×(List Int)))))×(List (List Int))):=
 (AL Aa ((),(e.1,(e.2.1,(e.2.2.1,(e.2.2.2.1,e.2.2.2.2)))),(e.2.2.1.length:Int),0)).bind λs1=>
 (AY (s1.1,(s1.2.1,(s1.2.2.1,(s1.2.2.2.1,s1.2.2.2.2))))).bind λr2=>
 (AX Aa ((r2.1.1,(r2.1.2.1,(r2.1.2.2.1,(r2.1.2.2.2.1,r2.1.2.2.2.2)))),[],r2.2,(r2.2.length:Int),0)).bind λs3=>
 some ((s3.1.1,(s3.1.2.1,(s3.1.2.2.1,(s3.1.2.2.2.1,s3.1.2.2.2.2)))),s3.2)
end T
open Go Go.Va
namespace T
theorem Kk: ∀n x,CF n x=Bh n x
 |0,_=>rfl
 |n+1,x=>by obtain⟨t0,t1,t7,t8,t9⟩:=x;simp only[CF,Bh,Kk n]
theorem Ji: ∀n x,Cv n x=Bc n x
 |0,_=>rfl
 |n+1,x=>by obtain⟨a,t0,t1,t7,t8,t9,b,c⟩:=x;simp only[Cv,Bc,Ji n]
theorem Jk: ∀n x,Cw n x=Bd n x
 |0,_=>rfl
 |n+1,x=>by obtain⟨a,b,c,t0,t1,t7,t8,t9,d,e,f,g⟩:=x;simp only[Cw,Bd,Jk n]
theorem Jj: ∀n x,Bq n x=AN n x
 |0,_=>rfl
 |n+1,x=>by obtain⟨a,c,t0,t1,t7,t8,d,e⟩:=x;simp only[Bq,AN,Jj n,Jk]
theorem Kj: ∀n x,B8 n x=AW n x
 |0,_=>rfl
 |n+1,x=>by obtain⟨t0,t1,t7,t8⟩:=x;simp only[B8,AW,Kj n,Kk,Ji,Jj]
abbrev Bx:=Int×(Int×(List (List Int)×(Int×List Int)))
theorem Kl {p v:Int} {rows:List (List Int)} {q:Bx} (h:CI p v rows=some (true,q)):Ce p v rows=some q:=by
 unfold CI at h
 unfold Ce
 simp only[Kj]
 cases h1:BT rows with
 |none=>rw[h1]at h;cases h
 |some r1=>
  cases h2:C6 v with
  |none=>rw[h1,h2]at h;cases h
  |some r2=>
   rw[h1,h2]at h
   simp only[Option.bind_some]at h⊢
   cases h3:AW Aa (p,v,(p,(v,(r1,(0,r2)))),0)with
   |none=>rw[h3]at h;cases h
   |some s3=>rw[h3]at h;simp only[Option.bind_some,Option.some.injEq,Prod.mk.injEq,true_and]at h⊢;exact h
theorem JG {N:Nat} {b:List Int} {i j:Nat} (hi:i<(Ap N b).length) (hj:j<(Ap N b).length) (h:i≠j):(Ap N b)[i]≠(Ap N b)[j]:=by
 have hp:(Ap N b).Pairwise (· ≠ ·):=by
  unfold Ap
  rw[List.pairwise_map]
  refine List.Pairwise.imp (R:=λa b=>a<b) (λh=>by omega) (List.Pairwise.filter _ List.pairwise_lt_range)
 rcases Nat.lt_or_ge i j with h1|h1
 ·exact List.pairwise_iff_getElem.1 hp i j hi hj h1
 ·exact λe=>List.pairwise_iff_getElem.1 hp j i hj hi (by omega) e.symm
theorem JH {N:Nat} {b:List Int} {x:Int} (h:x∈Ap N b):x∉b:=by
 unfold Ap at h
 obtain⟨u,hu,rfl⟩:=List.mem_map.1 h
 have:=(List.mem_filter.1 hu).2
 simpa using this
section
variable {a:Lin} {p:Int} {W N V:Nat}
def CL (p:Int) (s:ES) (f u:Nat):Int:=if B6 s.2.1 u<0 then(if u=f then 1 else 0)else Int.tmod (p-(s.1.getD (B6 s.2.1 u).toNat []).getD f 0) p
def Ds (p:Int) (V:Nat) (s:ES) (f:Nat):List Int:=(List.range V).map (CL p s f)
def G2 (m i:Nat):List Int:=(List.replicate m (0:Int)).set i 1
theorem IF {m i:Nat}:(G2 m i).length=m:=by simp[G2]
theorem K0 {m i k:Nat} (hk:k<m):(G2 m i).getD k 0=if k=i then 1 else 0:=by
 rw[Ab (by rw[IF];exact hk)]
 unfold G2
 rw[List.getElem_set]
 by_cases e:i=k
 ·rw[if_pos e,if_pos e.symm]
 ·rw[if_neg e,if_neg (λh=>e h.symm)];simp
def GK (V:Nat) (R:List (List Int)):List (List Int):=R.map λr=>r.set V 0
def DS (p:Int) (V:Nat) (s:ES):Bx:=(p,((V:Int),(s.1++s.2.2,((s.1.length:Int),BK V s.2.1))))
def Ec (p:Int) (V:Nat) (s:ES):Bx:=(p,((V:Int),(GK V (s.1++s.2.2),((s.1.length:Int),BK V s.2.1))))
theorem LY {s:ES} (hs:ESok p W N V s) (hV:V<W) (hN:N<=100000):AL Aa ((),DS p V s,((s.1++s.2.2).length:Int),0)=some (Ec p V s):=by
 have hn:=hs.n
 have hlen:(s.1++s.2.2).length=N:=by rw[List.length_append];exact hn
 have hrow: ∀k,k<(s.1++s.2.2).length->Aj p W ((s.1++s.2.2).getD k []):=λk hk=>by
  have hm:(s.1++s.2.2).getD k []∈s.1++s.2.2:=by rw[Ab hk];exact List.getElem_mem hk
  rcases List.mem_append.1 hm with h|h
  ·exact hs.t _ h
  ·exact hs.l _ h
 unfold DS Ec GK
 generalize s.1++s.2.2=R at*
 have:=BL R.length (λf o i=>AL f ((),(p,((V:Int),(o,((s.1.length:Int),BK V s.2.1)))),(R.length:Int),i)) (λk=>mix (λk=>(R.getD k []).set V 0) (λk=>R.getD k []) R.length k) (r:=some (p,((V:Int),(R.map λr=>r.set V 0,((s.1.length:Int),BK V s.2.1))))) (λf k hk=>?_) (λf=>?_) (n:=Aa) (by unfold Aa;omega)
 ·rw[Fh rfl]at this;exact this
 ·have hml:(mix (λk=>(R.getD k []).set V 0) (λk=>R.getD k []) R.length k).length=R.length:=CG
  have hin:k<(mix (λk=>(R.getD k []).set V 0) (λk=>R.getD k []) R.length k).length:=by omega
  have hg:(mix (λk=>(R.getD k []).set V 0) (λk=>R.getD k []) R.length k).getD k []=R.getD k []:=by rw[Fw hk,if_neg (by omega)]
  have hvl:V<(R.getD k []).length:=by rw[(hrow k hk).1];exact hV
  have hst:=EA (nw:=λk=>(R.getD k []).set V 0) (old:=λk=>R.getD k []) hk
  simp only[AL,Ae,hin,Co,hg,hvl,BA,hst,if_true,Ac (show k<4611686018427387904 by omega)]
  rw[if_pos (by simp;omega)]
 ·simp only[AL,Ee]
  rw[if_neg (by simp),Gh (λr:List Int=>r.set V 0)]
theorem Ir {q:Int×List (List Int)×Int} {b:List Int} (hV:V<=1000):AY (p,(q.1,(q.2.1,(q.2.2,BK V b))))=some ((p,(q.1,(q.2.1,(q.2.2,BK V b)))),Ap V b):=by
 unfold AY
 have:=BL V (λf o i=>Az f ((),(p,(q.1,(q.2.1,(q.2.2,BK V b)))),o,(V:Int),i)) (λk=>Ap k b) (r:=some ((p,(q.1,(q.2.1,(q.2.2,BK V b)))),Ap V b)) (λf k hk=>?_) (λf=>?_) (n:=Aa) (by unfold Aa;omega)
 ·have this:Az Aa ((),(p,(q.1,(q.2.1,(q.2.2,BK V b)))),[],(V:Int),0)=_:=this
  dsimp only
  rw[C3,this];rfl
 ·have hl:k<(BK V b).length:=by rw[C3];exact hk
  have hle:=Cu (N:=k) (b:=b)
  simp only[Az,Ae,hl,Co,Gs hk,if_true,Ac (show k<4611686018427387904 by omega),EK]
  rw[if_pos (by simp;omega)]
  by_cases hm:(k:Int)∈b
  ·rw[if_neg (by rw[decide_eq_true_iff,Ca];exact λh=>h hm),if_pos hm,List.append_nil]
  ·rw[if_pos (by rw[decide_eq_true_iff,Ca];exact hm),if_neg hm,if_pos (by simp;unfold lim;omega)]
 ·simp only[Az]
  rw[if_neg (by simp)]
theorem LB (hp:pr4 p) {s:ES} (hs:ESok p W N V s) (hV:V<W) (hN:N<=100000) (hW:W<=1000) {i f:Nat} (hi:i<(Ap V s.2.1).length) (hf:(Ap V s.2.1)[i]=(f:Int)):BS (Ec p V s) (G2 (Ap V s.2.1).length i)=some (Ec p V s,Ds p V s f):=by
 have hp0:p≠0:=by unfold pr4 at hp;omega
 have hpb:2<=p/\p<=7:=by unfold pr4 at hp;omega
 obtain⟨t,b,l⟩:=s
 have hn:=hs.n
 have hbl:=hs.bl
 dsimp only at hn hbl hi hf⊢
 have hFl:(Ap V b).length<=V:=Cu
 have hFm: ∀k (hk:k<(Ap V b).length),∃u:Nat,u<V/\(Ap V b)[k]=(u:Int):=λk hk=>EF (b:=b) (List.getElem_mem hk)
 have hFi: ∀k (hk:k<(Ap V b).length),k≠i->(Ap V b)[k]≠(f:Int):=λk hk e=>by rw[←hf];exact JG hk hi e
 have hfV:f<V:=by obtain⟨u,h1,h2⟩:=hFm i hi;omega
 have hfr:AY (Ec p V (t,b,l))=some (Ec p V (t,b,l),Ap V b):=Ir (q:=((V:Int),(GK V (t++l),(t.length:Int)))) (by omega)
 generalize Ap V b=F at*
 have hzl:(GK V (t++l)).length=t.length+l.length:=by simp[GK]
 have hzg: ∀k,k<t.length->(GK V (t++l)).getD k []=(t.getD k []).set V 0:=λk hk=>by
  rw[Ab (by omega),Ab hk]
  unfold GK
  rw[List.getElem_map,List.getElem_append_left hk]
 unfold Ec at*
 dsimp only at*
 generalize hZ:GK V (t++l)=Z at*
 have hul:(G2 F.length i).length=F.length:=IF
 have hug: ∀k,k<F.length->(G2 F.length i).getD k 0=if k=i then 1 else 0:=λk hk=>K0 hk
 generalize G2 F.length i=U at*
 have l4:=BL F.length (λf' o j=>AP f' ((),(p,((V:Int),(Z,((t.length:Int),BK V b)))),U,o,F,(F.length:Int),j)) (λk=>(List.range V).map λu=>if i<k/\u=f then(1:Int)else 0) (r:=some ((p,((V:Int),(Z,((t.length:Int),BK V b)))),U,(List.range V).map λu=>if u=f then(1:Int)else 0,F)) (λf' k hk=>?_) (λf'=>?_) (n:=Aa) (by unfold Aa;omega)
 ·have e0:((List.range V).map λu=>if i<0/\u=f then(1:Int)else 0)=List.replicate V (0:Int):=by
   apply List.ext_getElem
   ·simp
   ·intro j _ _;simp
  rw[e0]at l4
  have l4:AP Aa ((),(p,((V:Int),(Z,((t.length:Int),BK V b)))),U,List.replicate V (0:Int),F,(F.length:Int),0)=_:=l4
  have l14: ∀(out:List Int) (v q:Nat),q<t.length->AM Aa ((),(),(p,((V:Int),(Z,((t.length:Int),BK V b)))),U,out,F,(v:Int),(q:Int),0,(V:Int),(v:Int),(F.length:Int),0)=some ((),(p,((V:Int),(Z,((t.length:Int),BK V b)))),U,out,F,(v:Int),p-(t.getD q []).getD f 0,(V:Int),(v:Int)):=by
   intro out v q hq
   have hrow:Aj p W (t.getD q []):=by rw[Ab hq];exact hs.t _ (List.getElem_mem hq)
   have hx:=BB hrow (show f<W by omega)
   have key:=BL F.length (λf' x j=>AM f' ((),(),(p,((V:Int),(Z,((t.length:Int),BK V b)))),U,out,F,(v:Int),(q:Int),x,(V:Int),(v:Int),(F.length:Int),j)) (λk=>if i<k then p-(t.getD q []).getD f 0 else 0) (r:=some ((),(p,((V:Int),(Z,((t.length:Int),BK V b)))),U,out,F,(v:Int),p-(t.getD q []).getD f 0,(V:Int),(v:Int))) (λf' k hk=>?_) (λf'=>?_) (n:=Aa) (by unfold Aa;omega)
   ·rw[if_neg (by omega)]at key;exact key
   ·obtain⟨u,hu,e⟩:=hFm k hk
    have hqz:q<Z.length:=by omega
    have hul2:u<(Z.getD q []).length:=by rw[hzg q hq,List.length_set,hrow.1];omega
    have hgu:(Z.getD q []).getD u 0=(t.getD q []).getD u 0:=by
     rw[hzg q hq,List.getD_eq_getElem?_getD,List.getElem?_set_ne (by omega),←List.getD_eq_getElem?_getD]
    have hku:k<U.length:=by omega
    have hxu:=BB hrow (show u<W by omega)
    simp only[AM,Ae,hk,Ak hk,e,hqz,hul2,hku,Co,hgu,hug k hk,if_true,Ac (show k<4611686018427387904 by omega)]
    rw[if_pos (by simp;omega)]
    congr 1
    by_cases c:k=i
    ·have huf:u=f:=by subst c;omega
     subst huf
     rw[if_neg (show¬i<k by omega),if_pos c,if_pos (show i<k+1 by omega),Int.mul_one,AC (x:=p-(t.getD q []).getD u 0) (by omega) (by omega),AC (x:=p-(t.getD q []).getD u 0) (by omega) (by omega),Int.zero_add,AC (x:=p-(t.getD q []).getD u 0) (by omega) (by omega)]
    ·rw[if_neg c,Int.mul_zero,AC (x:=0) (by omega) (by omega),Int.add_zero]
     by_cases c2:i<k
     ·rw[if_pos c2,if_pos (show i<k+1 by omega),AC (x:=p-(t.getD q []).getD f 0) (by omega) (by omega)]
     ·rw[if_neg c2,if_neg (show¬i<k+1 by omega),AC (x:=0) (by omega) (by omega)]
   ·simp only[AM]
    rw[if_neg (by simp),if_pos hi]
  have l9:=BL V (λf' (o:List Int) j=>AA f' ((),(p,((V:Int),(Z,((t.length:Int),BK V b)))),U,o,F,(V:Int),j)) (λv=>mix (CL p (t,b,l) f) (λu=>if u=f then 1 else 0) V v) (r:=some ((p,((V:Int),(Z,((t.length:Int),BK V b)))),Ds p V (t,b,l) f)) (λf' v hv=>?_) (λf'=>?_) (n:=Aa) (by unfold Aa;omega)
  ·have e1:mix (CL p (t,b,l) f) (λu=>if u=f then 1 else 0) V 0=(List.range V).map λu=>if u=f then(1:Int)else 0:=by
    unfold mix;refine List.map_congr_left λq _=>?_;rw[if_neg (by omega)]
   rw[e1]at l9
   have l9:AA Aa ((),(p,((V:Int),(Z,((t.length:Int),BK V b)))),U,(List.range V).map λu=>if u=f then(1:Int)else 0,F,(V:Int),0)=_:=l9
   unfold BS
   rw[if_pos (by unfold lim;dsimp only;omega),hfr]
   simp only[Option.bind_some,Int.toNat_natCast,l4,C3,l9]
  ·have hvl:v<(BK V b).length:=by rw[C3];exact hv
   simp only[AA,Ae,hvl,Co,Gs hv,if_true]
   rw[if_pos (by simp;omega)]
   by_cases hm:(v:Int)∈b
   ·obtain⟨q,hq,g1,_⟩:=DA hm
    have hqt:q<t.length:=by omega
    have hqz:q<Z.length:=by omega
    have hrow:Aj p W (t.getD q []):=by rw[Ab hqt];exact hs.t _ (List.getElem_mem hqt)
    have hVl:V<(Z.getD q []).length:=by rw[hzg q hqt,List.length_set,hrow.1];exact hV
    have hV0:(Z.getD q []).getD V 0=0:=by
     rw[hzg q hqt,List.getD_eq_getElem?_getD,List.getElem?_set_self (by rw[hrow.1];exact hV)];rfl
    have hml:v<(mix (CL p (t,b,l) f) (λu=>if u=f then 1 else 0) V v).length:=by rw[CG];exact hv
    have hsv:CL p (t,b,l) f v=Int.tmod (p-(t.getD q []).getD f 0) p:=by
     unfold CL;dsimp only;rw[g1,if_neg (by omega),Int.toNat_natCast]
    have hst:=EA (nw:=CL p (t,b,l) f) (old:=λu=>if u=f then(1:Int)else 0) hv
    rw[hsv]at hst
    rw[g1,if_neg (by simp)]
    simp only[Ae,hqz,Co,hVl,if_true,hV0]
    rw[l14 _ v q hqt]
    simp only[Option.bind_some,Ae,hml,if_true,BA,Ac (show v<4611686018427387904 by omega)]
    rw[if_pos hp0,hst]
   ·rw[if_pos (by rw[decide_eq_true_iff,Ca];exact hm),Hu hv (by unfold CL;dsimp only;rw[if_pos (Ca.2 hm)]),Ac (show v<4611686018427387904 by omega)]
  ·simp only[AA,Ee]
   rw[if_neg (by simp)];rfl
 ·obtain⟨u,hu,e⟩:=hFm k hk
  have hku:k<U.length:=by omega
  have hu2:u<((List.range V).map λu=>if i<k/\u=f then(1:Int)else 0).length:=by simp;omega
  simp only[AP,Ae,hk,Ak hk,e,hku,hu2,Co,hug k hk,BA,if_true,Ac (show k<4611686018427387904 by omega)]
  rw[if_pos (by simp;omega)]
  congr 1
  refine congrArg (λo=>((),(p,((V:Int),(Z,((t.length:Int),BK V b)))),U,o,F,(F.length:Int),((k+1:Nat):Int))) ?_
  apply List.ext_getElem
  ·simp
  ·intro w h1 h2
   rw[List.getElem_set]
   simp only[List.getElem_map,List.getElem_range]
   by_cases c:k=i
   ·have huf:u=f:=by subst c;omega
    subst huf
    rw[if_pos c]
    by_cases cw:u=w
    ·rw[if_pos cw,if_pos ⟨by omega,cw.symm⟩]
    ·rw[if_neg cw,if_neg (λh=>cw h.2.symm),if_neg (λh=>cw h.2.symm)]
   ·have hne:=hFi k hk c
    rw[if_neg c]
    by_cases cw:u=w
    ·rw[if_pos cw,if_neg (λh=>by omega)]
    ·rw[if_neg cw]
     by_cases c2:i<k/\w=f
     ·rw[if_pos c2,if_pos ⟨by omega,c2.2⟩]
     ·rw[if_neg c2,if_neg (λh=>c2 ⟨by omega,h.2⟩)]
 ·simp only[AP]
  rw[if_neg (by simp)]
  congr 1
  refine congrArg (λo=>((p,((V:Int),(Z,((t.length:Int),BK V b)))),U,o,F)) ?_
  refine List.map_congr_left λu _=>?_
  by_cases c:u=f
  ·rw[if_pos ⟨hi,c⟩,if_pos c]
  ·rw[if_neg (λh=>c h.2),if_neg c]
end
end T
open Go Go.Va
namespace T
section
variable {a:Lin} {p:Int} {W N V:Nat}
def Bu (p:Int) (V:Nat) (s:ES):List (List Int):=(Ap V s.2.1).map λf=>Ds p V s f.toNat
theorem LZ (hp:pr4 p) {s:ES} (hs:ESok p W N V s) (hV:V<W) (hN:N<=100000) (hW:W<=1000):Cb (DS p V s)=some (Ec p V s,Bu p V s):=by
 have hFl:(Ap V s.2.1).length<=V:=Cu
 have hsol:=λi f hi hf=>LB (i:=i) (f:=f) hp hs hV hN hW hi hf
 have h2:=LY hs hV hN
 have h2:AL Aa ((),((DS p V s).1,((DS p V s).2.1,((DS p V s).2.2.1,((DS p V s).2.2.2.1,(DS p V s).2.2.2.2)))),((DS p V s).2.2.1.length:Int),0)=_:=h2
 have hfr:AY ((Ec p V s).1,((Ec p V s).2.1,((Ec p V s).2.2.1,((Ec p V s).2.2.2.1,(Ec p V s).2.2.2.2))))=some (Ec p V s,Ap V s.2.1):=Ir (q:=((V:Int),(GK V (s.1++s.2.2),(s.1.length:Int)))) (by omega)
 have hFm: ∀k (hk:k<(Ap V s.2.1).length),∃u:Nat,u<V/\(Ap V s.2.1)[k]=(u:Int):=λk hk=>EF (b:=s.2.1) (List.getElem_mem hk)
 unfold Cb Bu
 rw[h2]
 simp only[Option.bind_some,hfr]
 generalize Ap V s.2.1=F at*
 have l9:=BL F.length (λf o i=>AX f (Ec p V s,o,F,(F.length:Int),i)) (λk=>(F.take k).map λf=>Ds p V s f.toNat) (r:=some (Ec p V s,F.map λf=>Ds p V s f.toNat)) (λf k hk=>?_) (λf=>?_) (n:=Aa) (by unfold Aa;omega)
 ·have l9:AX Aa (((Ec p V s).1,((Ec p V s).2.1,((Ec p V s).2.2.1,((Ec p V s).2.2.2.1,(Ec p V s).2.2.2.2)))),[],F,(F.length:Int),0)=_:=l9
  rw[l9];rfl
 ·obtain⟨u,hu,e⟩:=hFm k hk
  have h3:=hsol k u hk e
  have h3:BS ((Ec p V s).1,((Ec p V s).2.1,((Ec p V s).2.2.1,((Ec p V s).2.2.2.1,(Ec p V s).2.2.2.2)))) ((List.replicate F.length (0:Int)).set k 1)=_:=h3
  have hkr:k<(List.replicate F.length (0:Int)).length:=by rw[List.length_replicate];exact hk
  simp only[AX,Int.toNat_natCast,Ae,hkr,BA,h3,Option.bind_some,if_true,Ac (show k<4611686018427387904 by omega),List.take_succ_eq_append_getElem hk,List.map_append,List.map_cons,List.map_nil,e]
  rw[if_pos (by simp;omega),if_pos (by unfold lim;omega),if_pos (by simp;unfold lim;omega)]
 ·simp only[AX,List.take_length]
  rw[if_neg (by simp)]
theorem Iz (hp:pr4 p) {s:ES} (hs:ESok p W N V s) (hV:V<W) (hN:N<=100000) (hW:W<=1000) {F:List Int} {i f:Nat} (hi:i<F.length) (hf:F[i]=(f:Int)) (hfV:f<V) (hfb:(f:Int)∉s.2.1) (out:List (List Int)):
  B3 Aa (p,(V:Int),(s.1,(s.2.1,s.2.2)),out,F,(i:Int),(List.replicate V (0:Int)).set f 1,0)=some (p,(V:Int),(s.1,(s.2.1,s.2.2)),out,F,(i:Int),Ds p V s f):=by
 have hp0:p≠0:=by unfold pr4 at hp;omega
 have hpb:2<=p/\p<=7:=by unfold pr4 at hp;omega
 have hbl:=hs.bl
 have hn:=hs.n
 have l8:=BL s.2.1.length (λg (o:List Int) k=>B3 g (p,(V:Int),(s.1,(s.2.1,s.2.2)),out,F,(i:Int),o,k)) (λk=>(List.range V).map λu=>if 0<=B6 s.2.1 u/\B6 s.2.1 u<(k:Int)then Int.tmod (p-(s.1.getD (B6 s.2.1 u).toNat []).getD f 0) p else if u=f then 1 else 0) (r:=some (p,(V:Int),(s.1,(s.2.1,s.2.2)),out,F,(i:Int),Ds p V s f)) (λg k hk=>?_) (λg=>?_) (n:=Aa) (by unfold Aa;omega)
 ·have e0:((List.range V).map λu=>if 0<=B6 s.2.1 u/\B6 s.2.1 u<((0:Nat):Int)then Int.tmod (p-(s.1.getD (B6 s.2.1 u).toNat []).getD f 0) p else if u=f then 1 else 0)=(List.replicate V (0:Int)).set f 1:=by
   apply List.ext_getElem
   ·simp
   ·intro w h1 h2
    rw[List.getElem_set]
    simp only[List.getElem_map,List.getElem_range,List.getElem_replicate]
    rw[if_neg (by omega)]
    by_cases c:f=w
    ·rw[if_pos c,if_pos c.symm]
    ·rw[if_neg c,if_neg (λh=>c h.symm)]
  rw[e0]at l8
  exact l8
 ·have hbv:=hs.bv _ (List.getElem_mem hk)
  obtain⟨u,hu⟩: ∃u:Nat,s.2.1[k]=(u:Int):=⟨s.2.1[k].toNat,by omega⟩
  have hpu:=FX hs.bn hk hu
  have hk1:k<s.1.length:=by omega
  have hrow:Aj p W (s.1.getD k []):=by rw[Ab hk1];exact hs.t _ (List.getElem_mem hk1)
  have hfl:f<(s.1.getD k []).length:=by rw[hrow.1];omega
  have hx:=BB hrow (show f<W by omega)
  have huV:u<V:=by omega
  simp only[B3,Ae,hk,hk1,hi,Ak hk,Ak hi,hu,hf,Co,hfl,if_true,BA,AC (x:=p-(s.1.getD k []).getD f 0) (by omega) (by omega),Ac (show k<4611686018427387904 by omega)]
  rw[if_pos (by simp;omega),if_pos hp0,if_pos (by simp;omega)]
  congr 1
  refine congrArg (λo=>(p,(V:Int),(s.1,(s.2.1,s.2.2)),out,F,(i:Int),o,((k+1:Nat):Int))) ?_
  apply List.ext_getElem
  ·simp
  ·intro w h1 h2
   rw[List.getElem_set]
   simp only[List.getElem_map,List.getElem_range]
   by_cases e:u=w
   ·subst e
    rw[if_pos rfl,hpu,if_pos (by omega),Int.toNat_natCast]
   ·rw[if_neg e]
    have hne:B6 s.2.1 w≠(k:Int):=λh=>by
     have hm:(w:Int)∈s.2.1:=by
      by_cases hm:(w:Int)∈s.2.1
      ·exact hm
      ·rw[Dm hm]at h;omega
     obtain⟨j,hj,g1,g2⟩:=DA hm
     have:j=k:=by omega
     subst this
     rw[hu]at g2;omega
    by_cases c:0<=B6 s.2.1 w/\B6 s.2.1 w<(k:Int)
    ·rw[if_pos c,if_pos (show 0<=B6 s.2.1 w/\B6 s.2.1 w<((k+1:Nat):Int) by omega)]
    ·rw[if_neg c,if_neg (show¬(0<=B6 s.2.1 w/\B6 s.2.1 w<((k+1:Nat):Int)) by omega)]
 ·simp only[B3]
  rw[if_neg (by simp)]
  unfold Ds
  congr 1
  refine congrArg (λo=>(p,(V:Int),(s.1,(s.2.1,s.2.2)),out,F,(i:Int),o)) ?_
  refine List.map_congr_left λu _=>?_
  unfold CL
  by_cases hm:(u:Int)∈s.2.1
  ·obtain⟨j,hj,g1,_⟩:=DA hm
   rw[g1,if_pos (by omega),if_neg (by omega)]
  ·rw[Dm hm,if_neg (show¬(0<=(-1:Int)/\(-1:Int)<(s.2.1.length:Int)) by omega),if_pos (show(-1:Int)<0 by omega)]
theorem G0 (hp:pr4 p) {s:ES} (hs:ESok p W N V s) (hV:V<W) (hN:N<=100000) (hW:W<=1000):CO s p (V:Int)=some (Bu p V s):=by
 have hFl:(Ap V s.2.1).length<=V:=Cu
 have hFm: ∀k (hk:k<(Ap V s.2.1).length),(∃u:Nat,u<V/\(Ap V s.2.1)[k]=(u:Int))/\(Ap V s.2.1)[k]∉s.2.1:=λk hk=>⟨EF (b:=s.2.1) (List.getElem_mem hk),JH (List.getElem_mem hk)⟩
 have hfr:=Lg hs hN (by omega)
 have hfr:EC (s.1,(s.2.1,s.2.2)) (V:Int)=_:=hfr
 unfold CO Bu
 rw[hfr]
 simp only[Option.bind_some]
 generalize Ap V s.2.1=F at*
 have l3:=BL F.length (λf o i=>B2 f (p,(V:Int),(s.1,(s.2.1,s.2.2)),o,F,i)) (λk=>(F.take k).map λf=>Ds p V s f.toNat) (r:=some (F.map λf=>Ds p V s f.toNat)) (λf k hk=>?_) (λf=>?_) (n:=Aa) (by unfold Aa;omega)
 ·have l3:B2 Aa (p,(V:Int),(s.1,(s.2.1,s.2.2)),[],F,0)=_:=l3
  rw[l3];rfl
 ·obtain⟨⟨u,hu,e⟩,hnb⟩:=hFm k hk
  rw[e]at hnb
  have hur:u<(List.replicate V (0:Int)).length:=by simp;omega
  have h8:=Iz hp hs hV hN hW hk e hu hnb ((F.take k).map λf=>Ds p V s f.toNat)
  simp only[B2,Int.toNat_natCast,Ae,hk,Ak hk,e,hur,BA,h8,Option.bind_some,if_true,Ac (show k<4611686018427387904 by omega),List.take_succ_eq_append_getElem hk,List.map_append,List.map_cons,List.map_nil]
  rw[if_pos (by simp;omega),if_pos (by unfold lim;omega),if_pos (by simp;unfold lim;omega)]
 ·simp only[B2,List.take_length]
  rw[if_neg (by simp)]
end
end T
open Go Go.Va
namespace T
def cg (p a b:Int):Prop:= ∃k,a=b+p*k
section
variable {p a b c d:Int}
theorem BC (h:a=b):cg p a b:=⟨0,by rw[h];simp⟩
theorem Dy (h:cg p a b):cg p b a:=by obtain⟨k,h⟩:=h;exact⟨-k,by grind⟩
theorem AQ (h:cg p a b) (g:cg p b c):cg p a c:=by obtain⟨k,h⟩:=h;obtain⟨m,g⟩:=g;exact⟨k+m,by grind⟩
theorem DD (h:cg p a b) (g:cg p c d):cg p (a+c) (b+d):=by obtain⟨k,h⟩:=h;obtain⟨m,g⟩:=g;exact⟨k+m,by grind⟩
theorem FK (x:Int) (h:cg p a b):cg p (x*a) (x*b):=by obtain⟨k,h⟩:=h;exact⟨x*k,by grind⟩
theorem FW (x:Int) (h:cg p a b):cg p (a*x) (b*x):=by obtain⟨k,h⟩:=h;exact⟨x*k,by grind⟩
theorem H3 {x:Int} (h0:0<=x):cg p (Int.tmod x p) x:=by
 rw[Int.tmod_eq_emod_of_nonneg h0]
 have:=Int.emod_add_mul_ediv x p
 exact⟨-(x/p),by grind⟩
theorem Je (h:cg p a b) (ha:0<=a/\a<p) (hb:0<=b/\b<p):a=b:=by
 obtain⟨k,h⟩:=h
 have h1:=Int.emod_eq_of_lt ha.1 ha.2
 have h2:=Int.emod_eq_of_lt hb.1 hb.2
 rw[h,Int.add_mul_emod_self_left,h2]at h1
 rw[h1]at h2⊢
 omega
end
inductive Sp (p:Int) (V:Nat) (A:List (List Int)):(Nat->Int)->Prop
 |zero:Sp p V A λ_=>0
 |add {f:Nat->Int} (r:List Int) (c:Int):r∈A->Sp p V A f->Sp p V A λi=>f i+c*r.getD i 0
 |cgr {f g:Nat->Int}:Sp p V A f->(∀i,i<V->cg p (g i) (f i))->Sp p V A g
section
variable {p:Int} {V W N:Nat} {A B:List (List Int)} {f g:Nat->Int}
theorem Sp.lin (hf:Sp p V A f) (hg:Sp p V A g) (c:Int):Sp p V A λi=>f i+c*g i:=by
 induction hg with
 |zero=>exact hf.cgr λi _=>BC (by simp)
 |add r d hr _ ih=>exact(ih.add r (c*d) hr).cgr λi _=>BC (by grind)
 |cgr _ h ih=>exact ih.cgr λi hi=>DD (BC rfl) (FK c (h i hi))
theorem Sp.mem {r:List Int} (h:r∈A):Sp p V A λi=>r.getD i 0:=(Sp.add r 1 h .zero).cgr λi _=>BC (by simp)
theorem Sp.sub (h: ∀r∈A,Sp p V B λi=>r.getD i 0) (hf:Sp p V A f):Sp p V B f:=by
 induction hf with
 |zero=>exact .zero
 |add r c hr _ ih=>exact ih.lin (h r hr) c
 |cgr _ h ih=>exact ih.cgr h
def eqSp (p:Int) (V:Nat) (A B:List (List Int)):Prop:= ∀f,Sp p V A f↔Sp p V B f
theorem G6 (h: ∀r∈A,Sp p V B λi=>r.getD i 0) (g: ∀r∈B,Sp p V A λi=>r.getD i 0):eqSp p V A B:=λ_=>⟨Sp.sub h,Sp.sub g⟩
theorem Hq {row r:List Int} {v i:Nat} (h:i<r.length):(AJ p row v r).getD i 0=Int.tmod (r.getD i 0+(p-r.getD v 0)*row.getD i 0) p:=by
 rw[Ab (by unfold AJ;simp;exact h)];simp[AJ]
theorem GT {r:List Int} {b:Int} {i:Nat} (h:i<r.length):(AH p b r).getD i 0=Int.tmod (r.getD i 0*b) p:=by
 rw[Ab (by unfold AH;simp;exact h)];simp[AH]
theorem Jm (hp:pr4 p) {row r:List Int} {v i:Nat} (h:Aj p W r) (hr:Aj p W row) (hv:v<W) (hi:i<W):cg p ((AJ p row v r).getD i 0) (r.getD i 0+(p-r.getD v 0)*row.getD i 0):=by
 rw[Hq (by rw[h.1];exact hi)]
 have h1:=BB h hi
 have h2:=BB hr hi
 have h3:=BB h hv
 have:=Int.mul_nonneg (show 0<=p-r.getD v 0 by omega) h2.1
 exact H3 (by omega)
theorem Hx {r:List Int} {b:Int} {i:Nat} (h:Aj p W r) (hb:0<=b) (hi:i<W):cg p ((AH p b r).getD i 0) (r.getD i 0*b):=by
 rw[GT (by rw[h.1];exact hi)]
 exact H3 (Int.mul_nonneg (BB h hi).1 hb)
theorem Ll: ∀p:Fin 8,∀x:Fin 8,(p.val=2∨p.val=3∨p.val=5∨p.val=7)->0<x.val->x.val<p.val->Int.tmod ((x.val:Int)*DT (p.val:Int) (x.val:Int)) (p.val:Int)=1:=by decide+kernel
theorem Lk {x:Int} (hp:pr4 p) (h0:0<x) (h1:x<p):Int.tmod (x*DT p x) p=1:=by
 unfold pr4 at hp
 have:=Ll ⟨p.toNat,by omega⟩ ⟨x.toNat,by omega⟩ (by simp;omega) (by simp;omega) (by simp;omega)
 simp only[Int.toNat_of_nonneg (show 0<=p by omega),Int.toNat_of_nonneg (show 0<=x by omega)]at this
 exact this
def Gz (p:Int) (s:ES) (v:Nat):List Int:=AH p (DT p ((s.2.2.getD (s.2.2.findIdx (nzB v)) []).getD v 0)) (s.2.2.getD (s.2.2.findIdx (nzB v)) [])
theorem GM {s:ES} {v:Nat} (hc:s.2.2.findIdx (nzB v)<s.2.2.length):CV p s v=(s.1.map (AJ p (Gz p s v) v)++ [Gz p s v],s.2.1++ [(v:Int)],(s.2.2.eraseIdx (s.2.2.findIdx (nzB v))).map (AJ p (Gz p s v) v)):=by
 unfold CV Gz;dsimp only;rw[if_pos hc]
theorem GL {s:ES} {v:Nat} (hc: ¬s.2.2.findIdx (nzB v)<s.2.2.length):CV p s v=s:=by
 unfold CV;dsimp only;rw[if_neg hc]
theorem KM (hp:pr4 p) {s:ES} {v:Nat} (hs:ESok p W N v s) (hv:v<W) (hc:s.2.2.findIdx (nzB v)<s.2.2.length):
  Aj p W (Gz p s v)/\(Gz p s v).getD v 0=1/\(∀V,Sp p V (s.1++s.2.2) λi=>if i<W then(Gz p s v).getD i 0 else(Gz p s v).getD i 0)/\ ∃x∈s.2.2,∃b,0<=b/\b<p/\Gz p s v=AH p b x/\Aj p W x/\x=s.2.2.getD (s.2.2.findIdx (nzB v)) []:=by
 obtain⟨f1,f2,f3⟩:=G8 hc hs.l hv
 obtain⟨_,_,i2,i3⟩:=Ia hp f1 f2
 have hm:s.2.2.getD (s.2.2.findIdx (nzB v)) []∈s.2.2:=by rw[Ab hc];exact List.getElem_mem hc
 have him:=Lk hp f1 f2
 unfold Gz
 generalize s.2.2.getD (s.2.2.findIdx (nzB v)) []=x at*
 generalize DT p (x.getD v 0)=I at*
 refine⟨GE hp f3 ⟨by omega,i3⟩,?_,λV=>?_,x,hm,I,by omega,i3,rfl,f3,rfl⟩
 ·rw[GT (by rw[f3.1];exact hv)];exact him
 ·have h1:Sp p V (s.1++s.2.2) λi=>0+I*x.getD i 0:=Sp.add x I (List.mem_append_right _ hm) .zero
  refine h1.cgr λi hi=>?_
  simp only[ite_self]
  by_cases h:i<W
  ·exact AQ (Hx f3 (by omega) h) (BC (by grind))
  ·have e1:(AH p I x).getD i 0=0:=by rw[List.getD_eq_getElem?_getD,List.getElem?_eq_none (by unfold AH;simp;rw[f3.1];omega)];rfl
   have e2:x.getD i 0=0:=by rw[List.getD_eq_getElem?_getD,List.getElem?_eq_none (by rw[f3.1];omega)];rfl
   rw[e1,e2];exact BC (by simp)
theorem LF (hp:pr4 p) {s:ES} {v:Nat} (hs:ESok p W N v s) (hv:v<W) (hVW:V<=W):eqSp p V (s.1++s.2.2) ((CV p s v).1++(CV p s v).2.2):=by
 by_cases hc:s.2.2.findIdx (nzB v)<s.2.2.length
 ·obtain⟨o1,o2,o3,x,hx,b,hb0,hb1,o4,o5,o6⟩:=KM hp hs hv hc
  rw[GM hc]
  have hrow:=o3 V
  simp only[ite_self]at hrow
  generalize hP:Gz p s v=P at*
  have hless: ∀r,Aj p W r->Sp p V (s.1++s.2.2) (λi=>r.getD i 0)->Sp p V (s.1++s.2.2) λi=>(AJ p P v r).getD i 0:=λr hr hsp=>(hsp.lin hrow (p-r.getD v 0)).cgr λi hi=>Jm hp hr o1 hv (by omega)
  have hokm: ∀r∈s.1++s.2.2,Aj p W r:=λr hr=>by
   rcases List.mem_append.1 hr with h|h
   ·exact hs.t r h
   ·exact hs.l r h
  refine G6 (λr hr=>?_) (λr hr=>?_)
  ·have hP2:Sp p V ((s.1.map (AJ p P v)++ [P])++(s.2.2.eraseIdx (s.2.2.findIdx (nzB v))).map (AJ p P v)) λi=>P.getD i 0:=Sp.mem (by simp)
   have back: ∀r,Aj p W r->AJ p P v r∈(s.1.map (AJ p P v)++ [P])++(s.2.2.eraseIdx (s.2.2.findIdx (nzB v))).map (AJ p P v)->Sp p V ((s.1.map (AJ p P v)++ [P])++(s.2.2.eraseIdx (s.2.2.findIdx (nzB v))).map (AJ p P v)) λi=>r.getD i 0:=λr hr hm=>by
    refine((Sp.mem hm).lin hP2 (r.getD v 0-p)).cgr λi hi=>?_
    have:=Jm hp hr o1 hv (show i<W by omega)
    exact Dy (AQ (DD this (BC rfl)) (BC (by grind)))
   rcases List.mem_append.1 hr with h|h
   ·exact back r (hs.t r h) (List.mem_append_left _ (List.mem_append_left _ (List.mem_map_of_mem h)))
   ·by_cases e:r=x
    ·
     subst e
     refine(Sp.add P (r.getD v 0) (by simp) .zero).cgr λi hi=>?_
     have h1:=Hx (b:=b) o5 hb0 (show i<W by omega)
     have h2:=Hx (b:=b) o5 hb0 hv
     rw[←o4]at h1 h2
     rw[o2]at h2
     obtain⟨k,h1⟩:=h1
     obtain⟨m,h2⟩:=h2
     exact⟨r.getD i 0*m-r.getD v 0*k,by grind⟩
    ·have hme:r∈s.2.2.eraseIdx (s.2.2.findIdx (nzB v)):=by
      obtain⟨j,hj,rfl⟩:=List.getElem_of_mem h
      rw[List.mem_eraseIdx_iff_getElem]
      refine⟨j,hj,?_,rfl⟩
      intro ej
      apply e
      rw[o6,Ab hc]
      simp only[ej]
     exact back r (hs.l r h) (List.mem_append_right _ (List.mem_map_of_mem hme))
  ·rcases List.mem_append.1 hr with h|h
   ·rcases List.mem_append.1 h with h|h
    ·obtain⟨q,hq,rfl⟩:=List.mem_map.1 h
     exact hless q (hs.t q hq) (Sp.mem (List.mem_append_left _ hq))
    ·rw[List.mem_singleton.1 h];exact hrow
   ·obtain⟨q,hq,rfl⟩:=List.mem_map.1 h
    have hq2:=List.mem_of_mem_eraseIdx hq
    exact hless q (hs.l q hq2) (Sp.mem (List.mem_append_right _ hq2))
 ·rw[GL hc];exact λ_=>Iff.rfl
theorem Fu (hp:pr4 p) (hr: ∀r∈A,Aj p W r) (hVW:V<=W): ∀v,v<=W->eqSp p V A ((Ad p A v).1++(Ad p A v).2.2):=by
 intro v
 induction v with
 |zero=>intro _;exact λ_=>Iff.rfl
 |succ v ih=>
  intro hv
  have hok:=AK hp hr v (by omega)
  have hnx:Ad p A (v+1)=CV p (Ad p A v) v:=by unfold Ad;rw[DG]
  rw[hnx]
  exact λf=>(ih (by omega) f).trans (LF hp hok (by omega) hVW f)
end
end T
