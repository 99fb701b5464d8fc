/- Plain lemmas on the typed functions of the program, and the plain law of FnExactLinearSolutions; no conditions. -/
import Derived.Test.YtbfbcfnbcbdgjacV1
import Derived.Test.YtbfbcfnbcbdgjacV5
import Derived.KernelRfl
set_option linter.all false
namespace Go.Va
theorem Ea (x:Int):w64 x=(x+9223372036854775808)%18446744073709551616-9223372036854775808:=by
 simp[w64,IntKind.wrap,IntKind.bits,IntKind.signed]
 split<;>omega
theorem A7 {x:Int} (h1: -9223372036854775808<=x) (h2:x<=9223372036854775807):w64 x=x:=by
 rw[Ea];omega
theorem Ab {k:Nat} (h:k<4611686018427387904):w64 ((k:Int)+1)=((k+1:Nat):Int):=by
 rw[A7 (by omega) (by omega)];rfl
theorem Ac {α:Type} {k:Nat} {xs:List α}:inb (k:Int) xs↔k<xs.length:=by
 unfold inb;omega
theorem Ay {α:Type} {k:Nat} {xs:List α} {d:α} (h:k<xs.length):gd xs (k:Int) d=xs[k]:=by
 unfold gd;simp[h]
theorem AT {α:Type} {k:Nat} {xs:List α} {x:α}:stt xs (k:Int) x=xs.set k x:=by
 unfold stt;simp
def D7 {α σ β:Type} (step:σ->α->Option (σ⊕β)) (fin:σ->Option β):List α->σ->Option β
 | [],s=>fin s
 |a::l,s=>match step s a with|some (.inl s')=>D7 step fin l s'|some (.inr r)=>some r|none=>none
theorem F7 {α σ β:Type} (xs:List α) (L:Nat->σ->Int->Option β) (step:σ->α->Option (σ⊕β)) (fin:σ->Option β)
  (hs: ∀n s (k:Nat) (hk:k<xs.length),L (n+1) s k=match step s xs[k]with|some (.inl s')=>L n s' ((k+1:Nat):Int)|some (.inr r)=>some r|none=>none)
  (he: ∀n s,L (n+1) s (xs.length:Nat)=fin s): ∀(n k:Nat) (s:σ),k<=xs.length->xs.length-k<n->L n s k=D7 step fin (xs.drop k) s:=by
 intro n
 induction n with
 |zero=>intro k s _ h;omega
 |succ n ih=>
  intro k s hk hn
  rcases Nat.lt_or_ge k xs.length with hlt|hge
  ·rw[hs n s k hlt,List.drop_eq_getElem_cons hlt]
   simp only[D7]
   cases step s xs[k]with
   |none=>rfl
   |some q=>
    cases q with
    |inl s'=>exact ih (k+1) s' hlt (by omega)
    |inr r=>rfl
  ·have:k=xs.length:=by omega
   subst this
   rw[he,List.drop_length];rfl
theorem Fb {α σ β:Type} (xs:List α) (L:Nat->σ->Int->Option β) (step:σ->α->Option (σ⊕β)) (fin:σ->Option β)
  (hs: ∀n s (k:Nat) (hk:k<xs.length),L (n+1) s k=match step s xs[k]with|some (.inl s')=>L n s' ((k+1:Nat):Int)|some (.inr r)=>some r|none=>none)
  (he: ∀n s,L (n+1) s (xs.length:Nat)=fin s) {n:Nat} (hn:xs.length<n) (s:σ):L n s 0=D7 step fin xs s:=by
 have:=F7 xs L step fin hs he n 0 s (Nat.zero_le _) (by omega)
 simpa using this
theorem Ek {α β:Type} {p:α->Bool} {step:Unit->α->Option (Unit⊕β)} {fin:Unit->Option β} {r:β}: ∀ {l:List α},(∀a∈l,step () a=if p a then some (.inl ())else some (.inr r))->D7 step fin l ()=if l.all p then fin ()else some r
 | [],_=>rfl
 |a::l,h=>by
  simp only[D7]
  rw[h a (by simp)]
  cases hp:p a with
  |true=>simp only[if_true,List.all_cons,hp,Bool.true_and];exact Ek λb hb=>h b (List.mem_cons_of_mem _ hb)
  |false=>simp[List.all_cons,hp]
theorem F5 {α β γ:Type} (xs:List α) (L:Nat->List β->Int->Option γ) (g:α->β) (fin:List β->Option γ)
  (hs: ∀n (out:List β) (k:Nat) (hk:k<xs.length),out.length=xs.length->L (n+1) out k=L n (out.set k (g xs[k])) ((k+1:Nat):Int))
  (he: ∀n out,out.length=xs.length->L (n+1) out (xs.length:Nat)=fin out): ∀(n k:Nat) (out:List β),out.length=xs.length->k<=xs.length->xs.length-k<n->L n out k=fin (out.take k++(xs.drop k).map g):=by
 intro n
 induction n with
 |zero=>intro k out _ _ h;omega
 |succ n ih=>
  intro k out hl hk hn
  rcases Nat.lt_or_ge k xs.length with hlt|hge
  ·have:(out.set k (g xs[k])).take (k+1)=out.take k++ [g xs[k]]:=by
    rw[List.take_succ_eq_append_getElem (by simp;omega),List.take_set_of_le (Nat.le_refl _),List.getElem_set_self]
   rw[hs n out k hlt hl,ih (k+1) _ (by simpa using hl) hlt (by omega),List.drop_eq_getElem_cons hlt,this,List.map_cons,List.append_assoc,List.singleton_append]
  ·have:k=xs.length:=by omega
   subst this
   rw[he _ _ hl,List.drop_length,List.take_of_length_le (by omega)];simp
theorem E0 {α β γ:Type} (xs:List α) (L:Nat->List β->Int->Option γ) (g:α->β) (fin:List β->Option γ)
  (hs: ∀n (out:List β) (k:Nat) (hk:k<xs.length),out.length=xs.length->L (n+1) out k=L n (out.set k (g xs[k])) ((k+1:Nat):Int))
  (he: ∀n out,out.length=xs.length->L (n+1) out (xs.length:Nat)=fin out) {n:Nat} {out:List β} (hl:out.length=xs.length) (hn:xs.length<n):L n out 0=fin (xs.map g):=by
 have:=F5 xs L g fin hs he n 0 out hl (Nat.zero_le _) (by omega)
 simpa using this
theorem eqX {α:Type} [DecidableEq α] (a b:List α) (hl:a.length=b.length) (L:Nat->Int->Option (Unit⊕Bool))
  (hs: ∀n (k:Nat) (h1:k<a.length) (h2:k<b.length),L (n+1) k=if a[k]=b[k]then L n ((k+1:Nat):Int)else some (.inr false)) (he: ∀n,L (n+1) (a.length:Nat)=some (.inl ())) {n:Nat} (hn:a.length<n):
  L n 0=some (if a=b then .inl ()else .inr false):=by
 have key: ∀(n k:Nat),k<=a.length->a.length-k<n->L n k=some (if a.drop k=b.drop k then .inl ()else .inr false):=by
  intro n
  induction n with
  |zero=>intro k _ h;omega
  |succ n ih=>
   intro k hk hn
   rcases Nat.lt_or_ge k a.length with hlt|hge
   ·have h2:k<b.length:=by omega
    have e:(a.drop k=b.drop k)↔(a[k]=b[k]/\a.drop (k+1)=b.drop (k+1)):=by
     rw[List.drop_eq_getElem_cons hlt,List.drop_eq_getElem_cons h2];exact List.cons_eq_cons
    rw[hs n k hlt h2]
    by_cases h:a[k]=b[k]
    ·rw[if_pos h,ih (k+1) hlt (by omega)]
     by_cases h3:a.drop (k+1)=b.drop (k+1)
     ·rw[if_pos h3,if_pos (e.2 ⟨h,h3⟩)]
     ·rw[if_neg h3,if_neg λh'=>h3 (e.1 h').2]
    ·rw[if_neg h,if_neg λh'=>h (e.1 h').1]
   ·have:k=a.length:=by omega
    subst this
    rw[he,List.drop_length,hl,List.drop_length];rfl
 have:=key n 0 (Nat.zero_le _) (by omega)
 simpa using this
theorem Es {α β:Type} (xs:List α) (L:Nat->Int->Option β) (p:α->Bool) (r e:β)
  (hs: ∀n (k:Nat) (hk:k<xs.length),L (n+1) k=if p xs[k]then L n ((k+1:Nat):Int)else some r) (he: ∀n,L (n+1) (xs.length:Nat)=some e) {n:Nat} (hn:xs.length<n):
  L n 0=some (if xs.all p then e else r):=by
 have:=Fb xs (λn (_:Unit) i=>L n i) (λ_ a=>if p a then some (.inl ())else some (.inr r)) (λ_=>some e) (λn s k hk=>by rw[hs n k hk];cases p xs[k]<;>simp) (λn s=>he n) hn ()
 rw[this,Ek (p:=p) (r:=r) λa _=>by cases p a<;>simp]
 cases xs.all p<;>simp
theorem BZ {σ β:Type} (N:Nat) (L:Nat->σ->Int->Option β) (S:Nat->σ) {r:Option β}
  (hs: ∀n (k:Nat),k<N->L (n+1) (S k) k=L n (S (k+1)) ((k+1:Nat):Int)) (he: ∀n,L (n+1) (S N) (N:Nat)=r) {n:Nat} (hn:N<n):L n (S 0) 0=r:=by
 have key: ∀(n k:Nat),k<=N->N-k<n->L n (S k) k=r:=by
  intro n
  induction n with
  |zero=>intro k _ h;omega
  |succ n ih=>
   intro k hk hn
   rcases Nat.lt_or_ge k N with hlt|hge
   ·rw[hs n k hlt];exact ih (k+1) hlt (by omega)
   ·have:k=N:=by omega
    subst this;exact he n
 exact key n 0 (Nat.zero_le _) (by omega)
def szR (t:Nat) (left:Int):Int:=if(t:Int)<=left then left-t else-1
end Go.Va
set_option linter.unusedVariables false
open Go Go.Va
namespace T
def Aa:Nat:=1099511627776
def BJ (a:List Int) (left:Int):Option (Int):=
 if decide ((w64 (left-(a.length:Int)))<0)then
 some (-1)
 else
 some (w64 (left-(a.length:Int)))
def Bl:Nat->((List (List Int))×Int×Int)->Option ((Int)⊕(Int))
 |0,_=>none
 |n+1,(a,left,i)=>
 if decide (i<(a.length:Int))then
 if inb i a then
 (BJ (gd a i []) left).bind λr1=>
 if decide (r1<0)then
 some (.inr (-1))
 else
 Bl n (a,r1,w64 (i+1))
 else none
 else
 some (.inl left)
def Cz (a:List (List Int)) (left:Int):Option (Int):=
 if decide ((w64 (left-(a.length:Int)))<0)then
  some (-1)
 else
  (Bl Aa (a,w64 (left-(a.length:Int)),0)).bind λs1=>
   match s1 with
   | .inl s2=>
    some s2
   | .inr s3=>
    some s3
def Cm (a:Int×Int×(List (List Int))) (left:Int):Option (Int):=
 (Cz a.2.2 left).bind λr1=>
 if decide (r1<0)then
 some (-1)
 else
 some r1
def Bz:Nat->((List Int)×(List Int)×Int)->Option ((List Int))
 |0,_=>none
 |n+1,(a,out,i)=>
 if decide (i<(a.length:Int))then
 if inb i a then
 if inb i out then
 Bz n (a,stt out i (gd a i 0),w64 (i+1))
 else none
 else none
 else
 some out
def CP (a:List Int):Option ((List Int)):=
 if 0<=(a.length:Int)/\(a.length:Int)<=(a.length:Int)/\(a.length:Int)<=lim then
 (Bz Aa (a,List.replicate (Int.toNat (a.length:Int)) (0:Int),0)).bind λs1=>
 some s1
 else none
def Bm:Nat->((List (List Int))×(List (List Int))×Int)->Option ((List (List Int)))
 |0,_=>none
 |n+1,(a,out,i)=>
 if decide (i<(a.length:Int))then
 if inb i a then
 (CP (gd a i [])).bind λr1=>
 if inb i out then
 Bm n (a,stt out i r1,w64 (i+1))
 else none
 else none
 else
 some out
def CA (a:List (List Int)):Option ((List (List Int))):=
 if 0<=(a.length:Int)/\(a.length:Int)<=(a.length:Int)/\(a.length:Int)<=lim then
 (Bm Aa (a,List.replicate (Int.toNat (a.length:Int)) ([]:List Int),0)).bind λs1=>
 some s1
 else none
def Bp (a:Int×Int×(List (List Int))):Option ((Int×(Int×(List (List Int))))):=
 (CA a.2.2).bind λr1=>
 some (a.1,(a.2.1,r1))
def Cr (p:Int):Option (Bool):=
 if p==2 then
 some true
 else
 if p==3 then
 some true
 else
 if p==5 then
 some true
 else
 some (p==7)
def CY (x:Int) (a:Int) (b:Int):Option (Bool):=
 if decide (x≥a)then
 some (decide (x<=b))
 else
 some false
def AZ:Nat->(Int×(List Int)×Int)->Option ((Unit)⊕(Bool))
 |0,_=>none
 |n+1,(n_,list,i)=>
 if decide (i<(list.length:Int))then
 if inb i list then
 (CY (gd list i 0) 0 (w64 (n_-1))).bind λr1=>
 if !r1 then
 some (.inr false)
 else
 AZ n (n_,list,w64 (i+1))
 else none
 else
 some (.inl ())
def B3 (n_:Int) (list:List Int):Option (Bool):=
 (AZ Aa (n_,list,0)).bind λs1=>
  match s1 with
  | .inl s2=>
   some true
  | .inr s3=>
   some s3
def CG (n_:Int) (k:Int) (t:List Int):Option (Bool):=
 if(t.length:Int)==k then
 (B3 n_ t).bind λr1=>
 some r1
 else
 some false
def Bn:Nat->(Int×Int×(List (List Int))×Int)->Option ((Unit)⊕(Bool))
 |0,_=>none
 |n+1,(p,vars,rows,i)=>
 if decide (i<(rows.length:Int))then
 if inb i rows then
 (CG p (w64 (vars+1)) (gd rows i [])).bind λr1=>
 if !r1 then
 some (.inr false)
 else
 Bn n (p,vars,rows,w64 (i+1))
 else none
 else
 some (.inl ())
def CF (p:Int) (vars:Int) (rows:List (List Int)):Option (Bool):=
 (Bn Aa (p,vars,rows,0)).bind λs1=>
  match s1 with
  | .inl s2=>
   some true
  | .inr s3=>
   some s3
def Bi (l:Int×Int×(List (List Int))):Option (Bool):=
 (Cr l.1).bind λr1=>
 if r1 then
 (CY l.2.1 0 8).bind λr2=>
 if r2 then
 if decide ((l.2.2.length:Int)<=8)then
 (CF l.1 l.2.1 l.2.2).bind λr3=>
 some r3
 else
 some false
 else
 some false
 else
 some false
def Cq (l:Int×Int×(List (List Int))):Option (Bool):=
 (Bi (l.1,(l.2.1,l.2.2))).bind λr1=>
 some r1
def Cy (p:Int):Option (Bool):=
 if p==2 then
 some true
 else
 if p==3 then
 some true
 else
 if p==5 then
 some true
 else
 some (p==7)
def Bx:Nat->(Int×(List Int)×Int×Int)->Option ((Unit)⊕(Bool))
 |0,_=>none
 |n+1,(n_,t7,t8,t9)=>
 if decide (t9<t8)then
 if inb t9 t7 then
 if decide ((gd t7 t9 0)<0)then
 some (.inr false)
 else
 if decide ((gd t7 t9 0)≥n_)then
 some (.inr false)
 else
 Bx n (n_,t7,t8,w64 (t9+1))
 else none
 else
 some (.inl ())
def CN (list:List Int) (n_:Int):Option (Bool):=
 (Bx Aa (n_,list,(list.length:Int),0)).bind λs1=>
  match s1 with
  | .inl s2=>
   some true
  | .inr s3=>
   some s3
def Bc:Nat->((Int×Int×(List (List Int)))×(List (List Int))×Int×Int)->Option ((Unit)⊕(Bool))
 |0,_=>none
 |n+1,(l,t26,t27,t28)=>
 if decide (t28<t27)then
 if inb t28 t26 then
 if((gd t26 t28 []).length:Int) !=(w64 (l.2.1+1))then
 some (.inr false)
 else
 (CN (gd t26 t28 []) l.1).bind λr2=>
 if !r2 then
 some (.inr false)
 else
 Bc n ((l.1,(l.2.1,l.2.2)),t26,t27,w64 (t28+1))
 else none
 else
 some (.inl ())
def Ch (l:Int×Int×(List (List Int))):Option (Bool):=
 (Cy l.1).bind λr1=>
  if !r1 then
   some false
  else
   if decide (l.2.1<0)then
    some false
   else
    if decide (l.2.1>8)then
     some false
    else
     if decide ((l.2.2.length:Int)>8)then
      some false
     else
      (Bc Aa ((l.1,(l.2.1,l.2.2)),l.2.2,(l.2.2.length:Int),0)).bind λs2=>
       match s2 with
       | .inl s3=>
        some true
       | .inr s4=>
        some s4
def By:Nat->((List Int)×(List Int)×Int)->Option ((Unit)⊕(Bool))
 |0,_=>none
 |n+1,(a,b,i)=>
 if decide (i<(a.length:Int))then
 if inb i a then
 if inb i b then
 if(gd a i 0) !=(gd b i 0)then
 some (.inr false)
 else
 By n (a,b,w64 (i+1))
 else none
 else none
 else
 some (.inl ())
def CO (a:List Int) (b:List Int):Option (Bool):=
 if(a.length:Int) !=(b.length:Int)then
  some false
 else
  (By Aa (a,b,0)).bind λs1=>
   match s1 with
   | .inl s2=>
    some true
   | .inr s3=>
    some s3
def Bk:Nat->((List (List Int))×(List (List Int))×Int)->Option ((Unit)⊕(Bool))
 |0,_=>none
 |n+1,(a,b,i)=>
 if decide (i<(a.length:Int))then
 if inb i a then
 if inb i b then
 (CO (gd a i []) (gd b i [])).bind λr1=>
 if !r1 then
 some (.inr false)
 else
 Bk n (a,b,w64 (i+1))
 else none
 else none
 else
 some (.inl ())
def BD (a:List (List Int)) (b:List (List Int)):Option (Bool):=
 if(a.length:Int) !=(b.length:Int)then
  some false
 else
  (Bk Aa (a,b,0)).bind λs1=>
   match s1 with
   | .inl s2=>
    some true
   | .inr s3=>
    some s3
def Ck (a:Int×Int×(List (List Int))) (b:Int×Int×(List (List Int))):Option (Bool):=
 if a.1 !=b.1 then
 some false
 else
 if a.2.1 !=b.2.1 then
 some false
 else
 (BD a.2.2 b.2.2).bind λr1=>
 if !r1 then
 some false
 else
 some true
def BY:Nat->(Int×Int×Int)->Option (Int)
 |0,_=>none
 |n+1,(n_,k,out)=>
 if decide (k>0)then
 BY n (n_,w64 (k-1),w64 (out*n_))
 else
 some out
def Da (n_:Int) (k:Int):Option (Int):=
 (BY Aa (n_,k,1)).bind λs1=>
 some s1
def BC:Nat->((List Int)×(List Int)×Int)->Option ((Unit)⊕(Bool))
 |0,_=>none
 |n+1,(a,b,i)=>
 if decide (i<(a.length:Int))then
 if inb i a then
 if inb i b then
 if(gd a i 0) !=(gd b i 0)then
 if inb i a then
 if inb i b then
 some (.inr (decide ((gd a i 0)<(gd b i 0))))
 else none
 else none
 else
 BC n (a,b,w64 (i+1))
 else none
 else none
 else
 some (.inl ())
def Dp (a:List Int) (b:List Int):Option (Bool):=
 (BC Aa (a,b,0)).bind λs1=>
  match s1 with
  | .inl s2=>
   some false
  | .inr s3=>
   some s3
def Ax:Nat->(Int×(List Int)×(List Int)×Int×(List Int)×Int)->Option ((List Int))
 |0,_=>none
 |n+1,(p,row,De,by_,out,i)=>
 if decide (i<(row.length:Int))then
 if inb i row then
 if inb i De then
 if p≠0 then
 if out.length+ [Int.tmod (w64 ((gd row i 0)+(w64 ((w64 (p-by_))*(gd De i 0))))) p].length<=lim then
 Ax n (p,row,De,by_,out++ [Int.tmod (w64 ((gd row i 0)+(w64 ((w64 (p-by_))*(gd De i 0))))) p],w64 (i+1))
 else none
 else none
 else none
 else none
 else
 some out
def Bb (p:Int) (row:List Int) (De:List Int) (by_:Int):Option ((List Int)):=
 (Ax Aa (p,row,De,by_,[],0)).bind λs1=>
 some s1
def BA:Nat->((List Int)×(List Int)×Int)->Option ((Unit)⊕(Bool))
 |0,_=>none
 |n+1,(a,b,i)=>
 if decide (i<(a.length:Int))then
 if inb i a then
 if inb i b then
 if(gd a i 0) !=(gd b i 0)then
 some (.inr false)
 else
 BA n (a,b,w64 (i+1))
 else none
 else none
 else
 some (.inl ())
def CR (a:List Int) (b:List Int):Option (Bool):=
 if(a.length:Int) !=(b.length:Int)then
  some false
 else
  (BA Aa (a,b,0)).bind λs1=>
   match s1 with
   | .inl s2=>
    some true
   | .inr s3=>
    some s3
def Bh:Nat->((List (List Int))×(List Int)×Int×Int)->Option ((List (List Int))×(List Int)×Int)
 |0,_=>none
 |n+1,(list,t,from_,to)=>
 if decide (from_<to)then
 if(2:Int)≠0 then
 if inb (w64 (Int.tdiv (w64 (from_+to)) 2)) list then
 (Dp (gd list (w64 (Int.tdiv (w64 (from_+to)) 2)) []) t).bind λr1=>
 if r1 then
 Bh n (list,t,w64 ((w64 (Int.tdiv (w64 (from_+to)) 2))+1),to)
 else
 Bh n (list,t,from_,w64 (Int.tdiv (w64 (from_+to)) 2))
 else none
 else none
 else
 some (list,t,from_)
def CT (list:List (List Int)) (t:List Int):Option (Int×Bool):=
 (Bh Aa (list,t,0,(list.length:Int))).bind λs1=>
 if decide (s1.2.2<(s1.1.length:Int))then
 if inb s1.2.2 s1.1 then
 (CR (gd s1.1 s1.2.2 []) s1.2.1).bind λr2=>
 some (s1.2.2,r2)
 else none
 else
 some (s1.2.2,false)
def BV:Nat->(Int×Int×Int)->Option (Int)
 |0,_=>none
 |n+1,(n_,k,p)=>
 if decide (k>0)then
 BV n (n_,w64 (k-1),w64 (p*n_))
 else
 some p
def C5 (n_:Int) (k:Int):Option (Int):=
 (BV Aa (n_,k,1)).bind λs1=>
 some s1
end T
open Go Go.Va
namespace T
theorem ER {a:List Int} {left:Int} (h0:0<=left) (h1:left<=4611686018427387904) (ha:a.length<=9223372036854775807):BJ a left=some (szR a.length left):=by
 unfold BJ szR
 rw[A7 (by omega) (by omega)]
 by_cases h:(a.length:Int)<=left
 ·rw[if_neg (by simp;omega),if_pos h]
 ·rw[if_pos (by simp;omega),if_neg h]
def Dh (a:List (List Int)):Nat:=a.length+(a.map List.length).sum
theorem Ez {a:List (List Int)} {left:Int} (h0:0<=left) (h1:left<=1099511627775) (ha:a.length<=9223372036854775807) (hr: ∀r∈a,r.length<=9223372036854775807):Cz a left=some (szR (Dh a) left):=by
 unfold Cz
 rw[A7 (by omega) (by omega)]
 by_cases h:(a.length:Int)<=left
 ·rw[if_neg (by simp;omega)]
  have key:=Fb a (λn s i=>Bl n (a,s,i)) (λs r=>(BJ r s).bind λq=>if q<0 then some (.inr (.inr (-1)))else some (.inl q)) (λs=>some (.inl s)) ?_ ?_ (n:=Aa) (by unfold Aa;omega) (left-a.length)
  ·rw[key]
   have run: ∀(l:List (List Int)) (s:Int),0<=s->s<=1099511627775->(∀r∈l,r.length<=9223372036854775807)->
     D7 (λs r=>(BJ r s).bind λq=>if q<0 then some (.inr (.inr (-1)))else some (.inl q)) (λs=>some (.inl s)) l s=some (if((l.map List.length).sum:Int)<=s then(.inl (s-(l.map List.length).sum):Int⊕Int)else .inr (-1)):=by
    intro l
    induction l with
    |nil=>intro s h0 _ _;simp[D7,h0]
    |cons r l ih=>
     intro s h0 h1 hr
     simp only[D7]
     rw[ER h0 (by omega) (hr r (by simp))]
     unfold szR
     by_cases h:(r.length:Int)<=s
     ·rw[if_pos h]
      simp only[Option.bind_some]
      rw[if_neg (by omega)]
      dsimp only
      rw[ih (s-r.length) (by omega) (by omega) λr hr'=>hr r (List.mem_cons_of_mem _ hr')]
      simp only[List.map_cons,List.sum_cons]
      congr 1
      by_cases h2:(((l.map List.length).sum:Nat):Int)<=s-r.length
      ·rw[if_pos h2,if_pos (by omega)];congr 1;omega
      ·rw[if_neg h2,if_neg (by omega)]
     ·rw[if_neg h]
      simp only[List.map_cons,List.sum_cons]
      rw[if_neg (by omega)]
      rfl
   rw[run a _ (by omega) (by omega) hr]
   unfold szR Dh
   by_cases h2:(((a.map List.length).sum:Nat):Int)<=left-a.length
   ·rw[if_pos h2,if_pos (by omega)]
    simp only[Option.bind_some,Option.some.injEq];omega
   ·rw[if_neg h2,if_neg (by omega)];rfl
  ·intro n s k hk
   simp only[Bl,Ac,Ay hk,Ab (show k<4611686018427387904 by omega)]
   simp[hk]
   cases BJ a[k] s with
   |none=>rfl
   |some q=>by_cases hq:q<0<;>simp[hq]
  ·intro n s
   simp[Bl]
 ·rw[if_pos (by simp;omega)]
  unfold szR Dh
  rw[if_neg (by omega)]
theorem ET {a:List Int} (ha:a.length<=1099511627775):CP a=some a:=by
 unfold CP
 rw[if_pos (by unfold lim;omega)]
 have key:=E0 a (λn out i=>Bz n (a,out,i)) id some ?_ ?_ (n:=Aa) (out:=List.replicate (Int.toNat (a.length:Int)) (0:Int)) (by simp) (by unfold Aa;omega)
 ·rw[key];simp
 ·intro n out k hk hl
  simp only[Bz,Ac,Ay hk,AT,Ab (show k<4611686018427387904 by omega)]
  simp[hk,hl]
 ·intro n out hl
  simp[Bz]
theorem EA {a:List (List Int)} (ha:a.length<=1099511627775) (hr: ∀r∈a,r.length<=1099511627775):CA a=some a:=by
 unfold CA
 rw[if_pos (by unfold lim;omega)]
 have key:=E0 a (λn out i=>Bm n (a,out,i)) id some ?_ ?_ (n:=Aa) (out:=List.replicate (Int.toNat (a.length:Int)) ([]:List Int)) (by simp) (by unfold Aa;omega)
 ·rw[key];simp
 ·intro n out k hk hl
  simp only[Bm,Ac,Ay hk,AT,Ab (show k<4611686018427387904 by omega)]
  simp[hk,hl,ET (hr _ (List.getElem_mem hk))]
 ·intro n out hl
  simp[Bm]
theorem EH {a b:List Int} (ha:a.length<=1099511627775):CO a b=some (decide (a=b)):=by
 unfold CO
 by_cases hl:a.length=b.length
 ·rw[if_neg (by simp[hl]),eqX a b hl (λn i=>By n (a,b,i)) ?_ ?_ (by unfold Aa;omega)]
  ·by_cases h:a=b<;>simp[h]
  ·intro n k h1 h2
   simp only[By,Ac,Ay h1,Ay h2,Ab (show k<4611686018427387904 by omega)]
   by_cases h:a[k]=b[k]<;>simp[h1,h2,h]
  ·intro n
   simp[By]
 ·rw[if_pos (by simp;omega),decide_eq_false (λe=>hl (by rw[e]))]
theorem Dz {a b:List (List Int)} (ha:a.length<=1099511627775) (hr: ∀r∈a,r.length<=1099511627775):BD a b=some (decide (a=b)):=by
 unfold BD
 by_cases hl:a.length=b.length
 ·rw[if_neg (by simp[hl]),eqX a b hl (λn i=>Bk n (a,b,i)) ?_ ?_ (by unfold Aa;omega)]
  ·by_cases h:a=b<;>simp[h]
  ·intro n k h1 h2
   simp only[Bk,Ac,Ay h1,Ay h2,Ab (show k<4611686018427387904 by omega),EH (hr _ (List.getElem_mem h1))]
   by_cases h:a[k]=b[k]<;>simp[h1,h2,h]
  ·intro n
   simp[Bk]
 ·rw[if_pos (by simp;omega),decide_eq_false (λe=>hl (by rw[e]))]
abbrev Lin:=Int×Int×List (List Int)
def DO (a:Lin):Prop:=a.2.2.length<=1048576/\ ∀r∈a.2.2,r.length<=1048576
theorem Fz {l:List (List Int)}: ∀ {r:List Int},r∈l->r.length<=(l.map List.length).sum:=by
 induction l with
 |nil=>intro r h;cases h
 |cons x l ih=>
  intro r h
  rw[List.map_cons,List.sum_cons]
  rcases List.mem_cons.1 h with rfl|h
  ·omega
  ·have:=ih h;omega
theorem Eo {a:Lin} (ha:a.2.2.length<=9223372036854775807) (hr: ∀r∈a.2.2,r.length<=9223372036854775807):Cm a 1048576=some (szR (Dh a.2.2) 1048576):=by
 unfold Cm
 rw[Ez (by omega) (by omega) ha hr]
 unfold szR
 split
 ·simp only[Option.bind_some];rw[if_neg (by simp;omega)]
 ·rfl
theorem DM {a:Lin} (h: ¬szR (Dh a.2.2) 1048576<0):DO a:=by
 unfold szR Dh at h
 split at h
 ·exact⟨by omega,λr hr=>by have:=Fz hr;omega⟩
 ·omega
theorem Ep {a:Lin} (h:DO a):Bp a=some a:=by
 unfold Bp
 rw[EA (by have:=h.1;omega) λr hr=>by have:=h.2 r hr;omega]
 rfl
theorem Ed {a b:Lin} (h:DO a):Ck a b=some (decide (a=b)):=by
 unfold Ck
 rw[Dz (by have:=h.1;omega) λr hr=>by have:=h.2 r hr;omega]
 obtain⟨a1,a2,a3⟩:=a
 obtain⟨b1,b2,b3⟩:=b
 by_cases h1:a1=b1
 ·by_cases h2:a2=b2
  ·by_cases h3:a3=b3<;>simp[h1,h2,h3]
  ·simp[h1,h2]
 ·simp[h1]
def Co (p:Int):Bool:=p==2||p==3||p==5||p==7
theorem Dq (p:Int):Cy p=some (Co p):=by
 unfold Cy Co
 by_cases h2:p=2
 ·simp[h2]
 ·by_cases h3:p=3
  ·simp[h3]
  ·by_cases h5:p=5<;>simp[h2,h3,h5]
theorem Do (p:Int):Cr p=some (Co p):=by
 unfold Cr Co
 by_cases h2:p=2
 ·simp[h2]
 ·by_cases h3:p=3
  ·simp[h3]
  ·by_cases h5:p=5<;>simp[h2,h3,h5]
theorem Df (x a b:Int):CY x a b=some (decide (a<=x/\x<=b)):=by
 unfold CY
 by_cases h:a<=x<;>simp[h]
def BI (n:Int) (l:List Int):Bool:=l.all λx=>decide (0<=x/\x<n)
theorem DC {l:List Int} (n:Int) (hl:l.length<=1099511627775):CN l n=some (BI n l):=by
 unfold CN
 rw[Es l (λm i=>Bx m (n,l,(l.length:Int),i)) (λx=>decide (0<=x/\x<n)) (.inr false) (.inl ()) ?_ ?_ (by unfold Aa;omega)]
 ·unfold BI;cases l.all (λx=>decide (0<=x/\x<n))<;>simp
 ·intro m k hk
  simp only[Bx,Ac,Ay hk,Ab (show k<4611686018427387904 by omega)]
  by_cases h1:l[k]<0
  ·simp[hk,h1,show¬0<=l[k] by omega]
  ·by_cases h2:n<=l[k]
   ·simp[hk,h1,h2,show¬l[k]<n by omega]
   ·simp[hk,h1,h2,show 0<=l[k]/\l[k]<n by omega]
 ·intro m
  simp[Bx]
theorem C9 {l:List Int} {n:Int} (hn: -9223372036854775808<n) (hn':n<=9223372036854775807) (hl:l.length<=1099511627775):B3 n l=some (BI n l):=by
 unfold B3
 rw[Es l (λm i=>AZ m (n,l,i)) (λx=>decide (0<=x/\x<n)) (.inr false) (.inl ()) ?_ ?_ (by unfold Aa;omega)]
 ·unfold BI;cases l.all (λx=>decide (0<=x/\x<n))<;>simp
 ·intro m k hk
  simp only[AZ,Ac,Ay hk,Ab (show k<4611686018427387904 by omega),Df,A7 (show-9223372036854775808<=n-1 by omega) (show n-1<=9223372036854775807 by omega)]
  by_cases h1:0<=l[k]/\l[k]<n
  ·simp[hk,h1,show l[k]<=n-1 by omega]
  ·have: ¬(0<=l[k]/\l[k]<=n-1):=by omega
   simp[hk,h1,this]
 ·intro m
  simp[AZ]
theorem Dt {l:List Int} {n:Int} (k:Int) (hn: -9223372036854775808<n) (hn':n<=9223372036854775807) (hl:l.length<=1099511627775):CG n k l=some (decide ((l.length:Int)=k)&&BI n l):=by
 unfold CG
 rw[C9 hn hn' hl]
 by_cases h:(l.length:Int)=k<;>simp[h]
def CL (a:Lin):Bool:=Co a.1&&decide (0<=a.2.1/\a.2.1<=8)&&decide (a.2.2.length<=8)&&a.2.2.all λr=>decide ((r.length:Int)=a.2.1+1)&&BI a.1 r
theorem EP {p:Int} (h:Co p=true):2<=p/\p<=7:=by
 unfold Co at h;simp at h;omega
theorem Cu {a:Lin} (h:DO a):Ch a=some (CL a):=by
 obtain⟨p,v,rows⟩:=a
 unfold Ch CL
 rw[Dq]
 cases hp:Co p with
 |false=>simp[hp]
 |true=>
  by_cases h1:v<0
  ·simp[hp,h1,show¬0<=v by omega]
  ·by_cases h2:v>8
   ·simp[hp,h1,h2,show¬v<=8 by omega]
   ·by_cases h3:rows.length>8
    ·simp[hp,h1,h2,show¬rows.length<=8 by omega,show(rows.length:Int)>8 by omega]
    ·have key:=Es rows (λm i=>Bc m ((p,(v,rows)),rows,(rows.length:Int),i)) (λr=>decide ((r.length:Int)=v+1)&&BI p r) (.inr false) (.inl ()) ?_ ?_ (n:=Aa) (by unfold Aa;omega)
     ·simp only[Option.bind_some,hp,Bool.not_true,Bool.false_eq_true,if_false]
      rw[if_neg (by simpa using h1),if_neg (by simpa using h2),if_neg (by simp;omega),key]
      cases rows.all (λr=>decide ((r.length:Int)=v+1)&&BI p r)<;>simp<;>omega
     ·intro m k hk
      have hlen:=h.2 rows[k] (List.getElem_mem hk)
      simp only[Bc,Ac,Ay hk,Ab (show k<4611686018427387904 by omega),A7 (show-9223372036854775808<=v+1 by omega) (show v+1<=9223372036854775807 by omega),DC p (show rows[k].length<=1099511627775 by omega)]
      by_cases h4:(rows[k].length:Int)=v+1
      ·cases hb:BI p rows[k]<;>simp[hk,h4,hb]
      ·simp[hk,h4]
     ·intro m
      simp[Bc]
theorem Ds {rows:List (List Int)} {p v:Int} (hp:2<=p/\p<=7) (hv:0<=v/\v<=8) (hl:rows.length<=8) (hr: ∀r∈rows,r.length<=1099511627775):CF p v rows=some (rows.all λr=>decide ((r.length:Int)=v+1)&&BI p r):=by
 unfold CF
 rw[Es rows (λm i=>Bn m (p,v,rows,i)) (λr=>decide ((r.length:Int)=v+1)&&BI p r) (.inr false) (.inl ()) ?_ ?_ (by unfold Aa;omega)]
 ·cases rows.all (λr=>decide ((r.length:Int)=v+1)&&BI p r)<;>simp
 ·intro m k hk
  simp only[Bn,Ac,Ay hk,Ab (show k<4611686018427387904 by omega),A7 (show-9223372036854775808<=v+1 by omega) (show v+1<=9223372036854775807 by omega),Dt _ (by omega: -9223372036854775808<p) (by omega) (hr _ (List.getElem_mem hk))]
  cases hb:(decide ((rows[k].length:Int)=v+1)&&BI p rows[k])<;>simp[hk]
 ·intro m
  simp[Bn]
theorem Dn {a:Lin} (h:DO a):Cq a=some (CL a):=by
 obtain⟨p,v,rows⟩:=a
 unfold Cq Bi CL
 rw[Do,Df]
 cases hp:Co p with
 |false=>simp[hp]
 |true=>
  have hb:=EP hp
  by_cases h1:0<=v/\v<=8
  ·by_cases h3:rows.length<=8
   ·rw[Ds hb h1 h3 λr hr=>by have:=h.2 r hr;omega]
    simp[hp,h1,h3,show(rows.length:Int)<=8 by omega]
   ·simp[hp,h1,h3,show¬(rows.length:Int)<=8 by omega]
  ·simp[hp,h1]
end T
open Go Go.Va
namespace T
def cmpL:List Int->List Int->Int
 | [],[]=>0
 | [],_::_=> -1
 |_::_,[]=>1
 |a::s,b::t=>if a=b then cmpL s t else if a<b then-1 else 1
theorem DK {s t:List Int} (hs:s.length<=1099511627775) (hl:s.length=t.length):Dp s t=some (decide (cmpL s t<0)):=by
 have key: ∀(n k:Nat),k<=s.length->s.length-k<n->(BC n (s,t,(k:Int))).bind (λs1=>match s1 with| .inl _=>some false| .inr s3=>some s3)=some (decide (cmpL (s.drop k) (t.drop k)<0)):=by
  intro n
  induction n with
  |zero=>intro k _ h;omega
  |succ n ih=>
   intro k h1 hn
   by_cases k1:k<s.length
   ·have k2:k<t.length:=by omega
    rw[List.drop_eq_getElem_cons k1,List.drop_eq_getElem_cons k2]
    simp only[BC,Ac,Ay k1,Ay k2,Ab (show k<4611686018427387904 by omega),cmpL]
    by_cases he:s[k]=t[k]
    ·have:=ih (k+1) k1 (by omega)
     simp[k1,k2,he]
     simpa using this
    ·by_cases hl:s[k]<t[k]<;>simp[k1,k2,he,hl]
   ·rw[List.drop_of_length_le (show s.length<=k by omega),List.drop_of_length_le (show t.length<=k by omega)]
    simp[BC,k1,cmpL]
 have:=key Aa 0 (Nat.zero_le _) (by unfold Aa;omega)
 rw[List.drop_zero,List.drop_zero]at this
 exact this
theorem DI {a b:List Int} (ha:a.length<=1099511627775):CR a b=some (decide (a=b)):=by
 unfold CR
 by_cases hl:a.length=b.length
 ·rw[if_neg (by simp[hl]),eqX a b hl (λn i=>BA n (a,b,i)) ?_ ?_ (by unfold Aa;omega)]
  ·by_cases h:a=b<;>simp[h]
  ·intro n k h1 h2
   simp only[BA,Ac,Ay h1,Ay h2,Ab (show k<4611686018427387904 by omega)]
   by_cases h:a[k]=b[k]<;>simp[h1,h2,h]
  ·intro n
   simp[BA]
 ·rw[if_pos (by simp;omega),decide_eq_false (λe=>hl (by rw[e]))]
theorem cmpL_refl: ∀s,cmpL s s=0
 | []=>rfl
 |a::s=>by simp[cmpL,cmpL_refl s]
theorem cmpL_eq: ∀ {s t},cmpL s t=0↔s=t
 | [],[]=>by simp[cmpL]
 | [],_::_=>by simp[cmpL]
 |_::_,[]=>by simp[cmpL]
 |a::s,b::t=>by
  simp only[cmpL]
  by_cases h:a=b
  ·rw[if_pos h,cmpL_eq];simp[h]
  ·rw[if_neg h];split<;>simp[h]
theorem cmpL_symm: ∀s t,cmpL t s= -cmpL s t
 | [],[]=>by simp[cmpL]
 | [],_::_=>by simp[cmpL]
 |_::_,[]=>by simp[cmpL]
 |a::s,b::t=>by
  simp only[cmpL]
  by_cases h:a=b
  ·rw[if_pos h,if_pos h.symm,cmpL_symm s t]
  ·rw[if_neg h,if_neg (Ne.symm h)]
   by_cases h2:a<b
   ·rw[if_pos h2,if_neg (by omega)];rfl
   ·rw[if_neg h2,if_pos (by omega)]
theorem cmpL_trans: ∀ {s t u},cmpL s t<0->cmpL t u<0->cmpL s u<0
 | [],[],_,h,_=>by simp[cmpL]at h
 | [],_::_,[],_,h=>by simp[cmpL]at h
 | [],_::_,_::_,_,_=>by simp[cmpL]
 |_::_,[],_,h,_=>by simp[cmpL]at h
 |_::_,_::_,[],_,h=>by simp[cmpL]at h
 |a::s,b::t,c::u,h1,h2=>by
  simp only[cmpL]at*
  by_cases e1:a=b
  ·rw[if_pos e1]at h1
   by_cases e2:b=c
   ·rw[if_pos e2]at h2;rw[if_pos (e1.trans e2)];exact cmpL_trans h1 h2
   ·rw[if_neg e2]at h2;rw[e1,if_neg e2];exact h2
  ·rw[if_neg e1]at h1
   have l1:a<b:=by
    by_cases h:a<b
    ·exact h
    ·rw[if_neg h]at h1;omega
   by_cases e2:b=c
   ·rw[←e2,if_neg e1,if_pos l1];omega
   ·rw[if_neg e2]at h2
    have l2:b<c:=by
     by_cases h:b<c
     ·exact h
     ·rw[if_neg h]at h2;omega
    rw[if_neg (by omega),if_pos (by omega)];omega
def CK:List (List Int)->Bool
 |a::b::l=>decide (cmpL a b<0)&&CK (b::l)
 |_=>true
theorem EK {a:List Int} {l:List (List Int)} (h:CK (a::l)=true):CK l=true:=by
 cases l with
 |nil=>rfl
 |cons b l=>simp only[CK,Bool.and_eq_true]at h;exact h.2
theorem DY: ∀ {a:List Int} {l:List (List Int)},CK (a::l)=true-> ∀b∈l,cmpL a b<0
 |a,[],_,b,hb=>by cases hb
 |a,c::l,h,b,hb=>by
  simp only[CK,Bool.and_eq_true,decide_eq_true_eq]at h
  rcases List.mem_cons.1 hb with rfl|hb
  ·exact h.1
  ·exact cmpL_trans h.1 (DY h.2 b hb)
theorem CU: ∀ {l:List (List Int)},CK l=true-> ∀(i j:Nat) (hi:i<j) (hj:j<l.length),cmpL (l[i]'(by omega)) l[j]<0
 | [],_,i,j,_,hj=>by simp at hj
 |a::l,h,0,j+1,_,hj=>by
  simp only[List.getElem_cons_zero,List.getElem_cons_succ]
  exact DY h _ (List.getElem_mem _)
 |a::l,h,i+1,j+1,hi,hj=>by
  simp only[List.getElem_cons_succ]
  exact CU (EK h) i j (by omega) (by simpa using hj)
theorem E7 {l:List (List Int)}:CK l=true↔ ∀(i:Nat) (hi:i+1<l.length),cmpL (l[i]'(by omega)) l[i+1]<0:=by
 constructor
 ·exact λh i hi=>CU h i (i+1) (by omega) hi
 ·induction l with
  |nil=>intro _;rfl
  |cons a l ih=>
   intro h
   cases l with
   |nil=>rfl
   |cons b l=>
    simp only[CK,Bool.and_eq_true,decide_eq_true_eq]
    exact⟨h 0 (by simp),ih λi hi=>by have:=h (i+1) (by simpa using hi);simpa using this⟩
end T
open Go Go.Va
namespace T
theorem D0 {n:Int} (h0:0<=n) (h8:n<=8): ∀k:Nat,0<=n^k/\n^k<=8^k
 |0=>by simp
 |k+1=>by
  obtain⟨h1,h2⟩:=D0 h0 h8 k
  rw[Int.pow_succ,Int.pow_succ]
  exact⟨Int.mul_nonneg h1 h0,Int.mul_le_mul h2 h8 h0 (by have:(0:Int)<=8^k:=Int.le_trans h1 h2;exact this)⟩
theorem FA: ∀k:Nat,k<=20->(8:Int)^k<=8^20:=by
 intro k hk
 have:((8^k:Nat):Int)<=((8^20:Nat):Int):=Int.ofNat_le.2 (Nat.pow_le_pow_right (by omega) hk)
 simpa using this
theorem Ff {n:Int} (h0:0<=n) (h8:n<=8) {k:Nat} (hk:k<=20):0<=n^k/\n^k<=1152921504606846976:=by
  obtain⟨h1,h2⟩:=D0 h0 h8 k
  have:=FA k hk
  exact ⟨h1, by have e : (8 : Int) ^ 20 = 1152921504606846976 := by decide
                omega⟩
theorem Fg {n:Int} (h0:0<=n) (h8:n<=8): ∀(m k j:Nat),j+k<=20->k<m->BV m (n,(k:Int),n^j)=some (n^(j+k)):=by
 intro m
 induction m with
 |zero=>intro k j _ h;omega
 |succ m ih=>
  intro k j hj hk
  simp only[BV]
  cases k with
  |zero=>simp
  |succ k=>
   have e:w64 (((k+1:Nat):Int)-1)=(k:Int):=by rw[A7 (by omega) (by omega)];omega
   have hb:=Ff h0 h8 (k:=j+1) (by omega)
   rw[Int.pow_succ]at hb
   rw[e,A7 (by omega) (by omega),←Int.pow_succ,if_pos (by simp),ih k (j+1) (by omega) (by omega)]
   congr 2<;>omega
theorem C1 {n:Int} (h0:0<=n) (h8:n<=8) {k:Nat} (hk:k<=20):C5 n (k:Int)=some (n^k):=by
 unfold C5
 have:=Fg h0 h8 Aa k 0 (by omega) (by unfold Aa;omega)
 rw[Int.pow_zero]at this
 rw[this];simp
theorem E9 {n:Int} (h0:0<=n) (h8:n<=8): ∀(m k j:Nat),j+k<=20->k<m->BY m (n,(k:Int),n^j)=some (n^(j+k)):=by
 intro m
 induction m with
 |zero=>intro k j _ h;omega
 |succ m ih=>
  intro k j hj hk
  simp only[BY]
  cases k with
  |zero=>simp
  |succ k=>
   have e:w64 (((k+1:Nat):Int)-1)=(k:Int):=by rw[A7 (by omega) (by omega)];omega
   have hb:=Ff h0 h8 (k:=j+1) (by omega)
   rw[Int.pow_succ]at hb
   rw[e,A7 (by omega) (by omega),←Int.pow_succ,if_pos (by simp),ih k (j+1) (by omega) (by omega)]
   congr 2<;>omega
theorem DS {n:Int} (h0:0<=n) (h8:n<=8) {k:Nat} (hk:k<=20):Da n (k:Int)=some (n^k):=by
 unfold Da
 have:=E9 h0 h8 Aa k 0 (by omega) (by unfold Aa;omega)
 rw[Int.pow_zero]at this
 rw[this];simp
theorem Fu {list:List (List Int)} {t:List Int} {k:Nat} (hl:list.length<=1099511627775) (hk:k<=1099511627775) (hv: ∀u∈list,u.length=k) (ht:t.length=k) (hi:CK list=true): ∀(m a b:Nat),a<=b->b<=list.length->b-a<m->
  (∀i (h:i<list.length),i<a->cmpL list[i] t<0)->(∀i (h:i<list.length),b<=i-> ¬cmpL list[i] t<0)->
  ∃c:Nat,Bh m (list,t,(a:Int),(b:Int))=some (list,t,(c:Int))/\c<=list.length/\(∀i (h:i<list.length),i<c->cmpL list[i] t<0)/\(∀i (h:i<list.length),c<=i-> ¬cmpL list[i] t<0):=by
 intro m
 induction m with
 |zero=>intro a b _ _ h;omega
 |succ m ih=>
  intro a b hab hb hm h1 h2
  simp only[Bh]
  by_cases hlt:a<b
  ·have emid:w64 (Int.tdiv (w64 ((a:Int)+b)) 2)=(((a+b)/2:Nat):Int):=by
    rw[A7 (x:=(a:Int)+b) (by omega) (by omega),Int.tdiv_eq_ediv_of_nonneg (by omega),A7 (by omega) (by omega)];omega
   have hmid:(a+b)/2<list.length:=by omega
   rw[emid]
   have hless:=DK (s:=list[(a+b)/2]) (t:=t) (by rw[hv _ (List.getElem_mem hmid)];omega) (by rw[hv _ (List.getElem_mem hmid),ht])
   simp only[Ac,Ay hmid,hless,Option.bind_some,Ab (show(a+b)/2<4611686018427387904 by omega)]
   by_cases hc:cmpL list[(a+b)/2] t<0
   ·obtain⟨c,e,k1,k2,k3⟩:=ih ((a+b)/2+1) b (by omega) hb (by omega) (λi h hi'=>by
     rcases Nat.lt_or_ge i ((a+b)/2)with h'|h'
     ·exact cmpL_trans (CU hi i ((a+b)/2) h' hmid) hc
     ·have:i=(a+b)/2:=by omega
      subst this;exact hc) h2
    exact⟨c,by simpa[hlt,hmid,hc]using e,k1,k2,k3⟩
   ·obtain⟨c,e,k1,k2,k3⟩:=ih a ((a+b)/2) (by omega) (by omega) (by omega) h1 (λi h hi' hneg=>by
     rcases Nat.lt_or_ge ((a+b)/2) i with h'|h'
     ·exact hc (cmpL_trans (CU hi ((a+b)/2) i h' h) hneg)
     ·have:i=(a+b)/2:=by omega
      subst this;exact hc hneg)
    exact⟨c,by simpa[hlt,hmid,hc]using e,k1,k2,k3⟩
  ·have:a=b:=by omega
   subst this
   exact⟨a,by simp,hb,h1,h2⟩
theorem DL {list:List (List Int)} {t:List Int} {k:Nat} (hl:list.length<=1099511627774) (hk:k<=1099511627775) (hv: ∀u∈list,u.length=k) (ht:t.length=k) (hi:CK list=true):
  ∃c:Nat,CT list t=some ((c:Int),decide (t∈list))/\c<=list.length/\(∀i (h:i<list.length),i<c->cmpL list[i] t<0)/\(∀i (h:i<list.length),c<=i-> ¬cmpL list[i] t<0):=by
 obtain⟨c,e,k1,k2,k3⟩:=Fu (by omega) hk hv ht hi Aa 0 list.length (Nat.zero_le _) (Nat.le_refl _) (by unfold Aa;omega) (λi _ h=>by omega) (λi h h'=>by omega)
 refine⟨c,?_,k1,k2,k3⟩
 unfold CT
 have e':Bh Aa (list,t,0,(list.length:Int))=some (list,t,(c:Int)):=e
 rw[e']
 simp only[Option.bind_some]
 by_cases hc:c<list.length
 ·have hs:=DI (a:=list[c]) (b:=t) (by rw[hv _ (List.getElem_mem hc)];omega)
  simp only[Ac,Ay hc,hs,Option.bind_some]
  have:decide (list[c]=t)=decide (t∈list):=by
   by_cases h:list[c]=t
   ·rw[decide_eq_true h,decide_eq_true (h▸List.getElem_mem hc)]
   ·rw[decide_eq_false h]
    symm;rw[decide_eq_false_iff_not]
    intro hm
    obtain⟨j,hj,rfl⟩:=List.mem_iff_getElem.1 hm
    have hne:j≠c:=λe=>h (by subst e;rfl)
    rcases Nat.lt_or_ge j c with hlt|hge
    ·have:=k2 j hj hlt;rw[cmpL_refl]at this;omega
    ·exact k3 c hc (Nat.le_refl _) (CU hi c j (by omega) hj)
  simp[hc,this]
 ·have:decide (t∈list)=false:=by
   rw[decide_eq_false_iff_not]
   intro hm
   obtain⟨j,hj,rfl⟩:=List.mem_iff_getElem.1 hm
   have:=k2 j hj (by omega);rw[cmpL_refl]at this;omega
  rw[if_neg (by simp;omega),this]
end T
open Go Go.Va
namespace T
def Ga (n:Int):Bool:=decide (1<=n/\n<=8)
def Gh (n k:Int) (t:List Int):Bool:=decide ((t.length:Int)=k)&&BI n t
def FR (n k:Int) (ts:List (List Int)):Bool:=Ga n&&decide (1<=k/\k<=4)&&ts.all (Gh n k)&&CK ts
end T
set_option linter.unusedVariables false
open Go Go.Va
namespace T
def CD (l:List Int):Option ((List Int)):=
 if([]:List Int).length+l.length<=lim then
 some ([]++l)
 else none
def BG:Nat->((List Int)×Int×Int)->Option ((Unit)⊕(Bool))
 |0,_=>none
 |n+1,(l,n_,i)=>
 if decide (i<(l.length:Int))then
 if inb i l then
 if(gd l i 0)==n_ then
 some (.inr true)
 else
 BG n (l,n_,w64 (i+1))
 else none
 else
 some (.inl ())
def C8 (l:List Int) (n_:Int):Option (Bool):=
 (BG Aa (l,n_,0)).bind λs1=>
  match s1 with
  | .inl s2=>
   some false
  | .inr s3=>
   some s3
def Bf:Nat->((List Int)×Int×Int)->Option ((List Int)×Int)
 |0,_=>none
 |n+1,(a,k,i)=>
 if decide (i<(a.length:Int))then
 if inb i a then
 Bf n (stt a i k,w64 (k+1),w64 (i+1))
 else none
 else
 some (a,k)
def Cl (a:List Int) (k:Int):Option ((List Int)×Int):=
 (Bf Aa (a,k,0)).bind λs1=>
 some (s1.1,s1.2)
def A9:Nat->((List (List Int))×Int×Int)->Option ((List (List Int))×Int)
 |0,_=>none
 |n+1,(a,k,i)=>
 if decide (i<(a.length:Int))then
 if inb i a then
 (Cl (gd a i []) k).bind λr1=>
 A9 n (stt a i r1.1,r1.2,w64 (i+1))
 else none
 else
 some (a,k)
def BO (a:List (List Int)) (k:Int):Option ((List (List Int))×Int):=
 (A9 Aa (a,k,0)).bind λs1=>
 some (s1.1,s1.2)
def Be:Nat->((List Int)×Int×Int)->Option ((Int)⊕(Int))
 |0,_=>none
 |n+1,(a,k,i)=>
 if decide (i<(a.length:Int))then
 if inb i a then
 if(gd a i 0) !=k then
 some (.inr (-1))
 else
 Be n (a,w64 (k+1),w64 (i+1))
 else none
 else
 some (.inl k)
def BW (a:List Int) (k:Int):Option (Int):=
 (Be Aa (a,k,0)).bind λs1=>
  match s1 with
  | .inl s2=>
   some s2
  | .inr s3=>
   some s3
def A8:Nat->((List (List Int))×Int×Int)->Option ((Int)⊕(Int))
 |0,_=>none
 |n+1,(a,k,i)=>
 if decide (i<(a.length:Int))then
 if inb i a then
 (BW (gd a i []) k).bind λr1=>
 if decide (r1<0)then
 some (.inr (-1))
 else
 A8 n (a,r1,w64 (i+1))
 else none
 else
 some (.inl k)
def BN (a:List (List Int)) (k:Int):Option (Int):=
 (A8 Aa (a,k,0)).bind λs1=>
  match s1 with
  | .inl s2=>
   some s2
  | .inr s3=>
   some s3
end T
open Go Go.Va
namespace T
abbrev Con:=List Int×Int×List (List Int)
abbrev Net:=Int×Int×List Con
theorem Ad {α:Type} {l:List α} {k:Nat} {d:α} (h:k<l.length):l.getD k d=l[k]:=by simp[List.getD_eq_getElem?_getD,h]
end T
open Go Go.Va
namespace T
def g0 (l:List Int) (i:Nat):Int:=l.getD i 0
section
variable {v n up:Int} {c:Con} {vals:List Int}
theorem C2 {l:List Int} (h:l.length<=1099511627775):CD l=some l:=by
 unfold CD
 rw[if_pos (by unfold lim;simp;omega)];simp
end
end T
open Go Go.Va
namespace T
abbrev Dom:=List (List Bool)
def mk (bs:List Bool):List Int:=((List.range bs.length).filter λi=>bs.getD i false).map λi:Nat=>(i:Int)
def d2 (d:Dom) (v x:Nat):Bool:=(d.getD v []).getD x false
theorem An {α:Type} {l:List α} {i j:Nat} {y d:α}:(l.set i y).getD j d=if i=j/\j<l.length then y else l.getD j d:=by
 simp only[List.getD_eq_getElem?_getD,List.getElem?_set]
 by_cases h:i=j
 ·subst h
  by_cases h2:i<l.length
  ·simp[h2]
  ·simp[h2]
 ·simp[h]
theorem DQ {l:List Int} {x:Int} (h:l.length<=1048576):C8 l x=some (decide (x∈l)):=by
 unfold C8
 rw[Es l (λn i=>BG n (l,x,i)) (λy=>!decide (y=x)) (.inr true) (.inl ()) ?_ ?_ (by unfold Aa;omega)]
 ·by_cases hx:x∈l
  ·rw[if_neg]
   ·simp[hx]
   ·rw[List.all_eq_true];intro h;have:=h x hx;simp at this
  ·rw[if_pos]
   ·simp[hx]
   ·rw[List.all_eq_true];intro y hy;have:y≠x:=λe=>hx (e▸hy)
    simp[this]
 ·intro n k hk
  simp only[BG,Ac,Ay hk,Ab (show k<4611686018427387904 by omega)]
  by_cases e:l[k]=x<;>simp[hk,e]
 ·intro n;simp[BG]
end T
open Go Go.Va
namespace T
abbrev ASt:=Dom×List (Int×Int×Int)
section
variable {a:Net} {K:Nat} {c:Con}
end
end T
open Go Go.Va
namespace T
def mkL {α:Type} (f:α->Int->α×Int):List α->Int->List α×Int
 | [],k=>([],k)
 |x::l,k=>((f x k).1::(mkL f l (f x k).2).1,(mkL f l (f x k).2).2)
theorem Ej {α:Type} (f:α->Int->α×Int): ∀(l:List α) (x:α) (k:Int),mkL f (l++ [x]) k=((mkL f l k).1++ [(f x (mkL f l k).2).1],(f x (mkL f l k).2).2)
 | [],x,k=>by simp[mkL]
 |y::l,x,k=>by
  simp only[List.cons_append,mkL]
  rw[Ej f l x]
theorem Cg {α:Type} (f:α->Int->α×Int): ∀(l:List α) (k:Int),(mkL f l k).1.length=l.length
 | [],_=>rfl
 |x::l,k=>by simp[mkL,Cg f l]
theorem Du {α:Type} {f:α->Int->α×Int} {w:α->Nat}: ∀(l:List α) (k:Int),(∀x∈l,∀k,(f x k).2=k+w x)->(mkL f l k).2=k+((l.map w).sum:Nat)
 | [],k,_=>by simp[mkL]
 |x::l,k,h=>by
  simp only[mkL,List.map_cons,List.sum_cons]
  rw[Du l _ λy hy=>h y (List.mem_cons_of_mem _ hy),h x (by simp)];push_cast;omega
theorem FI {α β:Type} (N:Nat) (L:Nat->List α->Int->Int->Option β) (f:α->Int->α×Int) (w:α->Nat) (B:Int) (fin:List α->Int->Option β) (xs:List α) (k0:Int) (hN:xs.length=N) (hw: ∀x∈xs,∀k,(f x k).2=k+w x)
  (h0:0<=k0) (hB:k0+((xs.map w).sum:Nat)<=B)
  (hs: ∀n (a:List α) (k:Int) (i:Nat) (hi:i<N) (hl:a.length=N),a[i]'(by omega)∈xs->0<=k->k+w (a[i]'(by omega))<=B->L (n+1) a k i=L n (a.set i (f (a[i]'(by omega)) k).1) (f (a[i]'(by omega)) k).2 ((i+1:Nat):Int))
  (he: ∀n a k,a.length=N->L (n+1) a k (N:Nat)=fin a k) {n:Nat} (hn:N<n):L n xs k0 0=fin (mkL f xs k0).1 (mkL f xs k0).2:=by
 have far: ∀i,i<=N->(mkL f (xs.take i) k0).2=k0+(((xs.take i).map w).sum:Nat):=λi _=>Du _ _ λx hx=>hw x (List.mem_of_mem_take hx)
 have:=BZ N (λn (s:List α×Int) i=>L n s.1 s.2 i) (λi=>((mkL f (xs.take i) k0).1++xs.drop i,(mkL f (xs.take i) k0).2)) (r:=fin (mkL f xs k0).1 (mkL f xs k0).2) (λn i hi=>?_) (λn=>?_) hn
 ·simpa[mkL]using this
 ·have hix:i<xs.length:=by omega
  have hlen:(mkL f (xs.take i) k0).1.length=i:=by rw[Cg];simp;omega
  have hl2:((mkL f (xs.take i) k0).1++xs.drop i).length=N:=by simp[hlen];omega
  have hget:((mkL f (xs.take i) k0).1++xs.drop i)[i]'(by omega)=xs[i]:=by
   rw[List.getElem_append_right (by omega)];simp[hlen]
  have hsum:(((xs.take i).map w).sum:Nat)+w xs[i]<=(xs.map w).sum:=by
   have h1:xs=xs.take i++xs[i]::xs.drop (i+1):=by rw[←List.drop_eq_getElem_cons hix,List.take_append_drop]
   have h2:(xs.map w).sum=((xs.take i).map w).sum+(w xs[i]+((xs.drop (i+1)).map w).sum):=by
    conv=>lhs;rw[h1]
    rw[List.map_append,List.sum_append,List.map_cons,List.sum_cons]
   omega
  have hf:=far i (by omega)
  dsimp only
  rw[hs n _ _ i hi hl2 (by rw[hget];exact List.getElem_mem hix) (by omega) (by rw[hget,hf];omega),hget,List.take_succ_eq_append_getElem hix,Ej]
  congr 1
  rw[List.set_append_right _ _ (by omega),hlen,Nat.sub_self,List.drop_eq_getElem_cons hix,List.set_cons_zero,List.append_assoc];rfl
 ·dsimp only
  rw[List.take_of_length_le (by omega),List.drop_of_length_le (by omega),List.append_nil]
  exact he n _ _ (by rw[Cg];exact hN)
theorem E3 {α:Type} (f:α->Int->α×Int) (h:α->Int->Option Int) (w:α->Nat) (B:Int): ∀(xs:List α) (k0:Int) (L:Nat->Int->Int->Option (Int⊕Int)) (j:Nat),(∀x∈xs,∀k,(f x k).2=k+w x)->0<=k0->k0+((xs.map w).sum:Nat)<=B->
  (∀x∈xs,∀k,0<=k->k+w x<=B->h (f x k).1 k=some (f x k).2)->
  (∀n k (i:Nat) (hi:i<xs.length),0<=k->k+w xs[i]<=B->L (n+1) k ((j+i:Nat):Int)=(h ((mkL f xs k0).1[i]'(by rw[Cg];exact hi)) k).bind λq=>if q<0 then some (.inr (-1))else L n q ((j+i+1:Nat):Int))->
  (∀n k,L (n+1) k ((j+xs.length:Nat):Int)=some (.inl k))-> ∀n,xs.length<n->L n k0 (j:Int)=some (.inl (mkL f xs k0).2)
 | [],k0,L,j,_,_,_,_,_,he,n,hn=>by
  obtain⟨n,rfl⟩: ∃m,n=m+1:=⟨n-1,by simp at hn;omega⟩
  have:=he n k0
  simpa[mkL]using this
 |x::xs,k0,L,j,hw,h0,hB,hh,hs,he,n,hn=>by
  obtain⟨n,rfl⟩: ∃m,n=m+1:=⟨n-1,by simp at hn;omega⟩
  rw[List.map_cons,List.sum_cons]at hB
  have hx:=hw x (by simp) k0
  have h1:=hs n k0 0 (by simp) h0 (by simp only[List.getElem_cons_zero];omega)
  simp only[Nat.add_zero,mkL,List.getElem_cons_zero]at h1
  rw[h1,hh x (by simp) k0 h0 (by omega)]
  simp only[Option.bind_some]
  rw[if_neg (by omega)]
  have:=E3 f h w B xs (f x k0).2 L (j+1) (λy hy=>hw y (List.mem_cons_of_mem _ hy)) (by omega) (by rw[hx];omega) (λy hy=>hh y (List.mem_cons_of_mem _ hy))
   (λn k i hi hk0 hkB=>by
    have:=hs n k (i+1) (by simpa using hi) hk0 (by simpa using hkB)
    simp only[mkL,List.getElem_cons_succ]at this
    rw[show j+1+i=j+(i+1) by omega];exact this)
   (λn k=>by have:=he n k;rw[List.length_cons]at this;rw[show j+1+xs.length=j+(xs.length+1) by omega];exact this) n (by simp at hn;omega)
  exact this
abbrev BM:Int:=1152921504606846976
def EN (_:Int) (k:Int):Int×Int:=(k,k+1)
def Cf (l:List Int) (k:Int):List Int×Int:=mkL EN l k
def Cn (l:List (List Int)) (k:Int):List (List Int)×Int:=mkL Cf l k
theorem Dv {α:Type}: ∀(l:List α),(l.map λ_=>1).sum=l.length
 | []=>rfl
 |_::l=>by rw[List.map_cons,List.sum_cons,Dv l,List.length_cons];omega
theorem Dl (l:List Int) (k:Int):(Cf l k).2=k+(l.length:Nat):=by
 unfold Cf
 rw[Du (w:=λ_=>1) l k λ_ _ _=>rfl,Dv]
theorem DD (l:List (List Int)) (k:Int):(Cn l k).2=k+((l.map List.length).sum:Nat):=by
 unfold Cn
 rw[Du (w:=List.length) l k λx _ k=>Dl x k]
theorem Eh {l:List Int} {k:Int} (hl:l.length<=1048576) (h0:0<=k) (hB:k+l.length<=BM):Cl l k=some (Cf l k):=by
 unfold Cl
 have:=FI l.length (λn a k i=>Bf n (a,k,i)) EN (λ_=>1) BM (λa k=>some (a,k)) l k rfl (λ_ _ _=>rfl) h0 (by rw[Dv];exact hB) (λn a k i hi hl' _ hk0 hkB=>?_) (λn a k hl'=>?_) (n:=Aa) (by unfold Aa;omega)
 ·rw[this];rfl
 ·have hk1:w64 (k+1)=k+1:=A7 (by omega) (by unfold BM at hkB;omega)
  simp only[Bf,Ac,AT,Ab (show i<4611686018427387904 by omega),hk1,EN]
  simp[hl',hi]
 ·simp[Bf,hl']
theorem Eg {l:List Int} {k:Int} (hl:l.length<=1048576) (h0:0<=k) (hB:k+l.length<=BM):BW (Cf l k).1 k=some (Cf l k).2:=by
 unfold BW
 have hlen:(Cf l k).1.length=l.length:=Cg _ _ _
 have:=E3 EN (λx k=>if x=k then some (k+1)else some (-1)) (λ_=>1) BM l k (λn k' i=>Be n ((Cf l k).1,k',i)) 0 (λ_ _ _=>rfl) h0 (by rw[Dv];exact hB) (λx _ k' _ _=>by simp[EN])
  (λn k' i hi hk0 hkB=>by
   have hi':i<(Cf l k).1.length:=by omega
   have hk1:w64 (k'+1)=k'+1:=A7 (by omega) (by unfold BM at hkB;omega)
   rw[Nat.zero_add]
   simp only[Be,Ac,Ay hi',Ab (show i<4611686018427387904 by omega),hk1]
   have e:(mkL EN l k).1[i]'(by rw[Cg];exact hi)=(Cf l k).1[i]:=rfl
   rw[e]
   by_cases h:(Cf l k).1[i]=k'
   ·simp[hi',hi,h,hlen,show¬k'+1<0 by omega]
   ·simp[hi',hi,h,hlen])
  (λn k'=>by rw[Nat.zero_add];simp[Be,hlen]) Aa (by unfold Aa;omega)
 rw[show((0:Nat):Int)=0 from rfl]at this
 rw[this];rfl
theorem Dc {l:List (List Int)} {k:Int} (hl:l.length<=1048576) (hr: ∀r∈l,r.length<=1048576) (h0:0<=k) (hB:k+((l.map List.length).sum:Nat)<=BM):BO l k=some (Cn l k):=by
 unfold BO
 have:=FI l.length (λn a k i=>A9 n (a,k,i)) Cf List.length BM (λa k=>some (a,k)) l k rfl (λx _ k=>Dl x k) h0 hB (λn a k i hi hl' hm hk0 hkB=>?_) (λn a k hl'=>?_) (n:=Aa) (by unfold Aa;omega)
 ·rw[this];rfl
 ·have hia:i<a.length:=by omega
  simp only[A9,Ac,AT,Ay hia,Ab (show i<4611686018427387904 by omega),Eh (hr _ hm) hk0 hkB,Option.bind_some]
  simp[hl',hi]
 ·simp[A9,hl']
theorem D4 {l:List (List Int)} {k:Int} (hl:l.length<=1048576) (hr: ∀r∈l,r.length<=1048576) (h0:0<=k) (hB:k+((l.map List.length).sum:Nat)<=BM):BN (Cn l k).1 k=some (Cn l k).2:=by
 unfold BN
 have hlen:(Cn l k).1.length=l.length:=Cg _ _ _
 have:=E3 Cf BW List.length BM l k (λn k' i=>A8 n ((Cn l k).1,k',i)) 0 (λx _ k=>Dl x k) h0 hB (λx hx k' hk0 hkB=>Eg (hr x hx) hk0 hkB)
  (λn k' i hi hk0 hkB=>by
   have hi':i<(Cn l k).1.length:=by omega
   rw[Nat.zero_add]
   simp only[A8,Ac,Ay hi',Ab (show i<4611686018427387904 by omega)]
   have e:(mkL Cf l k).1[i]'(by rw[Cg];exact hi)=(Cn l k).1[i]:=rfl
   rw[e]
   simp[hlen,hi])
  (λn k'=>by rw[Nat.zero_add];simp[A8,hlen]) Aa (by unfold Aa;omega)
 rw[show((0:Nat):Int)=0 from rfl]at this
 rw[this];rfl
end T
open Go Go.Va
namespace T
theorem w1:w64 1=1:=by rw[Ea];rfl
theorem w2:w64 2=2:=by rw[Ea];rfl
section
variable {a:Net}
end
end T
set_option linter.unusedVariables false
open Go Go.Va
namespace T
def CI:Nat->((List Int)×(List Int)×(List Int)×Int×Int)->Option ((List Int))
 |0,_=>none
 |n+1,(g,h,t11,t12,t13)=>
 if decide (t13<t12)then
 if inb t13 t11 then
 if inb (gd t11 t13 0) g then
 if inb t13 h then
 CI n (g,stt h t13 (gd g (gd t11 t13 0) 0),t11,t12,w64 (t13+1))
 else none
 else none
 else none
 else
 some h
def D5 (f:List Int) (g:List Int):Option ((List Int)):=
 if 0<=(f.length:Int)/\(f.length:Int)<=(f.length:Int)/\(f.length:Int)<=lim then
 (CI Aa (g,List.replicate (Int.toNat (f.length:Int)) (0:Int),f,(f.length:Int),0)).bind λs1=>
 some s1
 else none
end T
open Go Go.Va
namespace T
def FD (vs:List Int) (v:Int):Int:=vs.getD v.toNat 0
def F4 (vs:List Int) (c:Con):Bool:=decide (c.1.map (FD vs)∈c.2.2)
def Gg (l:List Con) (vs:List Int):Bool:=l.all (F4 vs)
def Gd (vars:List Int) (c:Con):Bool:=c.1.all λv=>decide (v∈vars)
def Ge (a:Net) (vars:List Int):List Con:=a.2.2.filter (Gd vars)
section
variable {a:Net}
end
end T
open Go Go.Va
namespace T
theorem BR {α:Type} {k:Nat} {xs:List α} {d:α}:gd xs (k:Int) d=xs.getD k d:=rfl
abbrev T3:=List (List (List Bool))
abbrev T4:=List (List (List (List Bool)))
def FF (s:Nat) (c:List (List Bool)):Prop:=c.length=s/\ ∀x,x<s->(c.getD x []).length=s
def FX (n s:Nat) (r:T3):Prop:=r.length=n/\ ∀j,j<n->FF s (r.getD j [])
def Ok4 (n s:Nat) (t:T4):Prop:=t.length=n/\ ∀i,i<n->FX n s (t.getD i [])
def r4 (t:T4) (i j x y:Nat):Bool:=(((t.getD i []).getD j []).getD x []).getD y false
def s4 (t:T4) (i j x y:Nat) (b:Bool):T4:=t.set i ((t.getD i []).set j (((t.getD i []).getD j []).set x ((((t.getD i []).getD j []).getD x []).set y b)))
def Ok3 (n m:Nat) (u:T3):Prop:=u.length=n/\ ∀i,i<n->(u.getD i []).length=n/\ ∀j,j<n->((u.getD i []).getD j []).length=m
def r3 (u:T3) (i j p:Nat):Bool:=((u.getD i []).getD j []).getD p false
def s3 (u:T3) (i j p:Nat) (b:Bool):T3:=u.set i ((u.getD i []).set j (((u.getD i []).getD j []).set p b))
section
variable {n s m:Nat} {t:T4} {u:T3}
theorem Ok4.at (h:Ok4 n s t) {i j x:Nat} (hi:i<n) (hj:j<n) (hx:x<s):i<t.length/\j<(t.getD i []).length/\x<((t.getD i []).getD j []).length/\(((t.getD i []).getD j []).getD x []).length=s:=
 ⟨by rw[h.1];exact hi,by rw[(h.2 i hi).1];exact hj,by rw[((h.2 i hi).2 j hj).1];exact hx,((h.2 i hi).2 j hj).2 x hx⟩
theorem Ok3.at (h:Ok3 n m u) {i j:Nat} (hi:i<n) (hj:j<n):i<u.length/\j<(u.getD i []).length/\((u.getD i []).getD j []).length=m:=
 ⟨by rw[h.1];exact hi,by rw[(h.2 i hi).1];exact hj,(h.2 i hi).2 j hj⟩
theorem ED (h:Ok4 n s t) {i j x y:Nat} {b:Bool}:Ok4 n s (s4 t i j x y b):=by
 unfold s4
 refine⟨by rw[List.length_set];exact h.1,λi' hi'=>?_⟩
 rw[An]
 split
 ·rename_i hc
  obtain⟨rfl,_⟩:=hc
  have hr:=h.2 i hi'
  refine⟨by rw[List.length_set];exact hr.1,λj' hj'=>?_⟩
  rw[An]
  split
  ·rename_i hc
   obtain⟨rfl,_⟩:=hc
   have hcl:=hr.2 j hj'
   refine⟨by rw[List.length_set];exact hcl.1,λx' hx'=>?_⟩
   rw[An]
   split
   ·rename_i hc
    obtain⟨rfl,_⟩:=hc
    rw[List.length_set];exact hcl.2 x hx'
   ·exact hcl.2 x' hx'
  ·exact hr.2 j' hj'
 ·exact h.2 i' hi'
theorem F9 (h:Ok3 n m u) {i j p:Nat} {b:Bool}:Ok3 n m (s3 u i j p b):=by
 unfold s3
 refine⟨by rw[List.length_set];exact h.1,λi' hi'=>?_⟩
 rw[An]
 split
 ·rename_i hc
  obtain⟨rfl,_⟩:=hc
  have hr:=h.2 i hi'
  refine⟨by rw[List.length_set];exact hr.1,λj' hj'=>?_⟩
  rw[An]
  split
  ·rename_i hc
   obtain⟨rfl,_⟩:=hc
   rw[List.length_set];exact hr.2 j hj'
  ·exact hr.2 j' hj'
 ·exact h.2 i' hi'
theorem EC (h:Ok4 n s t) {i j x y:Nat} {b:Bool} (hi:i<n) (hj:j<n) (hx:x<s) (hy:y<s) (i' j' x' y':Nat):
  r4 (s4 t i j x y b) i' j' x' y'=if i=i'/\j=j'/\x=x'/\y=y' then b else r4 t i' j' x' y':=by
 obtain⟨h1,h2,h3,h4⟩:=h.at hi hj hx
 unfold r4 s4
 rw[An]
 by_cases e1:i=i'
 ·subst e1
  rw[if_pos ⟨rfl,h1⟩,An]
  by_cases e2:j=j'
  ·subst e2
   rw[if_pos ⟨rfl,h2⟩,An]
   by_cases e3:x=x'
   ·subst e3
    rw[if_pos ⟨rfl,h3⟩,An]
    by_cases e4:y=y'
    ·subst e4;rw[if_pos ⟨rfl,by omega⟩,if_pos ⟨rfl,rfl,rfl,rfl⟩]
    ·rw[if_neg (by omega),if_neg (by omega)]
   ·rw[if_neg (by omega),if_neg (by omega)]
  ·rw[if_neg (by omega),if_neg (by omega)]
 ·rw[if_neg (by omega),if_neg (by omega)]
theorem F8 (h:Ok3 n m u) {i j p:Nat} {b:Bool} (hi:i<n) (hj:j<n) (hp:p<m) (i' j' p':Nat):
  r3 (s3 u i j p b) i' j' p'=if i=i'/\j=j'/\p=p' then b else r3 u i' j' p':=by
 obtain⟨h1,h2,h3⟩:=h.at hi hj
 unfold r3 s3
 rw[An]
 by_cases e1:i=i'
 ·subst e1
  rw[if_pos ⟨rfl,h1⟩,An]
  by_cases e2:j=j'
  ·subst e2
   rw[if_pos ⟨rfl,h2⟩,An]
   by_cases e3:p=p'
   ·subst e3;rw[if_pos ⟨rfl,by omega⟩,if_pos ⟨rfl,rfl,rfl⟩]
   ·rw[if_neg (by omega),if_neg (by omega)]
  ·rw[if_neg (by omega),if_neg (by omega)]
 ·rw[if_neg (by omega),if_neg (by omega)]
end
structure Rel34 (n s:Nat) (t:T4) (u:T3):Prop where
 o4:Ok4 n s t
 o3:Ok3 n (s*s) u
 eq: ∀i j x y,i<j->j<n->x<s->y<s->r4 t i j x y=r3 u i j (x*s+y)/\r4 t j i y x=r3 u i j (x*s+y)
theorem Ft {s x y:Nat} (hx:x<s) (hy:y<s):x*s+y<s*s:=by
 have:(x+1)*s<=s*s:=Nat.mul_le_mul_right _ hx
 rw[Nat.succ_mul]at this;omega
theorem EW {s x y x' y':Nat} (hy:y<s) (hy':y'<s) (h:x*s+y=x'*s+y'):x=x'/\y=y':=by
 have h1:(x*s+y)/s=x:=by rw[Nat.mul_comm,Nat.mul_add_div (by omega),Nat.div_eq_of_lt hy];omega
 have h2:(x'*s+y')/s=x':=by rw[Nat.mul_comm,Nat.mul_add_div (by omega),Nat.div_eq_of_lt hy'];omega
 have:x=x':=by rw[←h1,←h2,h]
 subst this
 exact⟨rfl,by omega⟩
theorem Rel34.drop {n s:Nat} {t:T4} {u:T3} (h:Rel34 n s t u) {i j x y:Nat} (hij:i<j) (hj:j<n) (hx:x<s) (hy:y<s):
  Rel34 n s (s4 (s4 t i j x y false) j i y x false) (s3 u i j (x*s+y) false):=by
 refine⟨ED (ED h.o4),F9 h.o3,λi' j' x' y' h1 h2 h3 h4=>?_⟩
 have hi:i<n:=by omega
 rw[EC (ED h.o4) hj hi hy hx,EC h.o4 hi hj hx hy,EC (ED h.o4) hj hi hy hx,EC h.o4 hi hj hx hy,F8 h.o3 hi hj (Ft hx hy)]
 obtain⟨e1,e2⟩:=h.eq i' j' x' y' h1 h2 h3 h4
 by_cases e:i=i'/\j=j'/\x=x'/\y=y'
 ·obtain⟨rfl,rfl,rfl,rfl⟩:=e
  simp
 ·have e3: ¬(i=i'/\j=j'/\x*s+y=x'*s+y'):=λ⟨q1,q2,q3⟩=>by
   have:=EW hy h4 q3
   exact e ⟨q1,q2,this.1,this.2⟩
  have e4: ¬(j=i'/\i=j'/\y=x'/\x=y'):=by omega
  have e5: ¬(i=j'/\j=i'/\x=y'/\y=x'):=by omega
  have e6: ¬(j=j'/\i=i'/\y=y'/\x=x'):=by omega
  simp only[if_neg e,if_neg e3,if_neg e4,if_neg e5,if_neg e6]
  exact⟨e1,e2⟩
end T
open Go Go.Va
namespace T
section
variable {a:Net} {n s:Nat} {t:T4} {u:T3}
def V2 (n i j x y:Nat):List Int:=((List.replicate n (0:Int)).set i (x:Int)).set j (y:Int)
def fB (a:Net) (n i j x y:Nat):Bool:=Gg (Ge a [(i:Int),(j:Int)]) (V2 n i j x y)
end
end T
open Go Go.Va
namespace T
section
variable {a:Net} {n s:Nat} {t:T4} {u:T3}
def PA (n s i:Nat) (t:T4):Prop:=t.length=n/\ ∀i',i'<i->FX n s (t.getD i' [])
def PB (n s i j:Nat) (t:T4):Prop:=PA n s i t/\(t.getD i []).length=n/\ ∀j',j'<j->FF s ((t.getD i []).getD j' [])
theorem PA.set {i:Nat} (h:PA n s i t) (r:T3):PA n s i (t.set i r):=by
 refine⟨by rw[List.length_set];exact h.1,λi' hi'=>?_⟩
 rw[An,if_neg (by omega)];exact h.2 i' hi'
theorem PB.set {i j:Nat} (h:PB n s i j t) (hi:i<n) (c:List (List Bool)):PB n s i j (t.set i ((t.getD i []).set j c)):=by
 have hl:=h.1.1
 refine⟨h.1.set _,?_,λj' hj'=>?_⟩
 ·rw[An,if_pos ⟨rfl,by omega⟩,List.length_set];exact h.2.1
 ·rw[An,if_pos ⟨rfl,by omega⟩,An,if_neg (by omega)];exact h.2.2 j' hj'
end
end T
open Go Go.Va
namespace T
section
variable {a:Net} {n s:Nat} {t:T4} {u:T3}
def cI (o:List Nat):List Int:=o.map λx:Nat=>(x:Int)
end
end T
set_option linter.unusedVariables false
open Go Go.Va
namespace T
def C0:Nat->((List Int)×(List Int)×Int×Int)->Option ((List Int))
 |0,_=>none
 |n+1,(b,t10,t11,t12)=>
 if decide (t12<t11)then
 if inb t12 t10 then
 if(0:Int)<=8 then
 if b.length+ [IntKind.wrap .u8 (YiD .i64 (gd t10 t12 0) 8),IntKind.wrap .u8 (gd t10 t12 0)].length<=lim then
 C0 n (b++ [IntKind.wrap .u8 (YiD .i64 (gd t10 t12 0) 8),IntKind.wrap .u8 (gd t10 t12 0)],t10,t11,w64 (t12+1))
 else none
 else none
 else none
 else
 some b
def Eu (list:List Int):Option (ByteArray):=
 if(0:Int)<=0/\(0:Int)<=(w64 (2*(list.length:Int)))/\(w64 (2*(list.length:Int)))<=lim then
 (C0 Aa (List.replicate (Int.toNat 0) (0:Int),list,(list.length:Int),0)).bind λs1=>
 some (Ybp s1)
 else none
end T
open Go Go.Va
namespace T
def dg (b:Nat):Nat->Nat->List Nat
 |0,_=> []
 |k+1,i=>dg b k (i/b)++ [i%b]
theorem Dy {b:Nat}: ∀ {k i:Nat},(dg b k i).length=k
 |0,_=>rfl
 |k+1,i=>by simp[dg,Dy (k:=k)]
theorem FH {b:Nat} (hb:0<b): ∀ {k i:Nat},∀x∈dg b k i,x<b
 |0,_,x,h=>by simp[dg]at h
 |k+1,i,x,h=>by
  simp only[dg]at h
  rcases List.mem_append.1 h with h|h
  ·exact FH hb x h
  ·simp at h;subst h;exact Nat.mod_lt _ hb
theorem Di {o:List Nat}:(cI o).length=o.length:=by unfold cI;simp
end T
set_option linter.unusedVariables false
open Go Go.Va
namespace T
def BB:Nat->(Int×Int×(List Int)×Int)->Option ((List Int))
 |0,_=>none
 |n+1,(n_,at_,out,i)=>
 if decide (i≥0)then
 if n_≠0 then
 if inb i out then
 if n_≠0 then
 BB n (n_,w64 (Int.tdiv at_ n_),stt out i (Int.tmod at_ n_),w64 (i-1))
 else none
 else none
 else none
 else
 some out
def CS (n_:Int) (arity:Int) (at_:Int):Option ((List Int)):=
 if 0<=arity/\arity<=arity/\arity<=lim then
 (BB Aa (n_,at_,List.replicate (Int.toNat arity) (0:Int),w64 (arity-1))).bind λs1=>
 some s1
 else none
def AL:Nat->((List Int)×Int×Int)->Option ((List Int))
 |0,_=>none
 |n+1,(list,t8,t9)=>
 if decide (t9<t8)then
 if inb t9 list then
 AL n (stt list t9 (-1),t8,w64 (t9+1))
 else none
 else
 some list
def B9 (many:Int):Option ((List Int)):=
 if 0<=many/\many<=many/\many<=lim then
 (AL Aa (List.replicate (Int.toNat many) (0:Int),((List.replicate (Int.toNat many) (0:Int)).length:Int),0)).bind λs1=>
 some s1
 else none
def Bw:Nat->(Int×Int×(List Int)×Int)->Option ((List Int))
 |0,_=>none
 |n+1,(i,n_,args,j)=>
 if decide (j≥0)then
 if n_≠0 then
 if inb j args then
 if n_≠0 then
 Bw n (w64 (Int.tdiv i n_),n_,stt args j (Int.tmod i n_),w64 (j-1))
 else none
 else none
 else none
 else
 some args
def CM (i:Int) (k:Int) (n_:Int):Option ((List Int)):=
 if 0<=k/\k<=k/\k<=lim then
 (Bw Aa (i,n_,List.replicate (Int.toNat k) (0:Int),w64 (k-1))).bind λs1=>
 some s1
 else none
def C4 (list:List Int):Option ((List Int)):=
 if([]:List Int).length+list.length<=lim then
 some ([]++list)
 else none
end T
open Go Go.Va
namespace T
theorem FK {a b:Nat} (ha:a<4611686018427387904):w64 (Int.tdiv (a:Int) (b:Int))=((a/b:Nat):Int):=by
 rw[Int.tdiv_eq_ediv_of_nonneg (by omega),←Int.natCast_ediv]
 have:=Nat.div_le_self a b
 generalize a/b=q at this
 exact A7 (by omega) (by omega)
theorem FL {a b:Nat}:Int.tmod (a:Int) (b:Int)=((a%b:Nat):Int):=by
 rw[Int.tmod_eq_emod_of_nonneg (by omega),←Int.natCast_emod]
section
variable {n:Nat}
end
end T
open Go Go.Va
namespace T
abbrev Er:=Int×List (List Int)
theorem EV {l:List Nat} {s:List Nat} {x y:Nat}:(cI (l++x::s)).set l.length (y:Int)=cI (l++y::s):=by
 unfold cI
 rw[List.map_append,List.map_append,List.map_cons,List.map_cons,List.set_append_right _ _ (by simp)]
 simp
theorem Fr {b:Nat} (hb:0<b): ∀(j i f:Nat) (s:List Nat),j<f->i<4611686018427387904->j<=1000->
  Bw f ((i:Int),(b:Int),cI (List.replicate j 0++s),(j:Int)-1)=some (cI (dg b j i++s)):=by
 intro j
 induction j with
 |zero=>
  intro i f s hf hi hj
  obtain⟨f,rfl⟩: ∃z,f=z+1:=⟨f-1,by omega⟩
  simp only[Bw]
  rw[if_neg (by simp)];rfl
 |succ j ih=>
  intro i f s hf hi hj
  obtain⟨f,rfl⟩: ∃z,f=z+1:=⟨f-1,by omega⟩
  have e1:((j+1:Nat):Int)-1=(j:Int):=by omega
  have hz:List.replicate (j+1) 0++s=List.replicate j 0++0::s:=by rw[List.replicate_succ'];simp
  have hlen:j<(cI (List.replicate j 0++0::s)).length:=by rw[Di];simp
  have hset:=EV (l:=List.replicate j 0) (s:=s) (x:=0) (y:=i%b)
  rw[List.length_replicate]at hset
  have w2:w64 ((j:Int)-1)=(j:Int)-1:=A7 (by omega) (by omega)
  have hle:=Nat.div_le_self i b
  rw[e1,hz]
  simp only[Bw,FK hi,FL,Ac,hlen,AT,hset,w2]
  rw[if_pos (by simp),if_pos (by omega),if_pos trivial,if_pos (by omega),ih (i/b) f _ (by omega) (by omega) (by omega)]
  simp[dg]
theorem DB {b k i:Nat} (hb:0<b) (hk:k<=1000) (hi:i<4611686018427387904):CM (i:Int) (k:Int) (b:Int)=some (cI (dg b k i)):=by
 have h:=Fr hb k i Aa [] (by unfold Aa;omega) hi hk
 have e:cI (List.replicate k 0++ [])=List.replicate (Int.toNat (k:Int)) (0:Int):=by unfold cI;simp
 rw[e,List.append_nil]at h
 unfold CM
 rw[A7 (x:=(k:Int)-1) (by omega) (by omega),h,if_pos (by unfold lim;omega)];rfl
theorem EL {b:Nat} (hb:0<b): ∀(j i f:Nat) (s:List Nat),j<f->i<4611686018427387904->j<=1000->
  BB f ((b:Int),(i:Int),cI (List.replicate j 0++s),(j:Int)-1)=some (cI (dg b j i++s)):=by
 intro j
 induction j with
 |zero=>
  intro i f s hf hi hj
  obtain⟨f,rfl⟩: ∃z,f=z+1:=⟨f-1,by omega⟩
  simp only[BB]
  rw[if_neg (by simp)];rfl
 |succ j ih=>
  intro i f s hf hi hj
  obtain⟨f,rfl⟩: ∃z,f=z+1:=⟨f-1,by omega⟩
  have e1:((j+1:Nat):Int)-1=(j:Int):=by omega
  have hz:List.replicate (j+1) 0++s=List.replicate j 0++0::s:=by rw[List.replicate_succ'];simp
  have hlen:j<(cI (List.replicate j 0++0::s)).length:=by rw[Di];simp
  have hset:=EV (l:=List.replicate j 0) (s:=s) (x:=0) (y:=i%b)
  rw[List.length_replicate]at hset
  have w2:w64 ((j:Int)-1)=(j:Int)-1:=A7 (by omega) (by omega)
  have hle:=Nat.div_le_self i b
  rw[e1,hz]
  simp only[BB,FK hi,FL,Ac,hlen,AT,hset,w2]
  rw[if_pos (by simp),if_pos (by omega),if_pos trivial,if_pos (by omega),ih (i/b) f _ (by omega) (by omega) (by omega)]
  simp[dg]
theorem DJ {b k i:Nat} (hb:0<b) (hk:k<=1000) (hi:i<4611686018427387904):CS (b:Int) (k:Int) (i:Int)=some (cI (dg b k i)):=by
 have h:=EL hb k i Aa [] (by unfold Aa;omega) hi hk
 have e:cI (List.replicate k 0++ [])=List.replicate (Int.toNat (k:Int)) (0:Int):=by unfold cI;simp
 rw[e,List.append_nil]at h
 unfold CS
 rw[A7 (x:=(k:Int)-1) (by omega) (by omega),h,if_pos (by unfold lim;omega)];rfl
section
variable {n k m:Nat} {r:Er}
end
end T
open Go Go.Va
namespace T
section
variable {n k m:Nat} {r:Er}
theorem CC {α:Type} {f:α->Nat->α} {a:α} {i:Nat}:(List.range (i+1)).foldl f a=f ((List.range i).foldl f a) i:=by rw[List.range_succ,List.foldl_append];rfl
end
end T
open Go Go.Va
namespace T
section
variable {n k m:Nat} {r:Er} {rels:List Er}
theorem FM {a b:List Nat} (h:cI a=cI b):a=b:=by
 unfold cI at h
 exact List.map_inj_right (λx y e=>by exact Int.ofNat_inj.1 e)|>.1 h
end
end T
open Go Go.Va
namespace T
theorem E1 {N:Nat} (h:N<=1000):B9 (N:Int)=some (List.replicate N (-1)):=by
 unfold B9
 rw[Int.toNat_natCast,if_pos (by unfold lim;omega)]
 have:=BZ N (λf o i=>AL f (o,((List.replicate N (0:Int)).length:Int),i)) (λj=>List.replicate j (-1)++List.replicate (N-j) (0:Int)) (r:=some (List.replicate N (-1))) (λf j hj=>?_) (λf=>?_) (n:=Aa) (by unfold Aa;omega)
 ·have this:AL Aa (List.replicate N (0:Int),((List.replicate N (0:Int)).length:Int),0)=_:=this
  rw[this];rfl
 ·have hin:j<(List.replicate j (-1)++List.replicate (N-j) (0:Int)).length:=by simp;omega
  have e:(List.replicate j (-1)++List.replicate (N-j) (0:Int)).set j (-1)=List.replicate (j+1) (-1)++List.replicate (N-(j+1)) (0:Int):=by
   rw[show N-j=(N-(j+1))+1 by omega,List.replicate_succ,List.set_append_right _ _ (by simp),List.replicate_succ']
   simp
  simp only[AL,Ac,hin,AT,e,if_true,Ab (show j<4611686018427387904 by omega)]
  rw[if_pos (by simp;omega)]
 ·simp only[AL]
  rw[if_neg (by simp)];simp
end T
open Go Go.Va
namespace T
section
variable {n:Int} {rels:List Er}
end
def AS (V:List Int) (x:Nat):Int:=match V.findIdx? (λy=>y==(x:Int))with|some i=>(i:Int)|none=> -1
section
variable {n:Nat} {t:List Int}
end
section
variable {n m:Nat} {t:List Int} {r:Er} {rels:List Er}
end
end T
set_option linter.unusedVariables false
open Go Go.Va
namespace T
def Cb:Nat->(Int×Int×Int)->Option (Int)
 |0,_=>none
 |n+1,(p,x,y)=>
 if p≠0 then
 if(Int.tmod (w64 (x*y)) p) !=1 then
 Cb n (p,x,w64 (y+1))
 else
 some y
 else none
def B2 (p:Int) (x:Int):Option (Int):=
 (Cb Aa (p,x,1)).bind λs1=>
 some s1
def AW:Nat->(Int×(List Int)×Int×(List Int)×Int)->Option ((List Int))
 |0,_=>none
 |n+1,(p,row,by_,out,i)=>
 if decide (i<(row.length:Int))then
 if inb i row then
 if p≠0 then
 if out.length+ [Int.tmod (w64 ((gd row i 0)*by_)) p].length<=lim then
 AW n (p,row,by_,out++ [Int.tmod (w64 ((gd row i 0)*by_)) p],w64 (i+1))
 else none
 else none
 else none
 else
 some out
def Cs (p:Int) (row:List Int) (by_:Int):Option ((List Int)):=
 (AW Aa (p,row,by_,[],0)).bind λs1=>
 some s1
def AB:Nat->(Int×Int×(List (List Int))×((List (List Int))×((List Int)×(List (List Int))))×((List (List Int))×((List Int)×(List (List Int))))×Int)->Option (Int×Int×((List (List Int))×((List Int)×(List (List Int))))×((List (List Int))×((List Int)×(List (List Int)))))
 |0,_=>none
 |n+1,(t0,t1,t2,t6,t7,t8)=>
 if decide (t8<(t2.length:Int))then
 if inb t8 t2 then
 (CD (gd t2 t8 [])).bind λr1=>
 if t7.2.2.length+ [r1].length<=lim then
 AB n (t0,t1,t2,(t6.1,(t6.2.1,t6.2.2)),(t7.1,(t7.2.1,t7.2.2++ [r1])),w64 (t8+1))
 else none
 else none
 else
 some (t0,t1,(t6.1,(t6.2.1,t6.2.2)),(t7.1,(t7.2.1,t7.2.2)))
def Ao:Nat->(Int×Int×((List (List Int))×((List Int)×(List (List Int))))×((List (List Int))×((List Int)×(List (List Int))))×Int×Int)->Option (Int×Int×((List (List Int))×((List Int)×(List (List Int))))×((List (List Int))×((List Int)×(List (List Int))))×Int×Int)
 |0,_=>none
 |n+1,(t0,t1,t6,t7,t9,t10)=>
 if decide (t10<(t7.2.2.length:Int))then
 if inb t10 t7.2.2 then
 if inb t9 (gd t7.2.2 t10 [])then
 if(gd (gd t7.2.2 t10 []) t9 0)==0 then
 Ao n (t0,t1,(t6.1,(t6.2.1,t6.2.2)),(t7.1,(t7.2.1,t7.2.2)),t9,w64 (t10+1))
 else
 some (t0,t1,(t6.1,(t6.2.1,t6.2.2)),(t7.1,(t7.2.1,t7.2.2)),t9,t10)
 else none
 else none
 else
 some (t0,t1,(t6.1,(t6.2.1,t6.2.2)),(t7.1,(t7.2.1,t7.2.2)),t9,t10)
def Ap:Nat->(Int×Int×((List (List Int))×((List Int)×(List (List Int))))×((List (List Int))×((List Int)×(List (List Int))))×Int×(List Int)×(List (List Int))×Int)->Option (Int×Int×((List (List Int))×((List Int)×(List (List Int))))×((List (List Int))×((List Int)×(List (List Int))))×Int×(List Int)×(List (List Int)))
 |0,_=>none
 |n+1,(t0,t1,t6,t7,t9,t11,t12,t13)=>
 if decide (t13<(t12.length:Int))then
 if inb t13 t12 then
 if inb t13 t12 then
 if inb t9 (gd t12 t13 [])then
 (Bb t0 (gd t12 t13 []) t11 (gd (gd t12 t13 []) t9 0)).bind λr6=>
 if inb t13 t12 then
 Ap n (t0,t1,(t6.1,(t6.2.1,t6.2.2)),(t7.1,(t7.2.1,t7.2.2)),t9,t11,stt t12 t13 r6,w64 (t13+1))
 else none
 else none
 else none
 else none
 else
 some (t0,t1,(t6.1,(t6.2.1,t6.2.2)),(t7.1,(t7.2.1,t7.2.2)),t9,t11,t12)
def Aq:Nat->(Int×Int×((List (List Int))×((List Int)×(List (List Int))))×((List (List Int))×((List Int)×(List (List Int))))×Int×(List Int)×(List (List Int))×Int)->Option (Int×Int×((List (List Int))×((List Int)×(List (List Int))))×((List (List Int))×((List Int)×(List (List Int))))×Int×(List Int)×(List (List Int)))
 |0,_=>none
 |n+1,(t0,t1,t6,t7,t9,t11,t12,t14)=>
 if decide (t14<(t7.1.length:Int))then
 if inb t14 t7.1 then
 if inb t14 t7.1 then
 if inb t9 (gd t7.1 t14 [])then
 (Bb t0 (gd t7.1 t14 []) t11 (gd (gd t7.1 t14 []) t9 0)).bind λr8=>
 if inb t14 t7.1 then
 Aq n (t0,t1,(t6.1,(t6.2.1,t6.2.2)),(stt t7.1 t14 r8,(t7.2.1,t7.2.2)),t9,t11,t12,w64 (t14+1))
 else none
 else none
 else none
 else none
 else
 some (t0,t1,(t6.1,(t6.2.1,t6.2.2)),(t7.1,(t7.2.1,t7.2.2)),t9,t11,t12)
def Aw:Nat->(Int×Int×((List (List Int))×((List Int)×(List (List Int))))×((List (List Int))×((List Int)×(List (List Int))))×Int)->Option (((List (List Int))×((List Int)×(List (List Int))))×((List (List Int))×((List Int)×(List (List Int)))))
 |0,_=>none
 |n+1,(t0,t1,t6,t7,t9)=>
 if decide (t9<t1)then
 (Ao Aa (t0,t1,(t6.1,(t6.2.1,t6.2.2)),(t7.1,(t7.2.1,t7.2.2)),t9,0)).bind λs3=>
 if s3.2.2.2.2.2==(s3.2.2.2.1.2.2.length:Int)then
 Aw n (s3.1,s3.2.1,(s3.2.2.1.1,(s3.2.2.1.2.1,s3.2.2.1.2.2)),(s3.2.2.2.1.1,(s3.2.2.2.1.2.1,s3.2.2.2.1.2.2)),w64 (s3.2.2.2.2.1+1))
 else
 if inb s3.2.2.2.2.2 s3.2.2.2.1.2.2 then
 if inb s3.2.2.2.2.2 s3.2.2.2.1.2.2 then
 if inb s3.2.2.2.2.1 (gd s3.2.2.2.1.2.2 s3.2.2.2.2.2 [])then
 (B2 s3.1 (gd (gd s3.2.2.2.1.2.2 s3.2.2.2.2.2 []) s3.2.2.2.2.1 0)).bind λr4=>
 (Cs s3.1 (gd s3.2.2.2.1.2.2 s3.2.2.2.2.2 []) r4).bind λr5=>
 if(0:Int)<=0/\0<=s3.2.2.2.2.2/\s3.2.2.2.2.2<=(s3.2.2.2.1.2.2.length:Int)then
 if([]:List (List Int)).length+((s3.2.2.2.1.2.2.take (Int.toNat s3.2.2.2.2.2)).drop (Int.toNat 0)).length<=lim then
 if(0:Int)<=(w64 (s3.2.2.2.2.2+1))/\(w64 (s3.2.2.2.2.2+1))<=(s3.2.2.2.1.2.2.length:Int)/\(s3.2.2.2.1.2.2.length:Int)<=(s3.2.2.2.1.2.2.length:Int)then
 if([]++((s3.2.2.2.1.2.2.take (Int.toNat s3.2.2.2.2.2)).drop (Int.toNat 0))).length+((s3.2.2.2.1.2.2.take (Int.toNat (s3.2.2.2.1.2.2.length:Int))).drop (Int.toNat (w64 (s3.2.2.2.2.2+1)))).length<=lim then
 (Ap Aa (s3.1,s3.2.1,(s3.2.2.1.1,(s3.2.2.1.2.1,s3.2.2.1.2.2)),(s3.2.2.2.1.1,(s3.2.2.2.1.2.1,s3.2.2.2.1.2.2)),s3.2.2.2.2.1,r5,([]++((s3.2.2.2.1.2.2.take (Int.toNat s3.2.2.2.2.2)).drop (Int.toNat 0)))++((s3.2.2.2.1.2.2.take (Int.toNat (s3.2.2.2.1.2.2.length:Int))).drop (Int.toNat (w64 (s3.2.2.2.2.2+1)))),0)).bind λs6=>
 (Aq Aa (s6.1,s6.2.1,(s6.2.2.1.1,(s6.2.2.1.2.1,s6.2.2.1.2.2)),(s6.2.2.2.1.1,(s6.2.2.2.1.2.1,s6.2.2.2.1.2.2)),s6.2.2.2.2.1,s6.2.2.2.2.2.1,s6.2.2.2.2.2.2,0)).bind λs7=>
 if s7.2.2.2.1.1.length+ [s7.2.2.2.2.2.1].length<=lim then
 if s7.2.2.2.1.2.1.length+ [s7.2.2.2.2.1].length<=lim then
 Aw n (s7.1,s7.2.1,(s7.2.2.1.1,(s7.2.2.1.2.1,s7.2.2.1.2.2)),(s7.2.2.2.1.1++ [s7.2.2.2.2.2.1],(s7.2.2.2.1.2.1++ [s7.2.2.2.2.1],s7.2.2.2.2.2.2)),w64 (s7.2.2.2.2.1+1))
 else none
 else none
 else none
 else none
 else none
 else none
 else none
 else none
 else none
 else
 some ((t6.1,(t6.2.1,t6.2.2)),(t7.1,(t7.2.1,t7.2.2)))
def Bv (t0:Int) (t1:Int) (t2:List (List Int)):Option (((List (List Int))×((List Int)×(List (List Int))))):=
 (AB Aa (t0,t1,t2,([],([],[])),([],([],[])),0)).bind λs1=>
 (Aw Aa (s1.1,s1.2.1,(s1.2.2.1.1,(s1.2.2.1.2.1,s1.2.2.1.2.2)),(s1.2.2.2.1,(s1.2.2.2.2.1,s1.2.2.2.2.2)),0)).bind λs2=>
 some (s2.2.1,(s2.2.2.1,s2.2.2.2))
def CE (l:Int×Int×(List (List Int))):Option (((List (List Int))×((List Int)×(List (List Int))))):=
 (Bv l.1 l.2.1 l.2.2).bind λr1=>
 some (r1.1,(r1.2.1,r1.2.2))
def Bg:Nat->(Int×((List (List Int))×(List Int)×(List (List Int)))×Int)->Option ((Unit)⊕(Bool))
 |0,_=>none
 |n+1,(vars,w,i)=>
 if decide (i<(w.2.2.length:Int))then
 if inb i w.2.2 then
 if inb vars (gd w.2.2 i [])then
 if(gd (gd w.2.2 i []) vars 0) !=0 then
 some (.inr true)
 else
 Bg n (vars,(w.1,(w.2.1,w.2.2)),w64 (i+1))
 else none
 else none
 else
 some (.inl ())
def Bq (w:(List (List Int))×(List Int)×(List (List Int))) (vars:Int):Option (Bool):=
 (Bg Aa (vars,(w.1,(w.2.1,w.2.2)),0)).bind λs1=>
  match s1 with
  | .inl s2=>
   some false
  | .inr s3=>
   some s3
def BE (l:Int×Int×(List (List Int))):Option (Int×Bool):=
 (Bi (l.1,(l.2.1,l.2.2))).bind λr1=>
 if !r1 then
 some (0,false)
 else
 (CE (l.1,(l.2.1,l.2.2))).bind λr2=>
 (Bq (r2.1,(r2.2.1,r2.2.2)) l.2.1).bind λr3=>
 if r3 then
 some (0,true)
 else
 (Da l.1 (w64 (l.2.1-(r2.2.1.length:Int)))).bind λr4=>
 some (r4,true)
def AJ:Nat->((List (List Int))×(List (List Int))×Int×Int)->Option ((List (List Int)))
 |0,_=>none
 |n+1,(list,t7,t8,t9)=>
 if decide (t9<t8)then
 if inb t9 t7 then
 (C4 (gd t7 t9 [])).bind λr1=>
 if list.length+ [r1].length<=lim then
 AJ n (list++ [r1],t7,t8,w64 (t9+1))
 else none
 else none
 else
 some list
def B8 (rows:List (List Int)):Option ((List (List Int))):=
 (AJ Aa ([],rows,(rows.length:Int),0)).bind λs1=>
 some s1
def Ce:Nat->(Int×Int×Int)->Option ((Unit)⊕(Int))
 |0,_=>none
 |n+1,(x,p,y)=>
 if decide (y<p)then
 if p≠0 then
 if(Int.tmod (w64 (x*y)) p)==1 then
 some (.inr y)
 else
 Ce n (x,p,w64 (y+1))
 else none
 else
 some (.inl ())
def BL (x:Int) (p:Int):Option (Int):=
 (Ce Aa (x,p,1)).bind λs1=>
  match s1 with
  | .inl s2=>
   some 0
  | .inr s3=>
   some s3
def AK:Nat->(Int×Int×(Int×(Int×((List (List Int))×(Int×(List Int)))))×Int×Int)->Option (Int×Int×(Int×(Int×((List (List Int))×(Int×(List Int)))))×Int×Int)
 |0,_=>none
 |n+1,(t0,t1,t7,t8,t9)=>
 if decide (t9<(t7.2.2.1.length:Int))then
 if inb t9 t7.2.2.1 then
 if inb t8 (gd t7.2.2.1 t9 [])then
 if(gd (gd t7.2.2.1 t9 []) t8 0)==0 then
 AK n (t0,t1,(t7.1,(t7.2.1,(t7.2.2.1,(t7.2.2.2.1,t7.2.2.2.2)))),t8,w64 (t9+1))
 else
 some (t0,t1,(t7.1,(t7.2.1,(t7.2.2.1,(t7.2.2.2.1,t7.2.2.2.2)))),t8,t9)
 else none
 else none
 else
 some (t0,t1,(t7.1,(t7.2.1,(t7.2.2.1,(t7.2.2.2.1,t7.2.2.2.2)))),t8,t9)
def AF:Nat->(Int×Int×Int×(Int×(Int×((List (List Int))×(Int×(List Int)))))×Int×Int×Int×Int)->Option (Int×Int×Int×(Int×(Int×((List (List Int))×(Int×(List Int)))))×Int)
 |0,_=>none
 |n+1,(row10,t0,t1,t7,t8,t11,t110,t111)=>
 if decide (t111<t110)then
 if inb t111 (gd t7.2.2.1 row10 [])then
 if t0≠0 then
 if inb t111 (gd t7.2.2.1 row10 [])then
 AF n (row10,t0,t1,(t7.1,(t7.2.1,(stt t7.2.2.1 row10 (stt (gd t7.2.2.1 row10 []) t111 (Int.tmod (w64 ((gd (gd t7.2.2.1 row10 []) t111 0)*t11)) t0)),(t7.2.2.2.1,t7.2.2.2.2)))),t8,t11,t110,w64 (t111+1))
 else none
 else none
 else none
 else
 some (row10,t0,t1,(t7.1,(t7.2.1,(t7.2.2.1,(t7.2.2.2.1,t7.2.2.2.2)))),t8)
def AG:Nat->(Int×Int×Unit×Int×Int×(Int×(Int×((List (List Int))×(Int×(List Int)))))×Int×Int×Int×Int×Int×Int)->Option (Int×Unit×Int×Int×(Int×(Int×((List (List Int))×(Int×(List Int)))))×Int×Int×Int)
 |0,_=>none
 |n+1,(row10,row14,al129,t0,t1,t7,t8,t15,t130,t131,t151,t152)=>
 if decide (t152<t151)then
 if inb t152 (gd t7.2.2.1 row14 [])then
 if inb t152 (gd t7.2.2.1 row10 [])then
 if t0≠0 then
 if inb t152 (gd t7.2.2.1 row14 [])then
 AG n (row10,row14,(),t0,t1,(t7.1,(t7.2.1,(stt t7.2.2.1 row14 (stt (gd t7.2.2.1 row14 []) t152 (Int.tmod (w64 ((gd (gd t7.2.2.1 row14 []) t152 0)+(w64 ((w64 (t0-t15))*(gd (gd t7.2.2.1 row10 []) t152 0))))) t0)),(t7.2.2.2.1,t7.2.2.2.2)))),t8,t15,t130,t131,t151,w64 (t152+1))
 else none
 else none
 else none
 else none
 else
 some (row10,(),t0,t1,(t7.1,(t7.2.1,(t7.2.2.1,(t7.2.2.2.1,t7.2.2.2.2)))),t8,t130,t131)
def Au:Nat->(Int×Unit×Int×Int×(Int×(Int×((List (List Int))×(Int×(List Int)))))×Int×Int×Int)->Option (Int×Int×(Int×(Int×((List (List Int))×(Int×(List Int)))))×Int)
 |0,_=>none
 |n+1,(row10,al129,t0,t1,t7,t8,t130,t131)=>
 if decide (t131<t130)then
 if inb t131 t7.2.2.1 then
 if inb t8 (gd t7.2.2.1 t131 [])then
 if t131 !=t7.2.2.2.1 then
 if(gd (gd t7.2.2.1 t131 []) t8 0) !=0 then
 (AG Aa (row10,t131,(),t0,t1,(t7.1,(t7.2.1,(t7.2.2.1,(t7.2.2.2.1,t7.2.2.2.2)))),t8,gd (gd t7.2.2.1 t131 []) t8 0,t130,t131,((gd t7.2.2.1 t131 []).length:Int),0)).bind λs6=>
 Au n (s6.1,(),s6.2.2.1,s6.2.2.2.1,(s6.2.2.2.2.1.1,(s6.2.2.2.2.1.2.1,(s6.2.2.2.2.1.2.2.1,(s6.2.2.2.2.1.2.2.2.1,s6.2.2.2.2.1.2.2.2.2)))),s6.2.2.2.2.2.1,s6.2.2.2.2.2.2.1,w64 (s6.2.2.2.2.2.2.2+1))
 else
 Au n (row10,(),t0,t1,(t7.1,(t7.2.1,(t7.2.2.1,(t7.2.2.2.1,t7.2.2.2.2)))),t8,t130,w64 (t131+1))
 else
 Au n (row10,(),t0,t1,(t7.1,(t7.2.1,(t7.2.2.1,(t7.2.2.2.1,t7.2.2.2.2)))),t8,t130,w64 (t131+1))
 else none
 else none
 else
 some (t0,t1,(t7.1,(t7.2.1,(t7.2.2.1,(t7.2.2.2.1,t7.2.2.2.2)))),t8)
def AC:Nat->(Int×Int×(Int×(Int×((List (List Int))×(Int×(List Int)))))×Int)->Option ((Int×(Int×((List (List Int))×(Int×(List Int))))))
 |0,_=>none
 |n+1,(t0,t1,t7,t8)=>
 if decide (t8<t1)then
 (AK Aa (t0,t1,(t7.1,(t7.2.1,(t7.2.2.1,(t7.2.2.2.1,t7.2.2.2.2)))),t8,t7.2.2.2.1)).bind λs3=>
 if s3.2.2.2.2==(s3.2.2.1.2.2.1.length:Int)then
 AC n (s3.1,s3.2.1,(s3.2.2.1.1,(s3.2.2.1.2.1,(s3.2.2.1.2.2.1,(s3.2.2.1.2.2.2.1,s3.2.2.1.2.2.2.2)))),w64 (s3.2.2.2.1+1))
 else
 if inb s3.2.2.2.2 s3.2.2.1.2.2.1 then
 if(0:Int)<=(w64 (s3.2.2.1.2.2.2.1+1))/\(w64 (s3.2.2.1.2.2.2.1+1))<=(w64 (s3.2.2.2.2+1))/\(w64 (s3.2.2.2.2+1))<=(s3.2.2.1.2.2.1.length:Int)then
 if(0:Int)<=s3.2.2.1.2.2.2.1/\s3.2.2.1.2.2.2.1<=s3.2.2.2.2/\s3.2.2.2.2<=(s3.2.2.1.2.2.1.length:Int)then
 if(w64 (s3.2.2.1.2.2.2.1+1))=s3.2.2.1.2.2.2.1+1/\(w64 (s3.2.2.2.2+1))=s3.2.2.2.2+1/\s3.2.2.2.2=s3.2.2.2.2 then
 if inb s3.2.2.1.2.2.2.1 (upL s3.2.2.1.2.2.1 (Int.toNat s3.2.2.1.2.2.2.1) (Int.toNat s3.2.2.2.2) [])then
 if s3.2.2.1.2.2.2.1=s3.2.2.1.2.2.2.1 then
 if inb s3.2.2.2.1 (gd (stt (upL s3.2.2.1.2.2.1 (Int.toNat s3.2.2.1.2.2.2.1) (Int.toNat s3.2.2.2.2) []) s3.2.2.1.2.2.2.1 (gd s3.2.2.1.2.2.1 s3.2.2.2.2 [])) s3.2.2.1.2.2.2.1 [])then
 (BL (gd (gd (stt (upL s3.2.2.1.2.2.1 (Int.toNat s3.2.2.1.2.2.2.1) (Int.toNat s3.2.2.2.2) []) s3.2.2.1.2.2.2.1 (gd s3.2.2.1.2.2.1 s3.2.2.2.2 [])) s3.2.2.1.2.2.2.1 []) s3.2.2.2.1 0) s3.1).bind λr4=>
 (AF Aa (s3.2.2.1.2.2.2.1,s3.1,s3.2.1,(s3.2.2.1.1,(s3.2.2.1.2.1,(stt (upL s3.2.2.1.2.2.1 (Int.toNat s3.2.2.1.2.2.2.1) (Int.toNat s3.2.2.2.2) []) s3.2.2.1.2.2.2.1 (gd s3.2.2.1.2.2.1 s3.2.2.2.2 []),(s3.2.2.1.2.2.2.1,s3.2.2.1.2.2.2.2)))),s3.2.2.2.1,r4,((gd (stt (upL s3.2.2.1.2.2.1 (Int.toNat s3.2.2.1.2.2.2.1) (Int.toNat s3.2.2.2.2) []) s3.2.2.1.2.2.2.1 (gd s3.2.2.1.2.2.1 s3.2.2.2.2 [])) s3.2.2.1.2.2.2.1 []).length:Int),0)).bind λs5=>
 (Au Aa (s5.1,(),s5.2.1,s5.2.2.1,(s5.2.2.2.1.1,(s5.2.2.2.1.2.1,(s5.2.2.2.1.2.2.1,(s5.2.2.2.1.2.2.2.1,s5.2.2.2.1.2.2.2.2)))),s5.2.2.2.2,(s5.2.2.2.1.2.2.1.length:Int),0)).bind λs6=>
 if inb s6.2.2.2 s6.2.2.1.2.2.2.2 then
 AC n (s6.1,s6.2.1,(s6.2.2.1.1,(s6.2.2.1.2.1,(s6.2.2.1.2.2.1,(w64 (s6.2.2.1.2.2.2.1+1),stt s6.2.2.1.2.2.2.2 s6.2.2.2 s6.2.2.1.2.2.2.1)))),w64 (s6.2.2.2+1))
 else none
 else none
 else none
 else none
 else none
 else none
 else none
 else none
 else
 some (t7.1,(t7.2.1,(t7.2.2.1,(t7.2.2.2.1,t7.2.2.2.2))))
def BK (t0:Int) (t1:Int) (t2:List (List Int)):Option ((Bool×Int×Int×(List (List Int))×Int×(List Int))):=
 (B8 t2).bind λr1=>
 (B9 t1).bind λr2=>
 (AC Aa (t0,t1,(t0,(t1,(r1,(0,r2)))),0)).bind λs3=>
 some (true,(s3.1,(s3.2.1,(s3.2.2.1,(s3.2.2.2.1,s3.2.2.2.2)))))
def AI (l:Int×Int×(List (List Int))):Option ((Bool×Int×Int×(List (List Int))×Int×(List Int))):=
 (BK l.1 l.2.1 l.2.2).bind λr1=>
 some r1
def AQ:Nat->(Unit×(Int×(Int×((List (List Int))×(Int×(List Int)))))×(List Int)×Int×Int)->Option ((Int×(Int×((List (List Int))×(Int×(List Int)))))×(List Int))
 |0,_=>none
 |n+1,(al10,e,list,t11,t12)=>
 if decide (t12<t11)then
 if inb t12 e.2.2.2.2 then
 if decide ((gd e.2.2.2.2 t12 0)<0)then
 if list.length+ [t12].length<=lim then
 AQ n ((),(e.1,(e.2.1,(e.2.2.1,(e.2.2.2.1,e.2.2.2.2)))),list++ [t12],t11,w64 (t12+1))
 else none
 else
 AQ n ((),(e.1,(e.2.1,(e.2.2.1,(e.2.2.2.1,e.2.2.2.2)))),list,t11,w64 (t12+1))
 else none
 else
 some ((e.1,(e.2.1,(e.2.2.1,(e.2.2.2.1,e.2.2.2.2)))),list)
def Ci (e:Int×(Int×((List (List Int))×(Int×(List Int))))):Option ((Int×(Int×((List (List Int))×(Int×(List Int)))))×(List Int)):=
 (AQ Aa ((),(e.1,(e.2.1,(e.2.2.1,(e.2.2.2.1,e.2.2.2.2)))),[],(e.2.2.2.2.length:Int),0)).bind λs1=>
 some ((s1.1.1,(s1.1.2.1,(s1.1.2.2.1,(s1.1.2.2.2.1,s1.1.2.2.2.2)))),s1.2)
def Av:Nat->((Bool×Int×Int×(List (List Int))×Int×(List Int))×(List (List Int))×Int×Int)->Option ((Unit)⊕(Bool))
 |0,_=>none
 |n+1,(e,t13,t14,t15)=>
 if decide (t15<t14)then
 if inb t15 t13 then
 if e.1=true then
 if inb e.2.2.1 (gd t13 t15 [])then
 if(gd (gd t13 t15 []) e.2.2.1 0) !=0 then
 some (.inr true)
 else
 Av n (e,t13,t14,w64 (t15+1))
 else none
 else none
 else none
 else
 some (.inl ())
def Bd (e:Bool×Int×Int×(List (List Int))×Int×(List Int)):Option (Bool):=
 if e.1=true then
  if e.1=true then
   if(0:Int)<=e.2.2.2.2.1/\e.2.2.2.2.1<=(e.2.2.2.1.length:Int)/\(e.2.2.2.1.length:Int)<=(e.2.2.2.1.length:Int)then
    (Av Aa (e,(e.2.2.2.1.take (Int.toNat (e.2.2.2.1.length:Int))).drop (Int.toNat e.2.2.2.2.1),(((e.2.2.2.1.take (Int.toNat (e.2.2.2.1.length:Int))).drop (Int.toNat e.2.2.2.2.1)).length:Int),0)).bind λs1=>
     match s1 with
     | .inl s2=>
      some false
     | .inr s3=>
      some s3
   else none
  else none
 else none
def Ae:Nat->((List Int)×(List Int)×Int×Int)->Option ((List Int))
 |0,_=>none
 |n+1,(list,t10,t11,t12)=>
 if decide (t12<t11)then
 if inb t12 t10 then
 if decide ((gd t10 t12 0)<0)then
 if list.length+ [t12].length<=lim then
 Ae n (list++ [t12],t10,t11,w64 (t12+1))
 else none
 else
 Ae n (list,t10,t11,w64 (t12+1))
 else none
 else
 some list
def Ai (e:Bool×Int×Int×(List (List Int))×Int×(List Int)):Option ((List Int)):=
 if e.1=true then
 (Ae Aa ([],e.2.2.2.2.2,(e.2.2.2.2.2.length:Int),0)).bind λs1=>
 some s1
 else none
def AU (l:Int×Int×(List (List Int))):Option (Int×Bool):=
 (Ch (l.1,(l.2.1,l.2.2))).bind λr1=>
 if !r1 then
 some (0,false)
 else
 (AI (l.1,(l.2.1,l.2.2))).bind λr2=>
 (Bd r2).bind λr3=>
 if r3 then
 some (0,true)
 else
 (Ai r2).bind λr4=>
 (C5 l.1 (r4.length:Int)).bind λr5=>
 some (r5,true)
def AP:Nat->(Int×((List (List Int))×(List Int)×(List (List Int)))×(List Int)×Int)->Option ((List Int))
 |0,_=>none
 |n+1,(vars,w,out,v)=>
 if decide (v<vars)then
 (C8 w.2.1 v).bind λr1=>
 if !r1 then
 if out.length+ [v].length<=lim then
 AP n (vars,(w.1,(w.2.1,w.2.2)),out++ [v],w64 (v+1))
 else none
 else
 AP n (vars,(w.1,(w.2.1,w.2.2)),out,w64 (v+1))
 else
 some out
def B4 (w:(List (List Int))×(List Int)×(List (List Int))) (vars:Int):Option ((List Int)):=
 (AP Aa (vars,(w.1,(w.2.1,w.2.2)),[],0)).bind λs1=>
 some s1
def BH (a:Int×(Int×(List (List Int)))) (k:Int):Option ((Unit×(Unit×(List (List Int))))×Int):=
 (BO a.2.2 k).bind λr1=>
 some (((),((),r1.1)),r1.2)
def AX:Nat->(Int×((List (List Int))×((List Int)×(List (List Int))))×(List Int)×Int)->Option ((List Int))
 |0,_=>none
 |n+1,(vars,w,out,i)=>
 if decide (i<(w.2.1.length:Int))then
 if inb i w.2.1 then
 if inb i w.1 then
 if inb vars (gd w.1 i [])then
 if inb (gd w.2.1 i 0) out then
 AX n (vars,(w.1,(w.2.1,w.2.2)),stt out (gd w.2.1 i 0) (gd (gd w.1 i []) vars 0),w64 (i+1))
 else none
 else none
 else none
 else none
 else
 some out
def Ct (p:Int) (vars:Int) (rows:List (List Int)):Option ((List Int)×Bool):=
 (Bv p vars rows).bind λr1=>
 (Bq (r1.1,(r1.2.1,r1.2.2)) vars).bind λr2=>
 if r2 then
 some ([],false)
 else
 if 0<=vars/\vars<=vars/\vars<=lim then
 (AX Aa (vars,(r1.1,(r1.2.1,r1.2.2)),List.replicate (Int.toNat vars) (0:Int),0)).bind λs3=>
 some (s3,true)
 else none
def Bt:Nat->(Unit×(Int×(Int×((List (List Int))×(Int×(List Int)))))×(List Int)×(List Int)×(List Int)×Int×Int)->Option ((Int×(Int×((List (List Int))×(Int×(List Int)))))×(List Int)×(List Int)×(List Int))
 |0,_=>none
 |n+1,(al21,t0,t1,t5,t6,t22,t23)=>
 if decide (t23<t22)then
 if inb t23 t6 then
 if inb t23 t1 then
 if inb (gd t6 t23 0) t5 then
 Bt n ((),(t0.1,(t0.2.1,(t0.2.2.1,(t0.2.2.2.1,t0.2.2.2.2)))),t1,stt t5 (gd t6 t23 0) (gd t1 t23 0),t6,t22,w64 (t23+1))
 else none
 else none
 else none
 else
 some ((t0.1,(t0.2.1,(t0.2.2.1,(t0.2.2.2.1,t0.2.2.2.2)))),t1,t5,t6)
def Bj:Nat->(Unit×Unit×(Int×(Int×((List (List Int))×(Int×(List Int)))))×(List Int)×(List Int)×(List Int)×Int×Int×Int×Int×Int×Int×Int)->Option (Unit×(Int×(Int×((List (List Int))×(Int×(List Int)))))×(List Int)×(List Int)×(List Int)×Int×Int×Int×Int)
 |0,_=>none
 |n+1,(al39,al61,t0,t1,t5,t6,t9,t10,t11,t40,t41,t62,t63)=>
 if decide (t63<t62)then
 if inb t63 t6 then
 if inb t10 t0.2.2.1 then
 if inb (gd t6 t63 0) (gd t0.2.2.1 t10 [])then
 if inb t63 t1 then
 Bj n ((),(),(t0.1,(t0.2.1,(t0.2.2.1,(t0.2.2.2.1,t0.2.2.2.2)))),t1,t5,t6,t9,t10,w64 (t11+(w64 ((w64 (t0.1-(gd (gd t0.2.2.1 t10 []) (gd t6 t63 0) 0)))*(gd t1 t63 0)))),t40,t41,t62,w64 (t63+1))
 else none
 else none
 else none
 else none
 else
 some ((),(t0.1,(t0.2.1,(t0.2.2.1,(t0.2.2.2.1,t0.2.2.2.2)))),t1,t5,t6,t9,t11,t40,t41)
def AR:Nat->(Unit×(Int×(Int×((List (List Int))×(Int×(List Int)))))×(List Int)×(List Int)×(List Int)×Int×Int)->Option ((Int×(Int×((List (List Int))×(Int×(List Int)))))×(List Int))
 |0,_=>none
 |n+1,(al39,t0,t1,t5,t6,t40,t41)=>
 if decide (t41<t40)then
 if inb t41 t0.2.2.2.2 then
 if decide ((gd t0.2.2.2.2 t41 0)<0)then
 AR n ((),(t0.1,(t0.2.1,(t0.2.2.1,(t0.2.2.2.1,t0.2.2.2.2)))),t1,t5,t6,t40,w64 (t41+1))
 else
 if inb (gd t0.2.2.2.2 t41 0) t0.2.2.1 then
 if inb t0.2.1 (gd t0.2.2.1 (gd t0.2.2.2.2 t41 0) [])then
 (Bj Aa ((),(),(t0.1,(t0.2.1,(t0.2.2.1,(t0.2.2.2.1,t0.2.2.2.2)))),t1,t5,t6,t41,gd t0.2.2.2.2 t41 0,gd (gd t0.2.2.1 (gd t0.2.2.2.2 t41 0) []) t0.2.1 0,t40,t41,(t6.length:Int),0)).bind λs3=>
 if s3.2.1.1≠0 then
 if inb s3.2.2.2.2.2.1 s3.2.2.2.1 then
 AR n ((),(s3.2.1.1,(s3.2.1.2.1,(s3.2.1.2.2.1,(s3.2.1.2.2.2.1,s3.2.1.2.2.2.2)))),s3.2.2.1,stt s3.2.2.2.1 s3.2.2.2.2.2.1 (Int.tmod s3.2.2.2.2.2.2.1 s3.2.1.1),s3.2.2.2.2.1,s3.2.2.2.2.2.2.2.1,w64 (s3.2.2.2.2.2.2.2.2+1))
 else none
 else none
 else none
 else none
 else none
 else
 some ((t0.1,(t0.2.1,(t0.2.2.1,(t0.2.2.2.1,t0.2.2.2.2)))),t5)
def DN (t0:Int×(Int×((List (List Int))×(Int×(List Int))))) (t1:List Int):Option ((Int×(Int×((List (List Int))×(Int×(List Int)))))×(List Int)):=
 if 0<=t0.2.1/\t0.2.1<=t0.2.1/\t0.2.1<=lim then
 (Ci (t0.1,(t0.2.1,(t0.2.2.1,(t0.2.2.2.1,t0.2.2.2.2))))).bind λr1=>
 (Bt Aa ((),(r1.1.1,(r1.1.2.1,(r1.1.2.2.1,(r1.1.2.2.2.1,r1.1.2.2.2.2)))),t1,List.replicate (Int.toNat t0.2.1) (0:Int),r1.2,(r1.2.length:Int),0)).bind λs2=>
 (AR Aa ((),(s2.1.1,(s2.1.2.1,(s2.1.2.2.1,(s2.1.2.2.2.1,s2.1.2.2.2.2)))),s2.2.1,s2.2.2.1,s2.2.2.2,(s2.1.2.2.2.2.length:Int),0)).bind λs3=>
 some ((s3.1.1,(s3.1.2.1,(s3.1.2.2.1,(s3.1.2.2.2.1,s3.1.2.2.2.2)))),s3.2)
 else none
def Aj:Nat->(Unit×(Bool×Int×Int×(List (List Int))×Int×(List Int))×(List Int)×(List Int)×(List Int)×Int×Int)->Option ((Bool×Int×Int×(List (List Int))×Int×(List Int))×(List Int)×(List Int)×(List Int))
 |0,_=>none
 |n+1,(al21,t0,t1,t5,t6,t22,t23)=>
 if decide (t23<t22)then
 if inb t23 t6 then
 if inb t23 t1 then
 if inb (gd t6 t23 0) t5 then
 Aj n ((),t0,t1,stt t5 (gd t6 t23 0) (gd t1 t23 0),t6,t22,w64 (t23+1))
 else none
 else none
 else none
 else
 some (t0,t1,t5,t6)
def Ah:Nat->(Unit×(Bool×Int×Int×(List (List Int))×Int×(List Int))×(List Int)×(List Int)×(List Int)×Int×Int×Int×(List Int)×Int×Int×Int×Int)->Option ((Bool×Int×Int×(List (List Int))×Int×(List Int))×(List Int)×(List Int)×(List Int)×Int×Int×(List Int)×Int×Int)
 |0,_=>none
 |n+1,(al61,t0,t1,t5,t6,t9,t10,t11,t39,t40,t41,t62,t63)=>
 if decide (t63<t62)then
 if inb t63 t6 then
 if t0.1=true then
 if t0.1=true then
 if inb t10 t0.2.2.2.1 then
 if inb (gd t6 t63 0) (gd t0.2.2.2.1 t10 [])then
 if inb t63 t1 then
 Ah n ((),t0,t1,t5,t6,t9,t10,w64 (t11+(w64 ((w64 (t0.2.1-(gd (gd t0.2.2.2.1 t10 []) (gd t6 t63 0) 0)))*(gd t1 t63 0)))),t39,t40,t41,t62,w64 (t63+1))
 else none
 else none
 else none
 else none
 else none
 else none
 else
 some (t0,t1,t5,t6,t9,t11,t39,t40,t41)
def Af:Nat->((Bool×Int×Int×(List (List Int))×Int×(List Int))×(List Int)×(List Int)×(List Int)×(List Int)×Int×Int)->Option ((List Int))
 |0,_=>none
 |n+1,(t0,t1,t5,t6,t39,t40,t41)=>
 if decide (t41<t40)then
 if inb t41 t39 then
 if decide ((gd t39 t41 0)<0)then
 Af n (t0,t1,t5,t6,t39,t40,w64 (t41+1))
 else
 if t0.1=true then
 if inb (gd t39 t41 0) t0.2.2.2.1 then
 if t0.1=true then
 if inb t0.2.2.1 (gd t0.2.2.2.1 (gd t39 t41 0) [])then
 (Ah Aa ((),t0,t1,t5,t6,t41,gd t39 t41 0,gd (gd t0.2.2.2.1 (gd t39 t41 0) []) t0.2.2.1 0,t39,t40,t41,(t6.length:Int),0)).bind λs3=>
 if s3.1.1=true then
 if s3.1.2.1≠0 then
 if inb s3.2.2.2.2.1 s3.2.2.1 then
 Af n (s3.1,s3.2.1,stt s3.2.2.1 s3.2.2.2.2.1 (Int.tmod s3.2.2.2.2.2.1 s3.1.2.1),s3.2.2.2.1,s3.2.2.2.2.2.2.1,s3.2.2.2.2.2.2.2.1,w64 (s3.2.2.2.2.2.2.2.2+1))
 else none
 else none
 else none
 else none
 else none
 else none
 else none
 else none
 else
 some t5
def AY (t0:Bool×Int×Int×(List (List Int))×Int×(List Int)) (t1:List Int):Option ((List Int)):=
 if t0.1=true then
 if 0<=t0.2.2.1/\t0.2.2.1<=t0.2.2.1/\t0.2.2.1<=lim then
 (Ai t0).bind λr1=>
 (Aj Aa ((),t0,t1,List.replicate (Int.toNat t0.2.2.1) (0:Int),r1,(r1.length:Int),0)).bind λs2=>
 if s2.1.1=true then
 (Af Aa (s2.1,s2.2.1,s2.2.2.1,s2.2.2.2,s2.1.2.2.2.2.2,(s2.1.2.2.2.2.2.length:Int),0)).bind λs3=>
 some s3
 else none
 else none
 else none
end T
open Go Go.Va
namespace T
def mix {α:Type} (nw old:Nat->α) (N i:Nat):List α:=(List.range N).map λq=>if q<i then nw q else old q
section
variable {α:Type} {nw old:Nat->α} {N i:Nat}
theorem BX:(mix nw old N i).length=N:=by simp[mix]
theorem CV {q:Nat} {d:α} (h:q<N):(mix nw old N i).getD q d=if q<i then nw q else old q:=by
 rw[Ad (by rw[BX];exact h)];simp[mix]
theorem CX (h:i<N):(mix nw old N i).set i (nw i)=mix nw old N (i+1):=by
 unfold mix
 apply List.ext_getElem
 ·simp
 ·intro q h1 h2
  rw[List.getElem_set]
  simp only[List.getElem_map,List.getElem_range]
  by_cases e:i=q
  ·subst e;rw[if_pos rfl,if_pos (by omega)]
  ·rw[if_neg e]
   by_cases e2:q<i
   ·rw[if_pos e2,if_pos (by omega)]
   ·rw[if_neg e2,if_neg (by omega)]
theorem Ei (h:i<N) (he:nw i=old i):mix nw old N (i+1)=mix nw old N i:=by
 unfold mix
 refine List.map_congr_left λq hq=>?_
 by_cases e:q=i
 ·subst e;rw[if_pos (by omega),if_neg (by omega),he]
 ·by_cases e2:q<i
  ·rw[if_pos e2,if_pos (by omega)]
  ·rw[if_neg e2,if_neg (by omega)]
theorem CQ {l:List α} {d:α} (h:l.length=N):mix nw (λq=>l.getD q d) N 0=l:=by
 apply List.ext_getElem
 ·rw[BX,h]
 ·intro q h1 h2
  simp only[mix,List.getElem_map,List.getElem_range]
  rw[if_neg (by omega),Ad h2]
theorem Cv:mix nw old N N=(List.range N).map nw:=by
 unfold mix
 refine List.map_congr_left λq hq=>?_
 rw[if_pos (List.mem_range.1 hq)]
end
def pr4 (p:Int):Prop:=p=2∨p=3∨p=5∨p=7
def Az (p:Int) (W:Nat) (r:List Int):Prop:=r.length=W/\ ∀x∈r,0<=x/\x<p
def Cj (p x:Int):Int:=(BL x p).getD 0
theorem Fy: ∀p:Fin 8,∀x:Fin 8,(p.val=2∨p.val=3∨p.val=5∨p.val=7)->0<x.val->x.val<p.val->
  BL (x.val:Int) (p.val:Int)=some (Cj (p.val:Int) (x.val:Int))/\B2 (p.val:Int) (x.val:Int)=some (Cj (p.val:Int) (x.val:Int))/\1<=Cj (p.val:Int) (x.val:Int)/\Cj (p.val:Int) (x.val:Int)<(p.val:Int):=by decide+kernel
theorem Ew {p x:Int} (hp:pr4 p) (h0:0<x) (h1:x<p):BL x p=some (Cj p x)/\B2 p x=some (Cj p x)/\1<=Cj p x/\Cj p x<p:=by
 unfold pr4 at hp
 have:=Fy ⟨p.toNat,by omega⟩ ⟨x.toNat,by omega⟩ (by simp;omega) (by simp;omega) (by simp;omega)
 simp only[Int.toNat_of_nonneg (show 0<=p by omega),Int.toNat_of_nonneg (show 0<=x by omega)]at this
 exact this
def Ar (p b:Int) (r:List Int):List Int:=(List.range r.length).map λi=>Int.tmod (r.getD i 0*b) p
def AE (p:Int) (row:List Int) (v:Nat) (r:List Int):List Int:=(List.range r.length).map λi=>Int.tmod (r.getD i 0+(p-r.getD v 0)*row.getD i 0) p
section
variable {p:Int} {W:Nat} {r row:List Int}
theorem Bs (h:Az p W r) {i:Nat} (hi:i<W):0<=r.getD i 0/\r.getD i 0<p:=by
 have:i<r.length:=by rw[h.1];exact hi
 rw[Ad this];exact h.2 _ (List.getElem_mem this)
theorem Fd (hp:pr4 p) {x:Int} (h:0<=x):0<=Int.tmod x p/\Int.tmod x p<p:=by
 unfold pr4 at hp
 rw[Int.tmod_eq_emod_of_nonneg h]
 exact⟨Int.emod_nonneg _ (by omega),Int.emod_lt_of_pos _ (by omega)⟩
theorem D6 {a b:Int} (h0:0<=a) (h1:a<=8) (g0:0<=b) (g1:b<=8):0<=a*b/\a*b<=64:=by
 have h2:=Int.mul_nonneg h0 g0
 have h3:=Int.mul_le_mul h1 g1 g0 (by omega)
 exact⟨h2,by omega⟩
theorem DG (hp:pr4 p) (h:Az p W r) {b:Int} (hb:0<=b/\b<p):Az p W (Ar p b r):=by
 refine⟨by unfold Ar;simp;exact h.1,λx hx=>?_⟩
 unfold Ar at hx
 obtain⟨i,hi,rfl⟩:=List.mem_map.1 hx
 have hi:=List.mem_range.1 hi
 have:=Bs h (i:=i) (by rw[←h.1];exact hi)
 exact Fd hp (Int.mul_nonneg this.1 hb.1)
theorem EB (hp:pr4 p) (h:Az p W r) (hr:Az p W row) {v:Nat} (hv:v<W):Az p W (AE p row v r):=by
 refine⟨by unfold AE;simp;exact h.1,λx hx=>?_⟩
 unfold AE at hx
 obtain⟨i,hi,rfl⟩:=List.mem_map.1 hx
 have hi:=List.mem_range.1 hi
 have h1:=Bs h (i:=i) (by rw[←h.1];exact hi)
 have h2:=Bs hr (i:=i) (by rw[←h.1];exact hi)
 have h3:=Bs h hv
 exact Fd hp (by have:=Int.mul_nonneg (show 0<=p-r.getD v 0 by omega) h2.1;omega)
theorem EM (hp:pr4 p) (h:Az p W r) (hr:Az p W row) {v:Nat} (h0:r.getD v 0=0):AE p row v r=r:=by
 unfold AE
 apply List.ext_getElem
 ·simp
 ·intro i h1 h2
  simp only[List.getElem_map,List.getElem_range]
  have g:=h.2 _ (List.getElem_mem h2)
  have g2:=Bs hr (i:=i) (by rw[←h.1];exact h2)
  rw[h0,Int.sub_zero,Ad h2]
  have hnn:=Int.mul_nonneg (show 0<=p by unfold pr4 at hp;omega) g2.1
  rw[Int.tmod_eq_emod_of_nonneg (by omega),Int.add_mul_emod_self_left]
  exact Int.emod_eq_of_lt g.1 g.2
theorem AO {x:Int} (h0: -1000000<=x) (h1:x<=1000000):w64 x=x:=A7 (by omega) (by omega)
theorem Fa (hp:pr4 p) (h:Az p W r) (hr:Az p W row) {v i:Nat} (hv:v<W) (hi:i<W):
  Int.tmod (w64 (r.getD i 0+w64 (w64 (p-r.getD v 0)*row.getD i 0))) p=Int.tmod (r.getD i 0+(p-r.getD v 0)*row.getD i 0) p:=by
 have h1:=Bs h hi
 have h2:=Bs hr hi
 have h3:=Bs h hv
 unfold pr4 at hp
 have h4:=D6 (a:=p-r.getD v 0) (b:=row.getD i 0) (by omega) (by omega) (by omega) (by omega)
 rw[AO (x:=p-r.getD v 0) (by omega) (by omega),AO (x:=(p-r.getD v 0)*row.getD i 0) (by omega) (by omega),AO (by omega) (by omega)]
theorem Dg (hp:pr4 p) (hW:W<=1000) (h:Az p W r) (hr:Az p W row) {v:Nat} (hv:v<W):Bb p r row (r.getD v 0)=some (AE p row v r):=by
 unfold Bb
 have hlr:=h.1
 have hlo:=hr.1
 have hp0:p≠0:=by unfold pr4 at hp;omega
 have:=BZ r.length (λf o i=>Ax f (p,r,row,r.getD v 0,o,i)) (λj=>(List.range j).map λi=>Int.tmod (r.getD i 0+(p-r.getD v 0)*row.getD i 0) p) (r:=some (AE p row v r)) (λf j hj=>?_) (λf=>?_) (n:=Aa) (by unfold Aa;omega)
 ·have this:Ax Aa (p,r,row,r.getD v 0,[],0)=_:=this
  rw[this];rfl
 ·have e:(List.range (j+1)).map (λi=>Int.tmod (r.getD i 0+(p-r.getD v 0)*row.getD i 0) p)=(List.range j).map (λi=>Int.tmod (r.getD i 0+(p-r.getD v 0)*row.getD i 0) p)++ [Int.tmod (r.getD j 0+(p-r.getD v 0)*row.getD j 0) p]:=by rw[List.range_succ,List.map_append];rfl
  have hjo:j<row.length:=by omega
  simp only[Ax,Ac,hj,hjo,BR,Fa hp h hr hv (show j<W by omega),e,if_true,Ab (show j<4611686018427387904 by omega)]
  rw[if_pos (by simp;omega),if_pos hp0,if_pos (by simp;unfold lim;omega)]
 ·simp only[Ax]
  rw[if_neg (by simp)];rfl
theorem DW (hp:pr4 p) (hW:W<=1000) (h:Az p W r) {b:Int} (hb:0<=b/\b<p):Cs p r b=some (Ar p b r):=by
 unfold Cs
 have hlr:=h.1
 have hp0:p≠0:=by unfold pr4 at hp;omega
 have:=BZ r.length (λf o i=>AW f (p,r,b,o,i)) (λj=>(List.range j).map λi=>Int.tmod (r.getD i 0*b) p) (r:=some (Ar p b r)) (λf j hj=>?_) (λf=>?_) (n:=Aa) (by unfold Aa;omega)
 ·have this:AW Aa (p,r,b,[],0)=_:=this
  rw[this];rfl
 ·have e:(List.range (j+1)).map (λi=>Int.tmod (r.getD i 0*b) p)=(List.range j).map (λi=>Int.tmod (r.getD i 0*b) p)++ [Int.tmod (r.getD j 0*b) p]:=by rw[List.range_succ,List.map_append];rfl
  have h1:=Bs h (i:=j) (by omega)
  unfold pr4 at hp
  have h4:=D6 (a:=r.getD j 0) (b:=b) (by omega) (by omega) (by omega) (by omega)
  simp only[AW,Ac,hj,BR,AO (x:=r.getD j 0*b) (by omega) (by omega),e,if_true,Ab (show j<4611686018427387904 by omega)]
  rw[if_pos (by simp;omega),if_pos hp0,if_pos (by simp;unfold lim;omega)]
 ·simp only[AW]
  rw[if_neg (by simp)];rfl
end
abbrev ES:=List (List Int)×List Int×List (List Int)
def nzB (v:Nat) (r:List Int):Bool:=r.getD v 0 !=0
def B7 (p:Int) (s:ES) (v:Nat):ES:=
 let at':=s.2.2.findIdx (nzB v)
 if at'<s.2.2.length then
  let row:=Ar p (Cj p ((s.2.2.getD at' []).getD v 0)) (s.2.2.getD at' [])
  (s.1.map (AE p row v)++ [row],s.2.1++ [(v:Int)],(s.2.2.eraseIdx at').map (AE p row v))
 else s
def As (p:Int) (rows:List (List Int)) (V:Nat):ES:=(List.range V).foldl (B7 p) ([],[],rows)
structure ESok (p:Int) (W N v:Nat) (s:ES):Prop where
 t: ∀r∈s.1,Az p W r
 l: ∀r∈s.2.2,Az p W r
 bl:s.2.1.length=s.1.length
 n:s.1.length+s.2.2.length=N
 bv: ∀x∈s.2.1,0<=x/\x<(v:Int)
 bn:s.2.1.Nodup
section
variable {p:Int} {W N:Nat}
theorem D2 {l:List (List Int)} {v:Nat} (h:l.findIdx (nzB v)<l.length) (hl: ∀r∈l,Az p W r) (hv:v<W):0<(l.getD (l.findIdx (nzB v)) []).getD v 0/\(l.getD (l.findIdx (nzB v)) []).getD v 0<p/\Az p W (l.getD (l.findIdx (nzB v)) []):=by
 have h1:=List.findIdx_getElem (p:=nzB v) (xs:=l) (w:=h)
 have h2:=hl _ (List.getElem_mem h)
 rw[Ad h]
 generalize l[l.findIdx (nzB v)]'h=r at h1 h2⊢
 have h3:=Bs h2 hv
 have h4:r.getD v 0≠0:=by unfold nzB at h1;exact bne_iff_ne.1 h1
 exact⟨by omega,h3.2,h2⟩
theorem EZ (hp:pr4 p) {s:ES} {v:Nat} (h:ESok p W N v s) (hv:v<W):ESok p W N (v+1) (B7 p s v):=by
 unfold B7
 by_cases hc:s.2.2.findIdx (nzB v)<s.2.2.length
 ·obtain⟨h1,h2,h3⟩:=D2 hc h.l hv
  obtain⟨_,_,i1,i2⟩:=Ew hp h1 h2
  have hrow:=DG hp h3 (b:=Cj p ((s.2.2.getD (s.2.2.findIdx (nzB v)) []).getD v 0)) ⟨by omega,i2⟩
  dsimp only
  rw[if_pos hc]
  refine⟨λr hr=>?_,λr hr=>?_,by simp;exact h.bl,?_,λx hx=>?_,?_⟩
  ·rcases List.mem_append.1 hr with hr|hr
   ·obtain⟨q,hq,rfl⟩:=List.mem_map.1 hr
    exact EB hp (h.t q hq) hrow hv
   ·rw[List.mem_singleton.1 hr];exact hrow
  ·obtain⟨q,hq,rfl⟩:=List.mem_map.1 hr
   exact EB hp (h.l q (List.mem_of_mem_eraseIdx hq)) hrow hv
  ·have:=h.n
   have h9:(s.2.2.eraseIdx (s.2.2.findIdx (nzB v))).length=s.2.2.length-1:=List.length_eraseIdx_of_lt hc
   simp only[List.length_append,List.length_map,List.length_singleton]
   omega
  ·rcases List.mem_append.1 hx with hx|hx
   ·have:=h.bv x hx;omega
   ·rw[List.mem_singleton.1 hx];omega
  ·refine List.nodup_append.2 ⟨h.bn,by simp,λa ha b hb=>?_⟩
   rw[List.mem_singleton.1 hb]
   have:=h.bv a ha
   omega
 ·dsimp only
  rw[if_neg hc]
  exact⟨h.t,h.l,h.bl,h.n,λx hx=>by have:=h.bv x hx;omega,h.bn⟩
theorem B6 (hp:pr4 p) {rows:List (List Int)} (hr: ∀r∈rows,Az p W r): ∀v,v<=W->ESok p W rows.length v (As p rows v):=by
 intro v
 induction v with
 |zero=>intro _;exact⟨λr h=>by simp[As]at h,hr,rfl,by simp[As],λx h=>by simp[As]at h,by simp[As]⟩
 |succ v ih=>
  intro hv
  unfold As
  rw[CC]
  exact EZ hp (ih (by omega)) (by omega)
end
end T
open Go Go.Va
namespace T
section
variable {p:Int} {W N:Nat}
theorem DE {α β:Type} (g:α->β) {l:List α} {d:α}:((List.range l.length).map λq=>g (l.getD q d))=l.map g:=by
 apply List.ext_getElem
 ·simp
 ·intro i h1 h2
  simp only[List.getElem_map,List.getElem_range]
  rw[Ad (by simpa using h2)]
theorem FJ {β:Type} (l:List (List Int)) (v:Nat) (L:Nat->Int->Option β) (g:Nat->β)
  (hs: ∀n (k:Nat) (hk:k<l.length),L (n+1) k=if nzB v l[k]then some (g k)else L n ((k+1:Nat):Int)) (he: ∀n,L (n+1) (l.length:Nat)=some (g l.length)):
  ∀(c k n:Nat),k+c=l.length->c<n->L n k=some (g (k+(l.drop k).findIdx (nzB v))):=by
 intro c
 induction c with
 |zero=>
  intro k n hk hn
  obtain⟨n,rfl⟩: ∃z,n=z+1:=⟨n-1,by omega⟩
  have:k=l.length:=by omega
  subst this
  rw[he,List.drop_length];rfl
 |succ c ih=>
  intro k n hk hn
  obtain⟨n,rfl⟩: ∃z,n=z+1:=⟨n-1,by omega⟩
  have hkl:k<l.length:=by omega
  rw[hs n k hkl,List.drop_eq_getElem_cons hkl,List.findIdx_cons]
  cases hb:nzB v l[k]with
  |true=>simp
  |false=>
   simp only[Bool.false_eq_true,if_false]
   rw[ih (k+1) n (by omega) (by omega)]
   simp only[cond_false]
   congr 2;omega
theorem Fk {s:ES} {v V:Nat} (h:ESok p W N v s) (hv:v<W) (hN:N<=100000) (t6:ES):
  Ao Aa (p,(V:Int),(t6.1,(t6.2.1,t6.2.2)),(s.1,(s.2.1,s.2.2)),(v:Int),0)=some (p,(V:Int),(t6.1,(t6.2.1,t6.2.2)),(s.1,(s.2.1,s.2.2)),(v:Int),((s.2.2.findIdx (nzB v):Nat):Int)):=by
 have hn:=h.n
 have:=FJ s.2.2 v (λf i=>Ao f (p,(V:Int),(t6.1,(t6.2.1,t6.2.2)),(s.1,(s.2.1,s.2.2)),(v:Int),i)) (λk=>(p,(V:Int),(t6.1,(t6.2.1,t6.2.2)),(s.1,(s.2.1,s.2.2)),(v:Int),(k:Int))) (λf k hk=>?_) (λf=>?_) s.2.2.length 0 Aa (by omega) (by unfold Aa;omega)
 ·rw[List.drop_zero,Nat.zero_add]at this
  exact this
 ·have hr:=h.l _ (List.getElem_mem hk)
  have hvl:v<s.2.2[k].length:=by rw[hr.1];exact hv
  simp only[Ao,Ac,hk,Ay hk,hvl,BR,if_true,Ab (show k<4611686018427387904 by omega)]
  rw[if_pos (by simp;omega)]
  unfold nzB
  by_cases hz:s.2.2[k].getD v 0=0
  ·rw[if_pos (by simpa using hz),if_neg (by simpa using hz)]
  ·rw[if_neg (by simpa using hz),if_pos (by simpa using hz)]
 ·simp only[Ao]
  rw[if_neg (by simp)]
theorem Fl (hp:pr4 p) (hW:W<=1000) {l:List (List Int)} {row:List Int} (hl: ∀r∈l,Az p W r) (hlen:l.length<=100000) (hr:Az p W row) {v:Nat} (hv:v<W) (V:Int) (t6 s:ES):
  Ap Aa (p,V,(t6.1,(t6.2.1,t6.2.2)),(s.1,(s.2.1,s.2.2)),(v:Int),row,l,0)=some (p,V,(t6.1,(t6.2.1,t6.2.2)),(s.1,(s.2.1,s.2.2)),(v:Int),row,l.map (AE p row v)):=by
 have:=BZ l.length (λf o i=>Ap f (p,V,(t6.1,(t6.2.1,t6.2.2)),(s.1,(s.2.1,s.2.2)),(v:Int),row,o,i)) (λk=>mix (λq=>AE p row v (l.getD q [])) (λq=>l.getD q []) l.length k)
  (r:=some (p,V,(t6.1,(t6.2.1,t6.2.2)),(s.1,(s.2.1,s.2.2)),(v:Int),row,l.map (AE p row v))) (λf k hk=>?_) (λf=>?_) (n:=Aa) (by unfold Aa;omega)
 ·rw[CQ rfl]at this;exact this
 ·have hml:(mix (λq=>AE p row v (l.getD q [])) (λq=>l.getD q []) l.length k).length=l.length:=BX
  have hin:k<(mix (λq=>AE p row v (l.getD q [])) (λq=>l.getD q []) l.length k).length:=by rw[hml];exact hk
  have hg:(mix (λq=>AE p row v (l.getD q [])) (λq=>l.getD q []) l.length k).getD k []=l.getD k []:=by rw[CV hk,if_neg (by omega)]
  have hrk:Az p W (l.getD k []):=by rw[Ad hk];exact hl _ (List.getElem_mem hk)
  have hvl:v<(l.getD k []).length:=by rw[hrk.1];exact hv
  have hst:=CX (nw:=λq=>AE p row v (l.getD q [])) (old:=λq=>l.getD q []) hk
  simp only[Ap,Ac,hin,BR,hg,hvl,Dg hp hW hrk hr hv,Option.bind_some,AT,hst,if_true,Ab (show k<4611686018427387904 by omega)]
  rw[if_pos (by rw[hml];simp;omega)]
 ·simp only[Ap,BX]
  rw[if_neg (by simp),Cv]
  rw[DE (AE p row v)]
theorem Fm (hp:pr4 p) (hW:W<=1000) {l:List (List Int)} {row:List Int} (hl: ∀r∈l,Az p W r) (hlen:l.length<=100000) (hr:Az p W row) {v:Nat} (hv:v<W) (V:Int) (t6:ES) (b:List Int) (q:List (List Int)) (t12:List (List Int)):
  Aq Aa (p,V,(t6.1,(t6.2.1,t6.2.2)),(l,(b,q)),(v:Int),row,t12,0)=some (p,V,(t6.1,(t6.2.1,t6.2.2)),(l.map (AE p row v),(b,q)),(v:Int),row,t12):=by
 have:=BZ l.length (λf o i=>Aq f (p,V,(t6.1,(t6.2.1,t6.2.2)),(o,(b,q)),(v:Int),row,t12,i)) (λk=>mix (λq=>AE p row v (l.getD q [])) (λq=>l.getD q []) l.length k)
  (r:=some (p,V,(t6.1,(t6.2.1,t6.2.2)),(l.map (AE p row v),(b,q)),(v:Int),row,t12)) (λf k hk=>?_) (λf=>?_) (n:=Aa) (by unfold Aa;omega)
 ·rw[CQ rfl]at this;exact this
 ·have hml:(mix (λq=>AE p row v (l.getD q [])) (λq=>l.getD q []) l.length k).length=l.length:=BX
  have hin:k<(mix (λq=>AE p row v (l.getD q [])) (λq=>l.getD q []) l.length k).length:=by rw[hml];exact hk
  have hg:(mix (λq=>AE p row v (l.getD q [])) (λq=>l.getD q []) l.length k).getD k []=l.getD k []:=by rw[CV hk,if_neg (by omega)]
  have hrk:Az p W (l.getD k []):=by rw[Ad hk];exact hl _ (List.getElem_mem hk)
  have hvl:v<(l.getD k []).length:=by rw[hrk.1];exact hv
  have hst:=CX (nw:=λq=>AE p row v (l.getD q [])) (old:=λq=>l.getD q []) hk
  simp only[Aq,Ac,hin,BR,hg,hvl,Dg hp hW hrk hr hv,Option.bind_some,AT,hst,if_true,Ab (show k<4611686018427387904 by omega)]
  rw[if_pos (by rw[hml];simp;omega)]
 ·simp only[Aq,BX]
  rw[if_neg (by simp),Cv]
  rw[DE (AE p row v)]
theorem DA {l:List (List Int)} {k:Nat}:l.eraseIdx k=l.take k++l.drop (k+1):=List.eraseIdx_eq_take_drop_succ l k
theorem BP (hp:pr4 p) {V:Nat} (hVW:V<=W) (hW:W<=1000) {rows:List (List Int)} (hr: ∀r∈rows,Az p W r) (hN:rows.length<=100000):Bv p (V:Int) rows=some (As p rows V):=by
 unfold Bv
 have h3:=BZ rows.length (λf o i=>AB f (p,(V:Int),rows,([],([],[])),([],([],o)),i)) (λk=>rows.take k) (r:=some (p,(V:Int),([],([],[])),([],([],rows)))) (λf k hk=>by
  have hrk:=hr _ (List.getElem_mem hk)
  have hlr:=hrk.1
  simp only[AB,Ac,hk,Ay hk,C2 (show rows[k].length<=1099511627775 by omega),Option.bind_some,List.take_succ_eq_append_getElem hk,if_true,Ab (show k<4611686018427387904 by omega)]
  rw[if_pos (by simp;omega),if_pos (by simp;unfold lim;omega)]) (λf=>by
  simp only[AB,List.take_length]
  rw[if_neg (by simp)]) (n:=Aa) (by unfold Aa;omega)
 have h3:AB Aa (p,(V:Int),rows,([],([],[])),([],([],[])),0)=_:=h3
 simp only[h3,Option.bind_some]
 have h7:=BZ V (λf (s:ES) i=>Aw f (p,(V:Int),([],([],[])),(s.1,(s.2.1,s.2.2)),i)) (λv=>As p rows v) (r:=some (([],([],[])),As p rows V)) (λf v hv=>?_) (λf=>?_) (n:=Aa) (by unfold Aa;omega)
 ·have h7:Aw Aa (p,(V:Int),([],([],[])),([],([],rows)),0)=_:=h7
  rw[h7];rfl
 ·have hok:=B6 hp hr v (by omega)
  have hnx:As p rows (v+1)=B7 p (As p rows v) v:=by unfold As;rw[CC]
  rw[hnx]
  generalize As p rows v=s at hok
  have hn:=hok.n
  have hbl:=hok.bl
  have h10:=Fk (V:=V) hok (show v<W by omega) hN ([],([],[]))
  have h10:Ao Aa (p,(V:Int),([],([],[])),(s.1,(s.2.1,s.2.2)),(v:Int),0)=_:=h10
  simp only[Aw,h10,Option.bind_some]
  rw[if_pos (by simp;omega)]
  by_cases hc:s.2.2.findIdx (nzB v)<s.2.2.length
  ·obtain⟨f1,f2,f3⟩:=D2 hc hok.l (show v<W by omega)
   obtain⟨_,i1,i2,i3⟩:=Ew hp f1 f2
   have hsc:=DW hp hW f3 (b:=Cj p ((s.2.2.getD (s.2.2.findIdx (nzB v)) []).getD v 0)) ⟨by omega,i3⟩
   have hrow:=DG hp f3 (b:=Cj p ((s.2.2.getD (s.2.2.findIdx (nzB v)) []).getD v 0)) ⟨by omega,i3⟩
   have hS:B7 p s v=(s.1.map (AE p (Ar p (Cj p ((s.2.2.getD (s.2.2.findIdx (nzB v)) []).getD v 0)) (s.2.2.getD (s.2.2.findIdx (nzB v)) [])) v)++ [Ar p (Cj p ((s.2.2.getD (s.2.2.findIdx (nzB v)) []).getD v 0)) (s.2.2.getD (s.2.2.findIdx (nzB v)) [])],s.2.1++ [(v:Int)],(s.2.2.eraseIdx (s.2.2.findIdx (nzB v))).map (AE p (Ar p (Cj p ((s.2.2.getD (s.2.2.findIdx (nzB v)) []).getD v 0)) (s.2.2.getD (s.2.2.findIdx (nzB v)) [])) v)):=by
    unfold B7;dsimp only;rw[if_pos hc]
   rw[hS]
   generalize hK:s.2.2.findIdx (nzB v)=K at*
   generalize hI:Cj p ((s.2.2.getD K []).getD v 0)=I at*
   have hvl:v<(s.2.2.getD K []).length:=by rw[f3.1];omega
   have hoth:([]++((s.2.2.take (Int.toNat (K:Int))).drop (Int.toNat 0)))++((s.2.2.take (Int.toNat (s.2.2.length:Int))).drop (Int.toNat (w64 ((K:Int)+1))))=s.2.2.eraseIdx K:=by
    rw[Ab (show K<4611686018427387904 by omega),DA];simp
   have hel:(s.2.2.eraseIdx K).length<=100000:=by have:=List.length_eraseIdx_le s.2.2 K;omega
   have h16:=Fl hp hW (l:=s.2.2.eraseIdx K) (λr h=>hok.l r (List.mem_of_mem_eraseIdx h)) hel hrow (show v<W by omega) (V:Int) ([],([],[])) s
   have h16:Ap Aa (p,(V:Int),([],([],[])),(s.1,(s.2.1,s.2.2)),(v:Int),Ar p I (s.2.2.getD K []),s.2.2.eraseIdx K,0)=_:=h16
   have h20:=Fm hp hW (l:=s.1) hok.t (by omega) hrow (show v<W by omega) (V:Int) ([],([],[])) s.2.1 s.2.2 ((s.2.2.eraseIdx K).map (AE p (Ar p I (s.2.2.getD K [])) v))
   have h20:Aq Aa (p,(V:Int),([],([],[])),(s.1,(s.2.1,s.2.2)),(v:Int),Ar p I (s.2.2.getD K []),(s.2.2.eraseIdx K).map (AE p (Ar p I (s.2.2.getD K [])) v),0)=_:=h20
   rw[if_neg (by simp;omega)]
   simp only[Ac,hc,BR,hvl,if_true,i1,hsc,Option.bind_some,hoth,h16,h20,Ab (show v<4611686018427387904 by omega)]
   rw[if_pos (by omega),if_pos (by simp;unfold lim;omega),if_pos (by rw[Ab (show K<4611686018427387904 by omega)];omega),if_pos (by rw[Ab (show K<4611686018427387904 by omega)];simp;unfold lim;omega),if_pos (by simp;unfold lim;omega),if_pos (by simp;unfold lim;omega)]
  ·have hS:B7 p s v=s:=by unfold B7;dsimp only;rw[if_neg hc]
   have hle:=List.findIdx_le_length (xs:=s.2.2) (p:=nzB v)
   rw[hS,if_pos (by simp;omega)]
   simp only[Ab (show v<4611686018427387904 by omega)]
 ·simp only[Aw]
  rw[if_neg (by simp)]
end
end T
open Go Go.Va
namespace T
def BF (V:Nat) (b:List Int):List Int:=(List.range V).map (AS b)
section
variable {p:Int} {W N V:Nat}
theorem EO {b:List Int} {x:Int} {u:Nat}:AS (b++ [x]) u=if(u:Int)∈b then AS b u else if x=(u:Int)then(b.length:Int)else-1:=by
 unfold AS
 rw[List.findIdx?_append]
 by_cases h:(u:Int)∈b
 ·rw[if_pos h]
  have h1:(b.findIdx? λy=>y==(u:Int)).isSome=true:=by
   rw[List.findIdx?_isSome,List.any_eq_true]
   exact⟨_,h,by simp⟩
  obtain⟨i,hi⟩:=Option.isSome_iff_exists.1 h1
  rw[hi];rfl
 ·rw[if_neg h]
  have h1:(b.findIdx? λy=>y==(u:Int))=none:=by
   rw[List.findIdx?_eq_none_iff]
   intro y hy
   simp only[beq_eq_false_iff_ne]
   intro e;exact h (e▸hy)
  rw[h1]
  by_cases hx:x=(u:Int)
  ·rw[if_pos hx,hx];simp[List.findIdx?_cons]
  ·rw[if_neg hx]
   have:(x==(u:Int))=false:=by simpa using hx
   simp[List.findIdx?_cons,this]
theorem B5 {b:List Int}:(BF V b).length=V:=by simp[BF]
theorem Eb {b:List Int} {u:Nat} (h:u<V):(BF V b).getD u 0=AS b u:=by rw[Ad (by rw[B5];exact h)];simp[BF]
theorem BU {b:List Int} {u:Nat} (h:(u:Int)∉b):AS b u= -1:=by
 unfold AS
 have h1:(b.findIdx? λy=>y==(u:Int))=none:=by
  rw[List.findIdx?_eq_none_iff]
  intro y hy
  simp only[beq_eq_false_iff_ne]
  intro e;exact h (e▸hy)
 rw[h1]
theorem CB {b:List Int} {u:Nat} (h:(u:Int)∈b): ∃i,∃hi:i<b.length,AS b u=(i:Int)/\b[i]=(u:Int):=by
 unfold AS
 have h1:(b.findIdx? λy=>y==(u:Int)).isSome=true:=by
  rw[List.findIdx?_isSome,List.any_eq_true]
  exact⟨_,h,by simp⟩
 obtain⟨i,hi⟩:=Option.isSome_iff_exists.1 h1
 rw[hi]
 obtain⟨g1,g2,_⟩:=List.findIdx?_eq_some_iff_getElem.1 hi
 exact⟨i,g1,rfl,by simpa using g2⟩
theorem EU {b:List Int} {v:Nat} (hv:v<V) (hb:(v:Int)∉b):(BF V b).set v (b.length:Int)=BF V (b++ [(v:Int)]):=by
 unfold BF
 apply List.ext_getElem
 ·simp
 ·intro u h1 h2
  rw[List.getElem_set]
  simp only[List.getElem_map,List.getElem_range,EO]
  by_cases e:v=u
  ·subst e;rw[if_pos rfl,if_neg hb,if_pos rfl]
  ·rw[if_neg e]
   by_cases hu:(u:Int)∈b
   ·rw[if_pos hu]
   ·rw[if_neg hu,if_neg (by omega),BU hu]
theorem D1 {rows:List (List Int)} (hN:rows.length<=100000) (hr: ∀r∈rows,r.length<=100000):B8 rows=some rows:=by
 unfold B8
 have:=BZ rows.length (λf o i=>AJ f (o,rows,(rows.length:Int),i)) (λk=>rows.take k) (r:=some rows) (λf k hk=>by
  have hl:=hr _ (List.getElem_mem hk)
  have hcl:C4 rows[k]=some rows[k]:=by
   unfold C4
   rw[if_pos (by simp;unfold lim;omega)];simp
  simp only[AJ,Ac,hk,Ay hk,hcl,Option.bind_some,List.take_succ_eq_append_getElem hk,if_true,Ab (show k<4611686018427387904 by omega)]
  rw[if_pos (by simp;omega),if_pos (by simp;unfold lim;omega)]) (λf=>by
  simp only[AJ,List.take_length]
  rw[if_neg (by simp)]) (n:=Aa) (by unfold Aa;omega)
 have this:AJ Aa ([],rows,(rows.length:Int),0)=_:=this
 rw[this];rfl
theorem Fw {t l:List (List Int)} {v:Nat} (hl: ∀r∈l,Az p W r) (hv:v<W) (hN:t.length+l.length<=100000) (a b c:Int) (bd:List Int):
  AK Aa (p,(V:Int),(a,(b,(t++l,(c,bd)))),(v:Int),(t.length:Int))=some (p,(V:Int),(a,(b,(t++l,(c,bd)))),(v:Int),((t.length+l.findIdx (nzB v):Nat):Int)):=by
 have hlen:(t++l).length=t.length+l.length:=List.length_append
 have key:=λP=>FJ (l:=l) v (λf i=>AK f (p,(V:Int),(a,(b,(t++l,(c,bd)))),(v:Int),(t.length:Int)+i)) (λk=>(p,(V:Int),(a,(b,(t++l,(c,bd)))),(v:Int),((t.length+k:Nat):Int))) (λf k hk=>?_) (λf=>?_) l.length 0 Aa (by omega) P
 ·have:=key (by unfold Aa;omega)
  rw[List.drop_zero,Nat.zero_add]at this
  have e:((t.length:Nat):Int)+((0:Nat):Int)=(t.length:Int):=by omega
  rw[e]at this
  exact this
 ·have hr:=hl _ (List.getElem_mem hk)
  have hkk:t.length+k<(t++l).length:=by omega
  have hg:(t++l).getD (t.length+k) []=l[k]:=by rw[Ad hkk,List.getElem_append_right (by omega)];simp
  have hvl:v<l[k].length:=by rw[hr.1];exact hv
  have e:(t.length:Int)+(k:Int)=((t.length+k:Nat):Int):=by push_cast;rfl
  have e2:(t.length:Int)+((k+1:Nat):Int)=((t.length+k+1:Nat):Int):=by push_cast;omega
  simp only[AK,e,e2,Ac,hkk,BR,hg,hvl,if_true,Ab (show t.length+k<4611686018427387904 by omega)]
  rw[if_pos (decide_eq_true (Int.ofNat_lt.2 hkk))]
  unfold nzB
  by_cases hz:l[k].getD v 0=0
  ·rw[if_pos (by simpa using hz),if_neg (by simpa using hz)]
  ·rw[if_neg (by simpa using hz),if_pos (by simpa using hz)]
 ·have e:(t.length:Int)+(l.length:Int)=((t.length+l.length:Nat):Int):=by push_cast;rfl
  simp only[AK,hlen,e]
  rw[if_neg (by simp)]
theorem E4 (hp:pr4 p) (hW:W<=1000) {R:List (List Int)} {T:Nat} (hT:T<R.length) (hr:Az p W (R.getD T [])) {f0:Int} (hf:0<=f0/\f0<p) (a b c:Int) (bd:List Int) (v:Int):
  AF Aa ((T:Int),p,(V:Int),(a,(b,(R,(c,bd)))),v,f0,((R.getD T []).length:Int),0)=some ((T:Int),p,(V:Int),(a,(b,(R.set T (Ar p f0 (R.getD T [])),(c,bd)))),v):=by
 have hp0:p≠0:=by unfold pr4 at hp;omega
 generalize hq:R.getD T []=r at hr
 have hrl:=hr.1
 have:=BZ r.length (λf (o:List (List Int)) i=>AF f ((T:Int),p,(V:Int),(a,(b,(o,(c,bd)))),v,f0,(r.length:Int),i)) (λk=>R.set T (mix (λi=>Int.tmod (r.getD i 0*f0) p) (λi=>r.getD i 0) r.length k))
  (r:=some ((T:Int),p,(V:Int),(a,(b,(R.set T (Ar p f0 r),(c,bd)))),v)) (λf k hk=>?_) (λf=>?_) (n:=Aa) (by unfold Aa;omega)
 ·have e:R.set T (mix (λi=>Int.tmod (r.getD i 0*f0) p) (λi=>r.getD i 0) r.length 0)=R:=by
   rw[CQ rfl,←hq,Ad hT,List.set_getElem_self]
  rw[e]at this
  exact this
 ·have hTl:T<(R.set T (mix (λi=>Int.tmod (r.getD i 0*f0) p) (λi=>r.getD i 0) r.length k)).length:=by simpa using hT
  have hg:gd (R.set T (mix (λi=>Int.tmod (r.getD i 0*f0) p) (λi=>r.getD i 0) r.length k)) (T:Int) []=mix (λi=>Int.tmod (r.getD i 0*f0) p) (λi=>r.getD i 0) r.length k:=by
   rw[BR,Ad hTl];simp
  have hkl:k<(mix (λi=>Int.tmod (r.getD i 0*f0) p) (λi=>r.getD i 0) r.length k).length:=by rw[BX];exact hk
  have hgk:(mix (λi=>Int.tmod (r.getD i 0*f0) p) (λi=>r.getD i 0) r.length k).getD k 0=r.getD k 0:=by rw[CV hk,if_neg (by omega)]
  have hst:=CX (nw:=λi=>Int.tmod (r.getD i 0*f0) p) (old:=λi=>r.getD i 0) hk
  have h1:=Bs hr (i:=k) (by omega)
  have h4:=D6 (a:=r.getD k 0) (b:=f0) (by omega) (by unfold pr4 at hp;omega) (by omega) (by unfold pr4 at hp;omega)
  simp only[AF,hg,Ac,hkl,BR,hgk,AO (x:=r.getD k 0*f0) (by omega) (by omega),AT,List.set_set,hst,if_true,Ab (show k<4611686018427387904 by omega)]
  rw[if_pos (by simp;omega),if_pos hp0]
 ·simp only[AF,Cv]
  rw[if_neg (by simp)];rfl
theorem E6 (hp:pr4 p) (hW:W<=1000) {R:List (List Int)} {T K:Nat} (hT:T<R.length) (hK:K<R.length) (hne:K≠T) (hrT:Az p W (R.getD T [])) (hrK:Az p W (R.getD K [])) {v:Nat} (hv:v<W) (a b c:Int) (bd:List Int) (t130 t131:Int):
  AG Aa ((T:Int),(K:Int),(),p,(V:Int),(a,(b,(R,(c,bd)))),(v:Int),(R.getD K []).getD v 0,t130,t131,((R.getD K []).length:Int),0)=some ((T:Int),(),p,(V:Int),(a,(b,(R.set K (AE p (R.getD T []) v (R.getD K [])),(c,bd)))),(v:Int),t130,t131):=by
 have hp0:p≠0:=by unfold pr4 at hp;omega
 generalize hq:R.getD K []=r at hrK
 generalize hq2:R.getD T []=row at hrT
 have hrl:=hrK.1
 have:=BZ r.length (λf (o:List (List Int)) i=>AG f ((T:Int),(K:Int),(),p,(V:Int),(a,(b,(o,(c,bd)))),(v:Int),r.getD v 0,t130,t131,(r.length:Int),i)) (λk=>R.set K (mix (λi=>Int.tmod (r.getD i 0+(p-r.getD v 0)*row.getD i 0) p) (λi=>r.getD i 0) r.length k))
  (r:=some ((T:Int),(),p,(V:Int),(a,(b,(R.set K (AE p row v r),(c,bd)))),(v:Int),t130,t131)) (λf k hk=>?_) (λf=>?_) (n:=Aa) (by unfold Aa;omega)
 ·have e:R.set K (mix (λi=>Int.tmod (r.getD i 0+(p-r.getD v 0)*row.getD i 0) p) (λi=>r.getD i 0) r.length 0)=R:=by
   rw[CQ rfl,←hq,Ad hK,List.set_getElem_self]
  rw[e]at this
  exact this
 ·have hKl:K<(R.set K (mix (λi=>Int.tmod (r.getD i 0+(p-r.getD v 0)*row.getD i 0) p) (λi=>r.getD i 0) r.length k)).length:=by simpa using hK
  have hTl:T<(R.set K (mix (λi=>Int.tmod (r.getD i 0+(p-r.getD v 0)*row.getD i 0) p) (λi=>r.getD i 0) r.length k)).length:=by simpa using hT
  have hg:gd (R.set K (mix (λi=>Int.tmod (r.getD i 0+(p-r.getD v 0)*row.getD i 0) p) (λi=>r.getD i 0) r.length k)) (K:Int) []=mix (λi=>Int.tmod (r.getD i 0+(p-r.getD v 0)*row.getD i 0) p) (λi=>r.getD i 0) r.length k:=by
   rw[BR,Ad hKl];simp
  have hg2:gd (R.set K (mix (λi=>Int.tmod (r.getD i 0+(p-r.getD v 0)*row.getD i 0) p) (λi=>r.getD i 0) r.length k)) (T:Int) []=row:=by
   have hRT:R[T]=row:=by rw[Ad hT]at hq2;exact hq2
   rw[BR,Ad hTl,List.getElem_set_ne (by omega)];exact hRT
  have hkl:k<(mix (λi=>Int.tmod (r.getD i 0+(p-r.getD v 0)*row.getD i 0) p) (λi=>r.getD i 0) r.length k).length:=by rw[BX];exact hk
  have hkr:k<row.length:=by rw[hrT.1];omega
  have hgk:(mix (λi=>Int.tmod (r.getD i 0+(p-r.getD v 0)*row.getD i 0) p) (λi=>r.getD i 0) r.length k).getD k 0=r.getD k 0:=by rw[CV hk,if_neg (by omega)]
  have hst:=CX (nw:=λi=>Int.tmod (r.getD i 0+(p-r.getD v 0)*row.getD i 0) p) (old:=λi=>r.getD i 0) hk
  simp only[AG,hg,hg2,Ac,hkl,hkr,BR,hgk,Fa hp hrK hrT hv (show k<W by omega),AT,List.set_set,hst,if_true,Ab (show k<4611686018427387904 by omega)]
  rw[if_pos (by simp;omega),if_pos hp0]
 ·simp only[AG,Cv]
  rw[if_neg (by simp)];rfl
def Dd (p:Int) (R:List (List Int)) (T v k:Nat):List Int:=if k=T then R.getD k []else AE p (R.getD T []) v (R.getD k [])
theorem E5 (hp:pr4 p) (hW:W<=1000) {R:List (List Int)} {T:Nat} (hT:T<R.length) (hR: ∀k,k<R.length->Az p W (R.getD k [])) (hN:R.length<=100000) {v:Nat} (hv:v<W) (a b:Int) (bd:List Int):
  Au Aa ((T:Int),(),p,(V:Int),(a,(b,(R,((T:Int),bd)))),(v:Int),(R.length:Int),0)=some (p,(V:Int),(a,(b,((List.range R.length).map (Dd p R T v),((T:Int),bd)))),(v:Int)):=by
 have:=BZ R.length (λf (o:List (List Int)) i=>Au f ((T:Int),(),p,(V:Int),(a,(b,(o,((T:Int),bd)))),(v:Int),(R.length:Int),i)) (λk=>mix (Dd p R T v) (λk=>R.getD k []) R.length k)
  (r:=some (p,(V:Int),(a,(b,((List.range R.length).map (Dd p R T v),((T:Int),bd)))),(v:Int))) (λf k hk=>?_) (λf=>?_) (n:=Aa) (by unfold Aa;omega)
 ·rw[CQ rfl]at this
  exact this
 ·generalize hM:mix (Dd p R T v) (λk=>R.getD k []) R.length k=M
  have hMl:M.length=R.length:=by rw[←hM];exact BX
  have hMk:M.getD k []=R.getD k []:=by rw[←hM,CV hk,if_neg (by omega)]
  have hMT:M.getD T []=R.getD T []:=by
   rw[←hM,CV hT]
   split
   ·unfold Dd;rw[if_pos rfl]
   ·rfl
  have hin:k<M.length:=by omega
  have hrk:=hR k hk
  have hvl:v<(R.getD k []).length:=by rw[hrk.1];exact hv
  have hnx:k≠T->M.set k (AE p (R.getD T []) v (R.getD k []))=mix (Dd p R T v) (λk=>R.getD k []) R.length (k+1):=λhne=>by
   have:=CX (nw:=Dd p R T v) (old:=λk=>R.getD k []) hk
   rw[←this,hM]
   unfold Dd;rw[if_neg hne]
  have hsame:Dd p R T v k=R.getD k []->mix (Dd p R T v) (λk=>R.getD k []) R.length (k+1)=M:=λh=>by rw[Ei hk h,hM]
  simp only[Au,Ac,hin,BR,hMk,hvl,if_true,Ab (show k<4611686018427387904 by omega)]
  rw[if_pos (by simp;omega)]
  by_cases hkT:k=T
  ·rw[if_neg (by simp[hkT]),hsame (by unfold Dd;rw[if_pos hkT])]
  ·rw[if_pos (by simp;omega)]
   by_cases hz:(R.getD k []).getD v 0=0
   ·rw[if_neg (by simpa using hz),hsame (by unfold Dd;rw[if_neg hkT,EM hp hrk (hR T hT) hz])]
   ·rw[if_pos (by simpa using hz)]
    have h24:=E6 (V:=V) hp hW (R:=M) (T:=T) (K:=k) (by omega) hin hkT (by rw[hMT];exact hR T hT) (by rw[hMk];exact hrk) hv a b (T:Int) bd (R.length:Int) (k:Int)
    rw[hMk,hMT]at h24
    simp only[h24,Option.bind_some,hnx hkT,Ab (show k<4611686018427387904 by omega)]
 ·simp only[Au,Cv]
  rw[if_neg (by simp)]
theorem FC {t l:List (List Int)} {K:Nat} (hK:K<l.length):upL (t++l) t.length (t.length+K) []=t++l.getD K []::l.eraseIdx K:=by
 unfold upL
 have e1:(t++l).take t.length=t:=by simp
 have e2:(t++l).getD (t.length+K) []=l.getD K []:=by
  rw[Ad (by simp;omega),Ad hK,List.getElem_append_right (by omega)];simp
 have e3:(t++l).drop t.length=l:=by simp
 have e4:(t++l).drop (t.length+K+1)=l.drop (K+1):=by
  rw[List.drop_append,List.drop_of_length_le (by omega),show t.length+K+1-t.length=K+1 by omega];rfl
 rw[e1,e2,e3,e4,Nat.add_sub_cancel_left,DA]
theorem Db (hp:pr4 p) (hVW:V<=W) (hW:W<=1000) {rows:List (List Int)} (hr: ∀r∈rows,Az p W r) (hN:rows.length<=100000):
  BK p (V:Int) rows=some (true,(p,((V:Int),((As p rows V).1++(As p rows V).2.2,(((As p rows V).1.length:Int),BF V (As p rows V).2.1))))):=by
 unfold BK
 rw[D1 hN λr h=>by have:=(hr r h).1;omega,E1 (N:=V) (by omega)]
 simp only[Option.bind_some]
 have h3:=BZ V (λf (s:List (List Int)×(Int×List Int)) i=>AC f (p,(V:Int),(p,((V:Int),(s.1,(s.2.1,s.2.2)))),i)) (λv=>((As p rows v).1++(As p rows v).2.2,(((As p rows v).1.length:Int),BF V (As p rows v).2.1)))
  (r:=some (p,((V:Int),((As p rows V).1++(As p rows V).2.2,(((As p rows V).1.length:Int),BF V (As p rows V).2.1))))) (λf v hv=>?_) (λf=>?_) (n:=Aa) (by unfold Aa;omega)
 ·have e0:BF V (As p rows 0).2.1=List.replicate V (-1):=by
   apply List.ext_getElem
   ·simp[BF]
   ·intro i h1 h2
    have:AS ([]:List Int) i= -1:=BU (by simp)
    simp only[BF,As,List.range_zero,List.foldl_nil,List.getElem_map,List.getElem_range,this,List.getElem_replicate]
  have h3:AC Aa (p,(V:Int),(p,((V:Int),(([]:List (List Int))++rows,(0,BF V (As p rows 0).2.1)))),0)=_:=h3
  rw[e0]at h3
  rw[List.nil_append]at h3
  rw[h3];rfl
 ·have hok:=B6 hp hr v (by omega)
  have hnx:As p rows (v+1)=B7 p (As p rows v) v:=by unfold As;rw[CC]
  rw[hnx]
  generalize As p rows v=s at hok
  have hn:=hok.n
  have hbl:=hok.bl
  obtain⟨t,bo,l⟩:=s
  dsimp only at hn hbl hok⊢
  have h6:=Fw (V:=V) (p:=p) (W:=W) (t:=t) (l:=l) (v:=v) hok.l (show v<W by omega) (by omega) p (V:Int) (t.length:Int) (BF V bo)
  simp only[AC,h6,Option.bind_some]
  rw[if_pos (by simp;omega)]
  have hlen:(t++l).length=t.length+l.length:=List.length_append
  by_cases hc:l.findIdx (nzB v)<l.length
  ·obtain⟨f1,f2,f3⟩:=D2 hc hok.l (show v<W by omega)
   obtain⟨i0,i1,i2,i3⟩:=Ew hp f1 f2
   have hrow:=DG hp f3 (b:=Cj p ((l.getD (l.findIdx (nzB v)) []).getD v 0)) ⟨by omega,i3⟩
   have hS:B7 p (t,bo,l) v=(t.map (AE p (Ar p (Cj p ((l.getD (l.findIdx (nzB v)) []).getD v 0)) (l.getD (l.findIdx (nzB v)) [])) v)++ [Ar p (Cj p ((l.getD (l.findIdx (nzB v)) []).getD v 0)) (l.getD (l.findIdx (nzB v)) [])],bo++ [(v:Int)],(l.eraseIdx (l.findIdx (nzB v))).map (AE p (Ar p (Cj p ((l.getD (l.findIdx (nzB v)) []).getD v 0)) (l.getD (l.findIdx (nzB v)) [])) v)):=by
    unfold B7;dsimp only;rw[if_pos hc]
   rw[hS]
   generalize hK:l.findIdx (nzB v)=K at*
   generalize hx:l.getD K []=x at*
   generalize hI:Cj p (x.getD v 0)=I at*
   have hvx:v<x.length:=by rw[f3.1];omega
   have hup:upL (t++l) (Int.toNat (t.length:Int)) (Int.toNat ((t.length+K:Nat):Int)) []=t++x::l.eraseIdx K:=by
    rw[Int.toNat_natCast,Int.toNat_natCast,FC hc,hx]
   have hgx:gd (t++l) ((t.length+K:Nat):Int) []=x:=by
    rw[BR,Ad (by omega),List.getElem_append_right (by omega),←hx,Ad hc];simp
   have hTl:t.length<(t++x::l.eraseIdx K).length:=by simp
   have hsx:stt (t++x::l.eraseIdx K) (t.length:Int) x=t++x::l.eraseIdx K:=by
    rw[AT];simp
   have hgT:gd (t++x::l.eraseIdx K) (t.length:Int) []=x:=by rw[BR,Ad hTl];simp
   have hgTD:(t++x::l.eraseIdx K).getD t.length []=x:=hgT
   have w1:w64 ((t.length:Int)+1)=((t.length+1:Nat):Int):=Ab (by omega)
   have w2:w64 (((t.length+K:Nat):Int)+1)=((t.length+K+1:Nat):Int):=Ab (by omega)
   have hR0l:(t++x::l.eraseIdx K).length=rows.length:=by
    have h9:(l.eraseIdx K).length=l.length-1:=List.length_eraseIdx_of_lt hc
    simp only[List.length_append,List.length_cons];omega
   have h14:=E4 (V:=V) hp hW (R:=t++x::l.eraseIdx K) (T:=t.length) hTl (by rw[hgTD];exact f3) (f0:=I) ⟨by omega,i3⟩ p (V:Int) (t.length:Int) (BF V bo) (v:Int)
   rw[hgTD]at h14
   have hset:(t++x::l.eraseIdx K).set t.length (Ar p I x)=t++Ar p I x::l.eraseIdx K:=by simp
   rw[hset]at h14
   have hR1: ∀k,k<(t++Ar p I x::l.eraseIdx K).length->Az p W ((t++Ar p I x::l.eraseIdx K).getD k []):=λk hk=>by
    have hm:(t++Ar p I x::l.eraseIdx K).getD k []∈t++Ar p I x::l.eraseIdx K:=by rw[Ad hk];exact List.getElem_mem hk
    rcases List.mem_append.1 hm with h|h
    ·exact hok.t _ h
    ·rcases List.mem_cons.1 h with h|h
     ·rw[h];exact hrow
     ·exact hok.l _ (List.mem_of_mem_eraseIdx h)
   have hR1l:(t++Ar p I x::l.eraseIdx K).length=rows.length:=by rw[←hR0l];simp
   have h19:=E5 (V:=V) hp hW (R:=t++Ar p I x::l.eraseIdx K) (T:=t.length) (by simp) hR1 (by omega) (show v<W by omega) p (V:Int) (BF V bo)
   have hfin:(List.range (t++Ar p I x::l.eraseIdx K).length).map (Dd p (t++Ar p I x::l.eraseIdx K) t.length v)=(t.map (AE p (Ar p I x) v)++ [Ar p I x])++(l.eraseIdx K).map (AE p (Ar p I x) v):=by
    have hgt:(t++Ar p I x::l.eraseIdx K).getD t.length []=Ar p I x:=by rw[Ad (by simp)];simp
    rw[List.append_assoc,List.singleton_append]
    apply List.ext_getElem
    ·simp
    ·intro k h1 h2
     simp only[List.getElem_map,List.getElem_range]
     unfold Dd
     rw[hgt]
     have hk:k<(t++Ar p I x::l.eraseIdx K).length:=by simpa using h1
     by_cases c1:k<t.length
     ·rw[if_neg (by omega),Ad hk,List.getElem_append_left c1,List.getElem_append_left (by simpa using c1),List.getElem_map]
     ·by_cases c2:k=t.length
      ·subst c2
       rw[if_pos rfl,hgt,List.getElem_append_right (by simp)];simp
      ·rw[if_neg c2,Ad hk,List.getElem_append_right (by omega),List.getElem_append_right (by simp;omega)]
       simp only[List.length_map]
       rw[List.getElem_cons,dif_neg (by omega),List.getElem_cons,dif_neg (by omega),List.getElem_map]
   rw[hfin]at h19
   have hvb:v<(BF V bo).length:=by rw[B5];exact hv
   have hnb:(v:Int)∉bo:=λh=>by have:=hok.bv _ h;omega
   have hbs:(BF V bo).set v (t.length:Int)=BF V (bo++ [(v:Int)]):=by
    have:=EU hv hnb
    rw[hbl]at this
    exact this
   rw[if_neg (by rw[hlen];simp;omega),if_pos (by rw[Ac];omega)]
   simp only[hup,hgx,hsx,hgT,Ac,hTl,hvx,i0,Option.bind_some,h14,h19,hvb,AT,hbs,if_true,w1,w2,Ab (show v<4611686018427387904 by omega)]
   rw[if_pos (by rw[hlen];omega),if_pos (by rw[hlen];omega)]
   have hgv:gd x (v:Int) 0=x.getD v 0:=BR
   simp only[hgv,i0,Option.bind_some,h14]
   rw[if_pos ⟨by omega,by omega,trivial⟩]
   rw[h19]
   simp only[Option.bind_some,Ac,hvb,AT,hbs,if_true,w1,Ab (show v<4611686018427387904 by omega)]
   rw[show(List.map (AE p (Ar p I x) v) t++ [Ar p I x]).length=t.length+1 by simp]
  ·have hS:B7 p (t,bo,l) v=(t,bo,l):=by unfold B7;dsimp only;rw[if_neg hc]
   have hle:=List.findIdx_le_length (xs:=l) (p:=nzB v)
   rw[hS,if_pos (by rw[hlen];simp;omega)]
   simp only[Ab (show v<4611686018427387904 by omega)]
 ·simp only[AC]
  rw[if_neg (by simp)]
end
end T
open Go Go.Va
namespace T
def AA (N:Nat) (b:List Int):List Int:=((List.range N).filter λv:Nat=>!decide ((v:Int)∈b)).map λv:Nat=>(v:Int)
theorem Cw {N:Nat} {b:List Int}:AA (N+1) b=AA N b++(if(N:Int)∈b then []else [(N:Int)]):=by
 unfold AA
 rw[List.range_succ,List.filter_append,List.map_append]
 congr 1
 by_cases h:(N:Int)∈b<;>simp[h]
theorem EI {N:Nat} {b:List Int} {x:Int} (h:x∈AA N b): ∃u:Nat,u<N/\x=(u:Int):=by
 unfold AA at h
 obtain⟨u,hu,rfl⟩:=List.mem_map.1 h
 exact⟨u,List.mem_range.1 (List.mem_filter.1 hu).1,rfl⟩
theorem B0 {N:Nat} {b:List Int}:(AA N b).length<=N:=by
 unfold AA
 rw[List.length_map]
 have:=List.length_filter_le (λv:Nat=>!decide ((v:Int)∈b)) (List.range N)
 rw[List.length_range]at this
 exact this
theorem Et {N:Nat} {b:List Int} {x:Int} (h:(N:Int)<=x):AA N (b++ [x])=AA N b:=by
 unfold AA
 congr 1
 refine List.filter_congr λu hu=>?_
 have:=List.mem_range.1 hu
 have e:((u:Int)∈b++ [x])↔(u:Int)∈b:=by
  rw[List.mem_append,List.mem_singleton]
  exact⟨λh=>h.resolve_right (by omega),Or.inl⟩
 simp only[e]
section
variable {p:Int} {W N V:Nat}
theorem E2 (hp:pr4 p) {rows:List (List Int)} (hr: ∀r∈rows,Az p W r): ∀v,v<=W->(AA v (As p rows v).2.1).length+(As p rows v).2.1.length=v:=by
 intro v
 induction v with
 |zero=>intro _;simp[AA,As]
 |succ v ih=>
  intro hv
  have h1:=ih (by omega)
  have hok:=B6 hp hr v (by omega)
  have hnx:As p rows (v+1)=B7 p (As p rows v) v:=by unfold As;rw[CC]
  rw[hnx]
  generalize As p rows v=s at hok h1
  unfold B7
  dsimp only
  split
  ·rw[Cw,if_pos (by simp),Et (by omega)]
   simp only[List.append_nil,List.length_append,List.length_singleton]
   omega
  ·have:(v:Int)∉s.2.1:=λh=>by have:=hok.bv _ h;omega
   rw[Cw,if_neg this]
   simp only[List.length_append,List.length_singleton]
   omega
theorem DZ {b:List Int} (hb:b.Nodup) {i:Nat} (hi:i<b.length) {u:Nat} (h:b[i]=(u:Int)):AS b u=(i:Int):=by
 obtain⟨j,hj,h1,h2⟩:=CB (b:=b) (u:=u) (h▸List.getElem_mem hi)
 rw[h1]
 rcases Nat.lt_trichotomy i j with h3|h3|h3
 ·exact absurd (h.trans h2.symm) (List.pairwise_iff_getElem.1 hb i j hi hj h3)
 ·rw[h3]
 ·exact absurd (h2.trans h.symm) (List.pairwise_iff_getElem.1 hb j i hj hi h3)
theorem Ca {b:List Int} {u:Nat}:AS b u<0↔(u:Int)∉b:=by
 by_cases h:(u:Int)∈b
 ·obtain⟨i,hi,h1,_⟩:=CB h
  rw[h1];simp[h]
 ·rw[BU h];simp[h]
def B1 (p:Int) (V:Nat) (s:ES):Bool×Int×Int×List (List Int)×Int×List Int:=(true,(p,((V:Int),(s.1++s.2.2,((s.1.length:Int),BF V s.2.1)))))
def CZ (V:Nat) (s:ES):Bool:=s.2.2.any (nzB V)
theorem Ee {s:ES} (hs:ESok p W N V s) (hV:V<W) (hN:N<=100000):Bd (B1 p V s)=some (CZ V s):=by
 obtain⟨t,b,l⟩:=s
 have hn:=hs.n
 dsimp only at hn
 unfold Bd
 have e1:(((t++l).take (Int.toNat ((t++l).length:Int))).drop (Int.toNat (t.length:Int)))=l:=by rw[Int.toNat_natCast,Int.toNat_natCast,List.take_length];simp
 have key:=Es l (λm i=>Av m (B1 p V (t,b,l),l,(l.length:Int),i)) (λr=>!nzB V r) (.inr true) (.inl ()) (λm k hk=>?_) (λm=>?_) (n:=Aa) (by unfold Aa;omega)
 ·have h1:(B1 p V (t,b,l)).1=true:=rfl
  have h2:(B1 p V (t,b,l)).2.2.2.1=t++l:=rfl
  have h3:(B1 p V (t,b,l)).2.2.2.2.1=(t.length:Int):=rfl
  rw[if_pos h1,if_pos h1,h2,h3,if_pos ⟨by omega,by rw[List.length_append];omega,by omega⟩,e1,key]
  unfold CZ
  have e:(l.all λr=>!nzB V r)=!(l.any (nzB V)):=by rw[List.not_any_eq_all_not]
  rw[e]
  cases l.any (nzB V)<;>simp
 ·have hr:=hs.l _ (List.getElem_mem hk)
  have hvl:V<l[k].length:=by rw[hr.1];exact hV
  have h1:(B1 p V (t,b,l)).1=true:=rfl
  have h2:(B1 p V (t,b,l)).2.2.1=(V:Int):=rfl
  simp only[Av,Ac,hk,Ay hk,h1,h2,hvl,BR,if_true,Ab (show k<4611686018427387904 by omega)]
  rw[if_pos (by simp;omega)]
  unfold nzB
  by_cases hz:l[k].getD V 0=0
  ·rw[if_neg (by simpa using hz),if_pos (by simpa using hz)]
  ·rw[if_pos (by simpa using hz),if_neg (by simpa using hz)]
 ·simp only[Av]
  rw[if_neg (by simp)]
theorem Ec {s:ES} (hs:ESok p W N V s) (hV:V<W) (hN:N<=100000):Bq s (V:Int)=some (CZ V s):=by
 obtain⟨t,b,l⟩:=s
 have hn:=hs.n
 dsimp only at hn
 unfold Bq
 have key:=Es l (λm i=>Bg m ((V:Int),(t,(b,l)),i)) (λr=>!nzB V r) (.inr true) (.inl ()) (λm k hk=>?_) (λm=>?_) (n:=Aa) (by unfold Aa;omega)
 ·dsimp only
  rw[key]
  unfold CZ
  have e:(l.all λr=>!nzB V r)=!(l.any (nzB V)):=by rw[List.not_any_eq_all_not]
  rw[e]
  cases l.any (nzB V)<;>simp
 ·have hr:=hs.l _ (List.getElem_mem hk)
  have hvl:V<l[k].length:=by rw[hr.1];exact hV
  simp only[Bg,Ac,hk,Ay hk,hvl,BR,if_true,Ab (show k<4611686018427387904 by omega)]
  rw[if_pos (by simp;omega)]
  unfold nzB
  by_cases hz:l[k].getD V 0=0
  ·rw[if_neg (by simpa using hz),if_pos (by simpa using hz)]
  ·rw[if_pos (by simpa using hz),if_neg (by simpa using hz)]
 ·simp only[Bg]
  rw[if_neg (by simp)]
theorem Cd {s:ES} (hV:V<=1000):Ai (B1 p V s)=some (AA V s.2.1):=by
 unfold Ai
 have h1:(B1 p V s).1=true:=rfl
 have h2:(B1 p V s).2.2.2.2.2=BF V s.2.1:=rfl
 have:=BZ V (λf o i=>Ae f (o,BF V s.2.1,(V:Int),i)) (λk=>AA k s.2.1) (r:=some (AA V s.2.1)) (λf k hk=>?_) (λf=>?_) (n:=Aa) (by unfold Aa;omega)
 ·have this:Ae Aa ([],BF V s.2.1,(V:Int),0)=_:=this
  rw[if_pos h1,h2,B5,this];rfl
 ·have hl:k<(BF V s.2.1).length:=by rw[B5];exact hk
  have hle:=B0 (N:=k) (b:=s.2.1)
  simp only[Ae,Ac,hl,BR,Eb hk,if_true,Ab (show k<4611686018427387904 by omega),Cw]
  rw[if_pos (by simp;omega)]
  by_cases hm:(k:Int)∈s.2.1
  ·rw[if_neg (by rw[decide_eq_true_iff,Ca];exact λh=>h hm),if_pos hm,List.append_nil]
  ·rw[if_pos (by rw[decide_eq_true_iff,Ca];exact hm),if_neg hm,if_pos (by simp;unfold lim;omega)]
 ·simp only[Ae]
  rw[if_neg (by simp)]
theorem Fv {s:ES} (hs:ESok p W N V s) (hN:N<=100000) (hV:V<=1000):B4 s (V:Int)=some (AA V s.2.1):=by
 unfold B4
 have hb:=hs.bl
 have hn:=hs.n
 have:=BZ V (λf o i=>AP f ((V:Int),(s.1,(s.2.1,s.2.2)),o,i)) (λk=>AA k s.2.1) (r:=some (AA V s.2.1)) (λf k hk=>?_) (λf=>?_) (n:=Aa) (by unfold Aa;omega)
 ·have this:AP Aa ((V:Int),(s.1,(s.2.1,s.2.2)),[],0)=_:=this
  rw[this];rfl
 ·have hle:=B0 (N:=k) (b:=s.2.1)
  simp only[AP,DQ (show s.2.1.length<=1048576 by omega),Option.bind_some,Ab (show k<4611686018427387904 by omega),Cw]
  rw[if_pos (by simp;omega)]
  by_cases hm:(k:Int)∈s.2.1
  ·rw[if_neg (by simpa using hm),if_pos hm,List.append_nil]
  ·rw[if_pos (by simpa using hm),if_neg hm,if_pos (by simp;unfold lim;omega)]
 ·simp only[AP]
  rw[if_neg (by simp)]
def DH (V:Nat) (s:ES) (u:Nat):Int:=if AS s.2.1 u<0 then 0 else(s.1.getD (AS s.2.1 u).toNat []).getD V 0
def Dm (V:Nat) (s:ES):List Int:=(List.range V).map (DH V s)
theorem Fi (hp:pr4 p) (hV:V<W) (hW:W<=1000) {rows:List (List Int)} (hr: ∀r∈rows,Az p W r) (hN:rows.length<=100000):Ct p (V:Int) rows=some (if CZ V (As p rows V)then([],false)else(Dm V (As p rows V),true)):=by
 unfold Ct
 have hs:=B6 hp hr V (by omega)
 rw[BP hp (by omega) hW hr hN]
 simp only[Option.bind_some]
 generalize As p rows V=s at hs
 have he:=Ec hs hV hN
 have he:Bq (s.1,(s.2.1,s.2.2)) (V:Int)=_:=he
 rw[he]
 simp only[Option.bind_some]
 cases CZ V s with
 |true=>rfl
 |false=>
  simp only[Bool.false_eq_true,if_false]
  rw[if_pos (by unfold lim;omega),Int.toNat_natCast]
  have hbl:=hs.bl
  have hn:=hs.n
  have l6:=BZ s.2.1.length (λf (o:List Int) i=>AX f ((V:Int),(s.1,(s.2.1,s.2.2)),o,i)) (λj=>(List.range V).map λu=>if 0<=AS s.2.1 u/\AS s.2.1 u<(j:Int)then(s.1.getD (AS s.2.1 u).toNat []).getD V 0 else 0) (r:=some (Dm V s)) (λf j hj=>?_) (λf=>?_) (n:=Aa) (by unfold Aa;omega)
  ·have e0:((List.range V).map λu=>if 0<=AS s.2.1 u/\AS s.2.1 u<((0:Nat):Int)then(s.1.getD (AS s.2.1 u).toNat []).getD V 0 else 0)=List.replicate V (0:Int):=by
    apply List.ext_getElem
    ·simp
    ·intro i _ _
     simp only[List.getElem_map,List.getElem_range,List.getElem_replicate]
     rw[if_neg (by omega)]
   rw[e0]at l6
   have l6:AX Aa ((V:Int),(s.1,(s.2.1,s.2.2)),List.replicate V (0:Int),0)=_:=l6
   rw[l6];rfl
  ·have hbv:=hs.bv _ (List.getElem_mem hj)
   obtain⟨u,hu⟩: ∃u:Nat,s.2.1[j]=(u:Int):=⟨s.2.1[j].toNat,by omega⟩
   have hpu:=DZ hs.bn hj hu
   have hj1:j<s.1.length:=by omega
   have hrow:Az p W (s.1.getD j []):=by rw[Ad hj1];exact hs.t _ (List.getElem_mem hj1)
   have hVl:V<(s.1.getD j []).length:=by rw[hrow.1];exact hV
   have huV:u<V:=by omega
   simp only[AX,Ac,hj,hj1,Ay hj,hu,BR,hVl,if_true,AT,Ab (show j<4611686018427387904 by omega)]
   rw[if_pos (by simp;omega),if_pos (by simp;omega)]
   congr 1
   refine congrArg (λo=>((V:Int),(s.1,(s.2.1,s.2.2)),o,((j+1:Nat):Int))) ?_
   apply List.ext_getElem
   ·simp
   ·intro w h1 h2
    rw[List.getElem_set]
    simp only[List.getElem_map,List.getElem_range]
    by_cases e:u=w
    ·subst e
     rw[if_pos rfl,hpu,if_pos (by omega),Int.toNat_natCast]
    ·rw[if_neg e]
     have hne:AS s.2.1 w≠(j:Int):=λh=>by
      have hm:(w:Int)∈s.2.1:=by
       by_cases hm:(w:Int)∈s.2.1
       ·exact hm
       ·rw[BU hm]at h;omega
      obtain⟨i,hi,g1,g2⟩:=CB hm
      have:i=j:=by omega
      subst this
      rw[hu]at g2;omega
     by_cases c:0<=AS s.2.1 w/\AS s.2.1 w<(j:Int)
     ·rw[if_pos c,if_pos (by omega)]
     ·rw[if_neg c,if_neg (by omega)]
  ·simp only[AX]
   rw[if_neg (by simp)]
   unfold Dm
   congr 1
   refine List.map_congr_left λu _=>?_
   unfold DH
   by_cases hm:(u:Int)∈s.2.1
   ·obtain⟨i,hi,g1,_⟩:=CB hm
    rw[g1,if_pos (by omega),if_neg (by omega)]
   ·rw[BU hm,if_neg (by omega),if_pos (by omega)]
end
end T
open Go Go.Va
namespace T
section
variable {a:Lin}
theorem Dr (h:DO a):Bi a=some (CL a):=by
 have:=Dn h
 unfold Cq at this
 have e:Bi (a.1,(a.2.1,a.2.2))=Bi a:=rfl
 rw[e]at this
 cases hg:Bi a with
 |none=>rw[hg]at this;cases this
 |some b=>rw[hg]at this;exact this
theorem Ex (h:CL a=true):pr4 a.1/\ ∃V:Nat,a.2.1=(V:Int)/\V<=8/\a.2.2.length<=8/\ ∀r∈a.2.2,Az a.1 (V+1) r:=by
 unfold CL at h
 simp only[Bool.and_eq_true,decide_eq_true_eq,List.all_eq_true]at h
 obtain⟨⟨⟨h1,h2⟩,h3⟩,h4⟩:=h
 refine⟨by unfold Co at h1;simp at h1;unfold pr4;omega,a.2.1.toNat,by omega,by omega,h3,λr hr=>?_⟩
 obtain⟨g1,g2⟩:=h4 r hr
 unfold BI at g2
 exact⟨by omega,λx hx=>by simpa using List.all_eq_true.1 g2 x hx⟩
theorem Dj {p:Int} {W V:Nat} (hp:pr4 p) (hV:V<=W) (hW:W<=1000) {rows:List (List Int)} (hr: ∀r∈rows,Az p W r) (hN:rows.length<=100000):BK p (V:Int) rows=some (B1 p V (As p rows V)):=Db hp hV hW hr hN
theorem Dx (h:DO a): ∃R:Int×Bool,AU a=some R/\BE a=some R:=by
 obtain⟨p,v,rows⟩:=a
 unfold AU BE
 rw[Cu h,Dr h]
 cases hg:CL (p,v,rows)with
 |false=>exact⟨_,rfl,rfl⟩
 |true=>
  obtain⟨hp,V,hv,hV,hN,hr⟩:=Ex hg
  dsimp only at hp hv hN hr
  subst hv
  have hs:=B6 hp hr V (by omega)
  unfold AI CE
  have e1:=Dj hp (show V<=V+1 by omega) (by omega) hr (by omega)
  have e2:=BP hp (show V<=V+1 by omega) (by omega) hr (by omega)
  have e3:=E2 hp hr V (by omega)
  simp only[e1,e2,Option.bind_some,Bool.not_true,Bool.false_eq_true,if_false]
  generalize As p rows V=s at hs e3
  have e4:=Ee hs (by omega) (by omega)
  have e5:=Ec hs (by omega) (by omega)
  have e5:Bq (s.1,(s.2.1,s.2.2)) (V:Int)=_:=e5
  have e6:=Cd (p:=p) (V:=V) (s:=s) (by omega)
  have hpb:2<=p/\p<=7:=by unfold pr4 at hp;omega
  have e7:w64 ((V:Int)-(s.2.1.length:Int))=((AA V s.2.1).length:Int):=by
   rw[AO (by omega) (by omega)];omega
  simp only[e4,e5,Option.bind_some]
  cases CZ V s with
  |true=>exact⟨_,rfl,rfl⟩
  |false=>
   simp only[Bool.false_eq_true,if_false,e6,Option.bind_some,e7,C1 (show 0<=p by omega) (show p<=8 by omega) (show(AA V s.2.1).length<=20 by omega),DS (show 0<=p by omega) (show p<=8 by omega) (show(AA V s.2.1).length<=20 by omega)]
   exact⟨_,rfl,rfl⟩
theorem DP (h:DO a) (ht:Dh a.2.2<=1048576): ∃b k,BH a 1=some (b,k)/\0<=k:=by
 have h1:=Dc (k:=1) h.1 h.2 (by omega) (by unfold BM;unfold Dh at ht;omega)
 have h2:=DD a.2.2 1
 unfold BH
 rw[h1]
 exact⟨_,_,rfl,by omega⟩
theorem FT {t:Nat} (h: ¬szR t 1048576<0):t<=1048576:=by
 unfold szR at h;split at h<;>omega
end
end T
open Go Go.Va
namespace T
section
variable {a:Lin} {p:Int} {W N V:Nat}
theorem En: ∀ {l:List (List Int)},(∀r∈l,r.length<=16)->(l.map List.length).sum<=16*l.length
 | [],_=>by simp
 |r::l,h=>by
  have:=En (l:=l) λq hq=>h q (List.mem_cons_of_mem _ hq)
  have:=h r (by simp)
  rw[List.map_cons,List.sum_cons,List.length_cons];omega
end
end T
set_option linter.unusedVariables false
open Go Go.Va
namespace T
def AN:Nat->(Int×Int×((List (List Int))×(List Int)×(List (List Int)))×(List (List Int))×(List Int)×Int×(List Int)×Int)->Option (Int×Int×((List (List Int))×(List Int)×(List (List Int)))×(List (List Int))×(List Int)×Int×(List Int))
 |0,_=>none
 |n+1,(p,vars,w,out,free,i,values,k)=>
 if decide (k<(w.2.1.length:Int))then
 if inb k w.2.1 then
 if inb k w.1 then
 if inb i free then
 if inb (gd free i 0) (gd w.1 k [])then
 if p≠0 then
 if inb (gd w.2.1 k 0) values then
 AN n (p,vars,(w.1,(w.2.1,w.2.2)),out,free,i,stt values (gd w.2.1 k 0) (Int.tmod (w64 (p-(gd (gd w.1 k []) (gd free i 0) 0))) p),w64 (k+1))
 else none
 else none
 else none
 else none
 else none
 else none
 else
 some (p,vars,(w.1,(w.2.1,w.2.2)),out,free,i,values)
def AM:Nat->(Int×Int×((List (List Int))×(List Int)×(List (List Int)))×(List (List Int))×(List Int)×Int)->Option ((List (List Int)))
 |0,_=>none
 |n+1,(p,vars,w,out,free,i)=>
 if decide (i<(free.length:Int))then
 if 0<=vars/\vars<=vars/\vars<=lim then
 if inb i free then
 if inb (gd free i 0) (List.replicate (Int.toNat vars) (0:Int))then
 (AN Aa (p,vars,(w.1,(w.2.1,w.2.2)),out,free,i,stt (List.replicate (Int.toNat vars) (0:Int)) (gd free i 0) 1,0)).bind λs2=>
 if s2.2.2.2.1.length+ [s2.2.2.2.2.2.2].length<=lim then
 AM n (s2.1,s2.2.1,(s2.2.2.1.1,(s2.2.2.1.2.1,s2.2.2.1.2.2)),s2.2.2.2.1++ [s2.2.2.2.2.2.2],s2.2.2.2.2.1,w64 (s2.2.2.2.2.2.1+1))
 else none
 else none
 else none
 else none
 else
 some out
def BQ (w:(List (List Int))×(List Int)×(List (List Int))) (p:Int) (vars:Int):Option ((List (List Int))):=
 (B4 (w.1,(w.2.1,w.2.2)) vars).bind λr1=>
 (AM Aa (p,vars,(w.1,(w.2.1,w.2.2)),[],r1,0)).bind λs2=>
 some s2
end T
open Go Go.Va
namespace T
theorem EJ {N:Nat} {b:List Int} {x:Int} (h:x∈AA N b):x∉b:=by
 unfold AA at h
 obtain⟨u,hu,rfl⟩:=List.mem_map.1 h
 have:=(List.mem_filter.1 hu).2
 simpa using this
section
variable {a:Lin} {p:Int} {W N V:Nat}
def E8 (p:Int) (s:ES) (f u:Nat):Int:=if AS s.2.1 u<0 then(if u=f then 1 else 0)else Int.tmod (p-(s.1.getD (AS s.2.1 u).toNat []).getD f 0) p
def C6 (p:Int) (V:Nat) (s:ES) (f:Nat):List Int:=(List.range V).map (E8 p s f)
end
end T
open Go Go.Va
namespace T
section
variable {a:Lin} {p:Int} {W N V:Nat}
def BT (p:Int) (V:Nat) (s:ES):List (List Int):=(AA V s.2.1).map λf=>C6 p V s f.toNat
theorem El (hp:pr4 p) {s:ES} (hs:ESok p W N V s) (hV:V<W) (hN:N<=100000) (hW:W<=1000) {F:List Int} {i f:Nat} (hi:i<F.length) (hf:F[i]=(f:Int)) (hfV:f<V) (hfb:(f:Int)∉s.2.1) (out:List (List Int)):
  AN Aa (p,(V:Int),(s.1,(s.2.1,s.2.2)),out,F,(i:Int),(List.replicate V (0:Int)).set f 1,0)=some (p,(V:Int),(s.1,(s.2.1,s.2.2)),out,F,(i:Int),C6 p V s f):=by
 have hp0:p≠0:=by unfold pr4 at hp;omega
 have hpb:2<=p/\p<=7:=by unfold pr4 at hp;omega
 have hbl:=hs.bl
 have hn:=hs.n
 have l8:=BZ s.2.1.length (λg (o:List Int) k=>AN g (p,(V:Int),(s.1,(s.2.1,s.2.2)),out,F,(i:Int),o,k)) (λk=>(List.range V).map λu=>if 0<=AS s.2.1 u/\AS s.2.1 u<(k:Int)then Int.tmod (p-(s.1.getD (AS s.2.1 u).toNat []).getD f 0) p else if u=f then 1 else 0) (r:=some (p,(V:Int),(s.1,(s.2.1,s.2.2)),out,F,(i:Int),C6 p V s f)) (λg k hk=>?_) (λg=>?_) (n:=Aa) (by unfold Aa;omega)
 ·have e0:((List.range V).map λu=>if 0<=AS s.2.1 u/\AS s.2.1 u<((0:Nat):Int)then Int.tmod (p-(s.1.getD (AS s.2.1 u).toNat []).getD f 0) p else if u=f then 1 else 0)=(List.replicate V (0:Int)).set f 1:=by
   apply List.ext_getElem
   ·simp
   ·intro w h1 h2
    rw[List.getElem_set]
    simp only[List.getElem_map,List.getElem_range,List.getElem_replicate]
    rw[if_neg (by omega)]
    by_cases c:f=w
    ·rw[if_pos c,if_pos c.symm]
    ·rw[if_neg c,if_neg (λh=>c h.symm)]
  rw[e0]at l8
  exact l8
 ·have hbv:=hs.bv _ (List.getElem_mem hk)
  obtain⟨u,hu⟩: ∃u:Nat,s.2.1[k]=(u:Int):=⟨s.2.1[k].toNat,by omega⟩
  have hpu:=DZ hs.bn hk hu
  have hk1:k<s.1.length:=by omega
  have hrow:Az p W (s.1.getD k []):=by rw[Ad hk1];exact hs.t _ (List.getElem_mem hk1)
  have hfl:f<(s.1.getD k []).length:=by rw[hrow.1];omega
  have hx:=Bs hrow (show f<W by omega)
  have huV:u<V:=by omega
  simp only[AN,Ac,hk,hk1,hi,Ay hk,Ay hi,hu,hf,BR,hfl,if_true,AT,AO (x:=p-(s.1.getD k []).getD f 0) (by omega) (by omega),Ab (show k<4611686018427387904 by omega)]
  rw[if_pos (by simp;omega),if_pos hp0,if_pos (by simp;omega)]
  congr 1
  refine congrArg (λo=>(p,(V:Int),(s.1,(s.2.1,s.2.2)),out,F,(i:Int),o,((k+1:Nat):Int))) ?_
  apply List.ext_getElem
  ·simp
  ·intro w h1 h2
   rw[List.getElem_set]
   simp only[List.getElem_map,List.getElem_range]
   by_cases e:u=w
   ·subst e
    rw[if_pos rfl,hpu,if_pos (by omega),Int.toNat_natCast]
   ·rw[if_neg e]
    have hne:AS s.2.1 w≠(k:Int):=λh=>by
     have hm:(w:Int)∈s.2.1:=by
      by_cases hm:(w:Int)∈s.2.1
      ·exact hm
      ·rw[BU hm]at h;omega
     obtain⟨j,hj,g1,g2⟩:=CB hm
     have:j=k:=by omega
     subst this
     rw[hu]at g2;omega
    by_cases c:0<=AS s.2.1 w/\AS s.2.1 w<(k:Int)
    ·rw[if_pos c,if_pos (show 0<=AS s.2.1 w/\AS s.2.1 w<((k+1:Nat):Int) by omega)]
    ·rw[if_neg c,if_neg (show¬(0<=AS s.2.1 w/\AS s.2.1 w<((k+1:Nat):Int)) by omega)]
 ·simp only[AN]
  rw[if_neg (by simp)]
  unfold C6
  congr 1
  refine congrArg (λo=>(p,(V:Int),(s.1,(s.2.1,s.2.2)),out,F,(i:Int),o)) ?_
  refine List.map_congr_left λu _=>?_
  unfold E8
  by_cases hm:(u:Int)∈s.2.1
  ·obtain⟨j,hj,g1,_⟩:=CB hm
   rw[g1,if_pos (by omega),if_neg (by omega)]
  ·rw[BU hm,if_neg (show¬(0<=(-1:Int)/\(-1:Int)<(s.2.1.length:Int)) by omega),if_pos (show(-1:Int)<0 by omega)]
theorem Em (hp:pr4 p) {s:ES} (hs:ESok p W N V s) (hV:V<W) (hN:N<=100000) (hW:W<=1000):BQ s p (V:Int)=some (BT p V s):=by
 have hFl:(AA V s.2.1).length<=V:=B0
 have hFm: ∀k (hk:k<(AA V s.2.1).length),(∃u:Nat,u<V/\(AA V s.2.1)[k]=(u:Int))/\(AA V s.2.1)[k]∉s.2.1:=λk hk=>⟨EI (b:=s.2.1) (List.getElem_mem hk),EJ (List.getElem_mem hk)⟩
 have hfr:=Fv hs hN (by omega)
 have hfr:B4 (s.1,(s.2.1,s.2.2)) (V:Int)=_:=hfr
 unfold BQ BT
 rw[hfr]
 simp only[Option.bind_some]
 generalize AA V s.2.1=F at*
 have l3:=BZ F.length (λf o i=>AM f (p,(V:Int),(s.1,(s.2.1,s.2.2)),o,F,i)) (λk=>(F.take k).map λf=>C6 p V s f.toNat) (r:=some (F.map λf=>C6 p V s f.toNat)) (λf k hk=>?_) (λf=>?_) (n:=Aa) (by unfold Aa;omega)
 ·have l3:AM Aa (p,(V:Int),(s.1,(s.2.1,s.2.2)),[],F,0)=_:=l3
  rw[l3];rfl
 ·obtain⟨⟨u,hu,e⟩,hnb⟩:=hFm k hk
  rw[e]at hnb
  have hur:u<(List.replicate V (0:Int)).length:=by simp;omega
  have h8:=El hp hs hV hN hW hk e hu hnb ((F.take k).map λf=>C6 p V s f.toNat)
  simp only[AM,Int.toNat_natCast,Ac,hk,Ay hk,e,hur,AT,h8,Option.bind_some,if_true,Ab (show k<4611686018427387904 by omega),List.take_succ_eq_append_getElem hk,List.map_append,List.map_cons,List.map_nil]
  rw[if_pos (by simp;omega),if_pos (by unfold lim;omega),if_pos (by simp;unfold lim;omega)]
 ·simp only[AM,List.take_length]
  rw[if_neg (by simp)]
end
end T
open Go Go.Va
namespace T
def cg (p a b:Int):Prop:= ∃k,a=b+p*k
section
variable {p a b c d:Int}
theorem EX (h:a=b):cg p a b:=⟨0,by rw[h];simp⟩
theorem FN (h:cg p a b) (g:cg p c d):cg p (a+c) (b+d):=by obtain⟨k,h⟩:=h;obtain⟨m,g⟩:=g;exact⟨k+m,by grind⟩
theorem FO (x:Int) (h:cg p a b):cg p (x*a) (x*b):=by obtain⟨k,h⟩:=h;exact⟨x*k,by grind⟩
end
inductive Sp (p:Int) (V:Nat) (A:List (List Int)):(Nat->Int)->Prop
 |zero:Sp p V A λ_=>0
 |add {f:Nat->Int} (r:List Int) (c:Int):r∈A->Sp p V A f->Sp p V A λi=>f i+c*r.getD i 0
 |cgr {f g:Nat->Int}:Sp p V A f->(∀i,i<V->cg p (g i) (f i))->Sp p V A g
section
variable {p:Int} {V W N:Nat} {A B:List (List Int)} {f g:Nat->Int}
theorem Sp.lin (hf:Sp p V A f) (hg:Sp p V A g) (c:Int):Sp p V A λi=>f i+c*g i:=by
 induction hg with
 |zero=>exact hf.cgr λi _=>EX (by simp)
 |add r d hr _ ih=>exact(ih.add r (c*d) hr).cgr λi _=>EX (by grind)
 |cgr _ h ih=>exact ih.cgr λi hi=>FN (EX rfl) (FO c (h i hi))
theorem Sp.sub (h: ∀r∈A,Sp p V B λi=>r.getD i 0) (hf:Sp p V A f):Sp p V B f:=by
 induction hf with
 |zero=>exact .zero
 |add r c hr _ ih=>exact ih.lin (h r hr) c
 |cgr _ h ih=>exact ih.cgr h
def eqSp (p:Int) (V:Nat) (A B:List (List Int)):Prop:= ∀f,Sp p V A f↔Sp p V B f
end
end T
open Go Go.Va
namespace T
section
variable {p:Int} {V W N:Nat} {A B:List (List Int)} {f g:Nat->Int}
theorem Ef {α:Type} {l:List α} {i:Nat} {d:α} (hi:i<l.length):l.getD i d∈l:=by rw[Ad hi];exact List.getElem_mem hi
end
end T
open Go Go.Va
namespace T
section
variable {p:Int} {V W N:Nat} {A B C D:List (List Int)} {f g:Nat->Int}
theorem eqSp.symm (h:eqSp p V A B):eqSp p V B A:=λf=>(h f).symm
theorem eqSp.trans (h:eqSp p V A B) (g:eqSp p V B C):eqSp p V A C:=λf=>(h f).trans (g f)
end
end T
open Go Go.Va
namespace T
def i64 (x:Int):Prop:= -9223372036854775808<=x/\x<=9223372036854775807
section
variable {c:List Int} {ar:Int}
def Gf (t:List Int) (x:Int):Bool:=if x>0 then gd t (x-1) 0==1 else gd t (-x-1) 0==0
end
end T
open Go Go.Va
namespace T
abbrev NS:=Bool×Int×List (List (List Int))×List (List (List ByteArray))
abbrev NIn (σ:Type):=Int×List Int×σ×NS×List Int×Unit
abbrev Fq (σ:Type):=List Int×σ×NS×List Int×Bool
def hM {σ:Type}:Nat->(Int×List Int×σ×NS×List Int×Unit×Int×Bool×List (List Int)×Int×Int)->Option (Int×List Int×σ×NS×List Int×Unit×Int×Bool)
 |0,_=>none
 |n+1,(t0,t1,t2,t3,t4,t5,t8,t9,t50,t51,t52)=>
 if decide (t52<t51)then
 if inb t52 t50 then
 if t9 then
 if t3.1=true then
 if inb t0 t3.2.2.2 then
 if inb t52 (gd t3.2.2.2 t0 [])then
 (D5 (gd t50 t52 []) t1).bind λr2=>
 (Eu r2).bind λr3=>
 hM n (t0,t1,t2,t3,t4,(),t8,Xs (gd (gd t3.2.2.2 t0 []) t52 []) r3,t50,t51,w64 (t52+1))
 else none
 else none
 else none
 else
 hM n (t0,t1,t2,t3,t4,(),t8,false,t50,t51,w64 (t52+1))
 else none
 else
 some (t0,t1,t2,t3,t4,(),t8,t9)
def hL {σ:Type} (rec:NIn σ->Option (Fq σ)):Nat->(Int×List Int×σ×NS×List Int×Unit×Int)->Option ((List Int×σ×NS×List Int×Unit)⊕(List Int×σ×NS×List Int×Unit×Bool))
 |0,_=>none
 |n+1,(t0,t1,t2,t3,t4,t5,t8)=>
 if t3.1=true then
 if decide (t8<t3.2.1)then
 if inb t0 t4 then
 if decide ((gd t4 t0 0)≥0)then
 if inb t0 t4 then
 if(gd t4 t0 0) !=t8 then
 hL rec n (t0,t1,t2,t3,t4,(),w64 (t8+1))
 else
 if inb t0 t1 then
 if t3.1=true then
 if inb t0 t3.2.2.1 then
 (hM Aa (t0,stt t1 t0 t8,t2,t3,t4,(),t8,true,gd t3.2.2.1 t0 [],((gd t3.2.2.1 t0 []).length:Int),0)).bind λs2=>
 if s2.2.2.2.2.2.2.2 then
 (rec (w64 (s2.1+1),s2.2.1,s2.2.2.1,s2.2.2.2.1,s2.2.2.2.2.1,())).bind λr3=>
 if !r3.2.2.2.2 then
 some (.inr (r3.1,r3.2.1,r3.2.2.1,r3.2.2.2.1,(),false))
 else
 hL rec n (s2.1,r3.1,r3.2.1,r3.2.2.1,r3.2.2.2.1,(),w64 (s2.2.2.2.2.2.2.1+1))
 else
 hL rec n (s2.1,s2.2.1,s2.2.2.1,s2.2.2.2.1,s2.2.2.2.2.1,(),w64 (s2.2.2.2.2.2.2.1+1))
 else none
 else none
 else none
 else none
 else
 if inb t0 t1 then
 if t3.1=true then
 if inb t0 t3.2.2.1 then
 (hM Aa (t0,stt t1 t0 t8,t2,t3,t4,(),t8,true,gd t3.2.2.1 t0 [],((gd t3.2.2.1 t0 []).length:Int),0)).bind λs4=>
 if s4.2.2.2.2.2.2.2 then
 (rec (w64 (s4.1+1),s4.2.1,s4.2.2.1,s4.2.2.2.1,s4.2.2.2.2.1,())).bind λr5=>
 if !r5.2.2.2.2 then
 some (.inr (r5.1,r5.2.1,r5.2.2.1,r5.2.2.2.1,(),false))
 else
 hL rec n (s4.1,r5.1,r5.2.1,r5.2.2.1,r5.2.2.2.1,(),w64 (s4.2.2.2.2.2.2.1+1))
 else
 hL rec n (s4.1,s4.2.1,s4.2.2.1,s4.2.2.2.1,s4.2.2.2.2.1,(),w64 (s4.2.2.2.2.2.2.1+1))
 else none
 else none
 else none
 else none
 else
 some (.inl (t1,t2,t3,t4,()))
 else none
def F6 {σ:Type} (cb:List Int->σ->Option (σ×Bool)) (rec:NIn σ->Option (Fq σ)) (x:NIn σ):Option (Fq σ):=
 if x.1==(x.2.1.length:Int)then
  (cb x.2.1 x.2.2.1).bind λr1=>some (x.2.1,r1.1,x.2.2.2.1,x.2.2.2.2.1,r1.2)
 else
  (hL rec Aa (x.1,x.2.1,x.2.2.1,x.2.2.2.1,x.2.2.2.2.1,(),0)).bind λs2=>
   match s2 with
   | .inl s3=>some (s3.1,s3.2.1,s3.2.2.1,s3.2.2.2.1,true)
   | .inr s4=>some (s4.1,s4.2.1,s4.2.2.1,s4.2.2.2.1,s4.2.2.2.2.2)
def hF {σ:Type} (cb:List Int->σ->Option (σ×Bool)):Nat->NIn σ->Option (Fq σ)
 |0,_=>none
 |d+1,x=>F6 cb (hF cb d) x
section
variable {V n:Nat} {cs:List Con} {given:List Int}
end
end T
set_option linter.unusedVariables false
open Go Go.Va
namespace T
def Cc (list:List (List Int)) (t:List Int):Option ((List (List Int))):=
 (CT list t).bind λr1=>
 if r1.2 then
 some list
 else
 if(0:Int)<=0/\0<=r1.1/\r1.1<=(list.length:Int)then
 if([]:List (List Int)).length+((list.take (Int.toNat r1.1)).drop (Int.toNat 0)).length<=lim then
 if([]++((list.take (Int.toNat r1.1)).drop (Int.toNat 0))).length+ [t].length<=lim then
 if(0:Int)<=r1.1/\r1.1<=(list.length:Int)/\(list.length:Int)<=(list.length:Int)then
 if(([]++((list.take (Int.toNat r1.1)).drop (Int.toNat 0)))++ [t]).length+((list.take (Int.toNat (list.length:Int))).drop (Int.toNat r1.1)).length<=lim then
 some ((([]++((list.take (Int.toNat r1.1)).drop (Int.toNat 0)))++ [t])++((list.take (Int.toNat (list.length:Int))).drop (Int.toNat r1.1)))
 else none
 else none
 else none
 else none
 else none
end T
open Go Go.Va
namespace T
def Zn (cmp:List Int->List Int->Int) (rows:List (List Int)):List (List Int):=rows.mergeSort (λx y=>!decide (cmp y x<0))
def ZX (s t:List Int):Int:=if s.length<t.length then-1 else if t.length<s.length then 1 else cmpL s t
theorem FV (s:List Int):ZX s s=0:=by unfold ZX;rw[if_neg (by omega),if_neg (by omega),cmpL_refl]
theorem FW (s t:List Int):ZX t s= -ZX s t:=by
 unfold ZX
 by_cases h1:s.length<t.length
 ·rw[if_neg (by omega),if_pos h1,if_pos h1];rfl
 ·by_cases h2:t.length<s.length
  ·rw[if_pos h2,if_neg h1,if_pos h2]
  ·rw[if_neg h2,if_neg h1,if_neg h1,if_neg h2,cmpL_symm]
theorem Gc {s t:List Int} (h:ZX s t=0):s=t:=by
 unfold ZX at h
 by_cases h1:s.length<t.length
 ·rw[if_pos h1]at h;exact absurd h (by decide)
 ·rw[if_neg h1]at h
  by_cases h2:t.length<s.length
  ·rw[if_pos h2]at h;exact absurd h (by decide)
  ·rw[if_neg h2]at h;exact cmpL_eq.1 h
theorem FP {s t u:List Int} (h1:ZX s t<0) (h2:ZX t u<0):ZX s u<0:=by
 unfold ZX at*
 by_cases a1:s.length<u.length
 ·rw[if_pos a1];decide
 ·rw[if_neg a1]
  by_cases b1:s.length<t.length
  ·have b2:u.length<t.length:=by omega
   rw[if_neg (by omega),if_pos b2]at h2;exact absurd h2 (by decide)
  ·rw[if_neg b1]at h1
   by_cases b3:t.length<s.length
   ·rw[if_pos b3]at h1;exact absurd h1 (by decide)
   ·rw[if_neg b3]at h1
    by_cases c1:t.length<u.length
    ·omega
    ·rw[if_neg c1]at h2
     by_cases c2:u.length<t.length
     ·rw[if_pos c2]at h2;exact absurd h2 (by decide)
     ·rw[if_neg c2]at h2
      rw[if_neg (by omega)]
      exact cmpL_trans h1 h2
end T
open Go Go.Va
namespace T
theorem Dk {l:List (List Int)}:CK l=true↔l.Pairwise (λa b=>cmpL a b<0):=by
 constructor
 ·intro h
  rw[List.pairwise_iff_getElem]
  exact λi j hi hj hij=>CU h i j hij hj
 ·intro h
  rw[E7]
  rw[List.pairwise_iff_getElem]at h
  exact λi hi=>h i (i+1) (by omega) hi (by omega)
theorem DT {list:List (List Int)} {t:List Int} {k:Nat} (hl:list.length<=1000000) (hk:k<=1000000) (hv: ∀u∈list,u.length=k) (ht:t.length=k) (hi:CK list=true):
  ∃out,Cc list t=some out/\CK out=true/\(∀u,u∈out↔u=t∨u∈list)/\(t∉list->out.Perm (t::list)):=by
 obtain⟨c,e,k1,k2,k3⟩:=DL (by omega) (by omega) hv ht hi
 unfold Cc
 rw[e]
 simp only[Option.bind_some]
 by_cases hm:t∈list
 ·rw[decide_eq_true hm,if_pos rfl]
  exact⟨list,rfl,hi,λu=>⟨Or.inr,λh=>h.elim (λh=>h▸hm) id⟩,λh=>absurd hm h⟩
 ·rw[decide_eq_false hm,if_neg (by simp)]
  have e1:(list.take (Int.toNat (c:Int))).drop (Int.toNat 0)=list.take c:=by simp
  have e2:(list.take (Int.toNat (list.length:Int))).drop (Int.toNat (c:Int))=list.drop c:=by simp
  have hlim:lim=1099511627776:=rfl
  have t1:(list.take c).length=c:=by rw[List.length_take];omega
  rw[e1,e2,if_pos (by omega),if_pos (by simp;omega),if_pos (by simp;omega),if_pos (by omega),if_pos (by simp;omega)]
  refine⟨_,rfl,?_,λu=>?_,λ_=>?_⟩
  ·rw[Dk]at hi⊢
   simp only[List.nil_append]
   have hsp:list=list.take c++list.drop c:=(List.take_append_drop c list).symm
   rw[hsp,List.pairwise_append]at hi
   have h4: ∀u∈list.take c,cmpL u t<0:=λu hu=>by
    obtain⟨i,hi',rfl⟩:=List.mem_iff_getElem.1 hu
    rw[List.getElem_take]
    exact k2 i _ (by omega)
   have h5: ∀u∈list.drop c,cmpL t u<0:=λu hu=>by
    obtain⟨i,hi',rfl⟩:=List.mem_iff_getElem.1 hu
    rw[List.length_drop]at hi'
    rw[List.getElem_drop]
    have h6:=k3 (c+i) (by omega) (by omega)
    have h7:=cmpL_symm (list[c+i]'(by omega)) t
    have h8:cmpL (list[c+i]'(by omega)) t≠0:=λh=>hm (by rw[←cmpL_eq.1 h];exact List.getElem_mem _)
    omega
   rw[List.pairwise_append,List.pairwise_append]
   refine⟨⟨hi.1,List.pairwise_singleton _ _,λa ha b hb=>by rw[List.mem_singleton.1 hb];exact h4 a ha⟩,hi.2.1,λa ha b hb=>?_⟩
   rcases List.mem_append.1 ha with ha|ha
   ·exact hi.2.2 a ha b hb
   ·rw[List.mem_singleton.1 ha];exact h5 b hb
  ·have hsp:u∈list↔u∈list.take c∨u∈list.drop c:=by rw[←List.mem_append,List.take_append_drop]
   simp only[List.nil_append,List.mem_append,List.mem_singleton,hsp]
   constructor
   ·rintro ((h|h)|h)
    ·exact Or.inr (Or.inl h)
    ·exact Or.inl h
    ·exact Or.inr (Or.inr h)
   ·rintro (h|h|h)
    ·exact Or.inl (Or.inr h)
    ·exact Or.inl (Or.inl h)
    ·exact Or.inr h
  ·simp only[List.nil_append]
   refine(List.Perm.append_right _ (List.perm_append_comm)).trans ?_
   rw[List.append_assoc,List.take_append_drop]
   exact List.Perm.refl _
theorem EG {x y:List Int} (h1: ¬cmpL y x<0) (h2: ¬cmpL x y<0):x=y:=by
 have:=cmpL_symm x y
 exact cmpL_eq.1 (by omega)
theorem Fj {out l:List (List Int)} (hi:CK out=true) (hp:out.Perm l):Zn cmpL l=out:=by
 have hs:(Zn cmpL l).Pairwise λx y=>(!decide (cmpL y x<0))=true:=by
  unfold Zn
  refine List.pairwise_mergeSort (λa b c h1 h2=>?_) (λa b=>?_) l
  ·simp only[Bool.not_eq_true',decide_eq_false_iff_not]at*
   intro h3
   have q1:=cmpL_symm a b
   have q2:=cmpL_symm b c
   by_cases e:cmpL a b=0
   ·rw[cmpL_eq.1 e]at h3;exact h2 h3
   ·exact h2 (cmpL_trans h3 (by omega))
  ·simp only[Bool.or_eq_true,Bool.not_eq_true',decide_eq_false_iff_not]
   have q1:=cmpL_symm a b
   omega
 have ho:out.Pairwise λx y=>(!decide (cmpL y x<0))=true:=by
  refine(Dk.1 hi).imp ?_
  intro a b h
  simp only[Bool.not_eq_true',decide_eq_false_iff_not]
  have q1:=cmpL_symm a b
  omega
 have hpp:(Zn cmpL l).Perm out:=(List.mergeSort_perm l _).trans hp.symm
 refine List.Perm.eq_of_pairwise (λa b _ _ h1 h2=>?_) hs ho hpp
 simp only[Bool.not_eq_true',decide_eq_false_iff_not]at h1 h2
 exact EG h1 h2
end T
set_option linter.unusedVariables false
open Go Go.Va
namespace T
def Ak:Nat->((Int×Int×(List (List Int)))×(List (List Int))×Int×(List Int)×Bool×(List (List Int))×Int×(List Int)×(List Int)×Int)->Option ((Int×Int×(List (List Int)))×(List (List Int))×Int×(List Int)×Bool×(List (List Int))×Int×(List Int))
 |0,_=>none
 |n+1,(t1,t4,t5,t7,t8,t9,t10,t11,t12,t13)=>
 if decide (t13<(t9.length:Int))then
 if inb t13 t9 then
 if inb t13 t12 then
 (Bb t1.1 t11 (gd t9 t13 []) (w64 (t1.1-(gd t12 t13 0)))).bind λr7=>
 Ak n ((t1.1,(t1.2.1,t1.2.2)),t4,t5,t7,t8,t9,t10,r7,t12,w64 (t13+1))
 else none
 else none
 else
 some ((t1.1,(t1.2.1,t1.2.2)),t4,t5,t7,t8,t9,t10,t11)
def Ag:Nat->((Int×Int×(List (List Int)))×(List (List Int))×Int×(List Int)×Bool×(List (List Int))×Int)->Option ((List (List Int)))
 |0,_=>none
 |n+1,(t1,t4,t5,t7,t8,t9,t10)=>
 if decide (t10<t5)then
 if t8 then
 (CD t7).bind λr5=>
 (CS t1.1 (t9.length:Int) t10).bind λr6=>
 (Ak Aa ((t1.1,(t1.2.1,t1.2.2)),t4,t5,t7,t8,t9,t10,r5,r6,0)).bind λs7=>
 (Cc s7.2.1 s7.2.2.2.2.2.2.2).bind λr8=>
 Ag n ((s7.1.1,(s7.1.2.1,s7.1.2.2)),r8,s7.2.2.1,s7.2.2.2.1,s7.2.2.2.2.1,s7.2.2.2.2.2.1,w64 (s7.2.2.2.2.2.2.1+1))
 else
 some t4
 else
 some t4
def Ba (t0:Int×Int×(List (List Int))):Option ((List (List Int))×Bool):=
 (BE (t0.1,(t0.2.1,t0.2.2))).bind λr1=>
 if !r1.2 then
 some ([],false)
 else
 if decide (r1.1>600)then
 some ([],false)
 else
 (Ct t0.1 t0.2.1 t0.2.2).bind λr2=>
 (CE (t0.1,(t0.2.1,t0.2.2))).bind λr3=>
 (BQ (r3.1,(r3.2.1,r3.2.2)) t0.1 t0.2.1).bind λr4=>
 (Ag Aa ((t0.1,(t0.2.1,t0.2.2)),[],r1.1,r2.1,r2.2,r4,0)).bind λs5=>
 some (s5,true)
def Al (a0:List (List Int)) (a1:Unit):Option (List (List Int)):=
 if List.length a0<=lim/\List.all a0 (λx=>decide (List.length x<=lim))=true then some (Zn cmpL a0)else none
def Am:Nat->((Int×Int×(List (List Int)))×Int×(Bool×Int×Int×(List (List Int))×Int×(List Int))×Int×(List (List Int))×Int)->Option ((List (List Int)))
 |0,_=>none
 |n+1,(l,many,e,free,list,i)=>
 if decide (i<many)then
 (CM i free l.1).bind λr4=>
 (AY e r4).bind λr5=>
 if list.length+ [r5].length<=lim then
 Am n ((l.1,(l.2.1,l.2.2)),many,e,free,list++ [r5],w64 (i+1))
 else none
 else
 some list
def AH (l:Int×Int×(List (List Int))):Option ((List (List Int))×Bool):=
 (AU (l.1,(l.2.1,l.2.2))).bind λr1=>
 if !r1.2 then
 some ([],false)
 else
 if decide (r1.1>600)then
 some ([],false)
 else
 (AI (l.1,(l.2.1,l.2.2))).bind λr2=>
 (Ai r2).bind λr3=>
 (Am Aa ((l.1,(l.2.1,l.2.2)),r1.1,r2,(r3.length:Int),[],0)).bind λs4=>
 (Al s4 ()).bind λr5=>
 some (r5,true)
def Bu (t0:Int×Int×(List (List Int))):Option (Bool):=
 (Cm (t0.1,(t0.2.1,t0.2.2)) 1048576).bind λr1=>
 if decide (r1<0)then
 some true
 else
 (Bp (t0.1,(t0.2.1,t0.2.2))).bind λr2=>
 (Ba (r2.1,(r2.2.1,r2.2.2))).bind λr3=>
 (Bp (t0.1,(t0.2.1,t0.2.2))).bind λr4=>
 (AH (r4.1,(r4.2.1,r4.2.2))).bind λr5=>
 (BD r5.1 r3.1).bind λr6=>
 if !r6 then
 some false
 else
 if r5.2 !=r3.2 then
 some false
 else
 (Bp (t0.1,(t0.2.1,t0.2.2))).bind λr7=>
 (Ck (r4.1,(r4.2.1,r4.2.2)) (r7.1,(r7.2.1,r7.2.2))).bind λr8=>
 if !r8 then
 some false
 else
 (BH (r4.1,(r4.2.1,r4.2.2)) 1).bind λr9=>
 if decide (r9.2<0)then
 some false
 else
 (BD r5.1 r3.1).bind λr10=>
 if !r10 then
 some false
 else
 if r5.2 !=r3.2 then
 some false
 else
 (BO r5.1 1).bind λr11=>
 (BN r11.1 1).bind λr12=>
 if decide (r12<0)then
 some false
 else
 if r12 !=r11.2 then
 some false
 else
 (Bp (t0.1,(t0.2.1,t0.2.2))).bind λr13=>
 (AH (r13.1,(r13.2.1,r13.2.2))).bind λr14=>
 (BD r14.1 r3.1).bind λr15=>
 if !r15 then
 some false
 else
 if r14.2 !=r3.2 then
 some false
 else
 (BN r11.1 1).bind λr16=>
 if decide (r16<0)then
 some false
 else
 if r16 !=r11.2 then
 some false
 else
 some true
end T
open Go Go.Va
namespace T
section
variable {p:Int} {W N V:Nat}
def coG (p:Int) (s:ES) (u:Nat) (f:Int):Int:=if AS s.2.1 u<0 then(if f=(u:Int)then 1 else 0)else p-(s.1.getD (AS s.2.1 u).toNat []).getD f.toNat 0
def BS (p:Int) (V:Nat) (s:ES) (F x:List Int) (u:Nat):Nat->Int
 |0=>DH V s u
 |k+1=>BS p V s F x u k+coG p s u (F.getD k 0)*x.getD k 0
def CH (p:Int) (V:Nat) (s:ES) (F x:List Int) (k:Nat):List Int:=(List.range V).map λu=>BS p V s F x u k%p
structure GenOk (p:Int) (W N V:Nat) (s:ES) (F x:List Int):Prop where
 hp:pr4 p
 hs:ESok p W N V s
 hV:V<W
 hW:W<=1000
 hN:N<=100000
 hF:F=AA V s.2.1
 hx:x.length=F.length
 xb: ∀v∈x,0<=v/\v<p
variable {s:ES} {F x:List Int}
theorem GenOk.fl (g:GenOk p W N V s F x):F.length<=V:=by rw[g.hF];exact B0
theorem GenOk.fm (g:GenOk p W N V s F x) (k:Nat) (hk:k<F.length): ∃u:Nat,u<V/\F[k]=(u:Int)/\(u:Int)∉s.2.1:=by
 have h:F[k]∈AA V s.2.1:=by rw[←g.hF];exact List.getElem_mem hk
 unfold AA at h
 obtain⟨u,hu,e⟩:=List.mem_map.1 h
 rw[List.mem_filter]at hu
 exact⟨u,List.mem_range.1 hu.1,e.symm,by simpa using hu.2⟩
theorem GenOk.xv (g:GenOk p W N V s F x) (k:Nat) (hk:k<F.length):0<=x.getD k 0/\x.getD k 0<p:=by
 have:k<x.length:=by rw[g.hx];exact hk
 rw[Ad this];exact g.xb _ (List.getElem_mem this)
theorem GenOk.pb (g:GenOk p W N V s F x):2<=p/\p<=7:=by have:=g.hp;unfold pr4 at this;omega
theorem GenOk.row (g:GenOk p W N V s F x) {u:Nat} (hu: ¬AS s.2.1 u<0):(AS s.2.1 u).toNat<s.1.length/\Az p W (s.1.getD (AS s.2.1 u).toNat []):=by
 have hm:(u:Int)∈s.2.1:=by
  rcases Decidable.em ((u:Int)∈s.2.1)with h|h
  ·exact h
  ·exact absurd (Ca.2 h) hu
 obtain⟨i,hi,g1,_⟩:=CB hm
 rw[g1,Int.toNat_natCast]
 have:=g.hs.bl
 exact⟨by omega,by rw[Ad (by omega)];exact g.hs.t _ (List.getElem_mem _)⟩
theorem GenOk.base (g:GenOk p W N V s F x) (u:Nat):0<=DH V s u/\DH V s u<p:=by
 have:=g.pb
 unfold DH
 split
 ·omega
 ·rename_i h
  exact Bs (g.row h).2 g.hV
theorem GenOk.co (g:GenOk p W N V s F x) (u:Nat) {k:Nat} (hk:k<F.length):0<=coG p s u (F.getD k 0)/\coG p s u (F.getD k 0)<=7:=by
 have:=g.pb
 unfold coG
 split
 ·split<;>omega
 ·rename_i h
  obtain⟨f,hf,e,_⟩:=g.fm k hk
  rw[Ad hk,e,Int.toNat_natCast]
  have:=Bs (g.row h).2 (show f<W by have:=g.hV;omega)
  omega
theorem GenOk.bound (g:GenOk p W N V s F x) (u:Nat): ∀k,k<=F.length->0<=BS p V s F x u k/\BS p V s F x u k<=7+49*k
 |0,_=>by have:=g.base u;have:=g.pb;simp only[BS];omega
 |k+1,hk=>by
  have ih:=g.bound u k (by omega)
  have h1:=g.co u (k:=k) (by omega)
  have h2:=g.xv k (by omega)
  have:=g.pb
  have h3:0<=coG p s u (F.getD k 0)*x.getD k 0:=Int.mul_nonneg h1.1 h2.1
  have h4:coG p s u (F.getD k 0)*x.getD k 0<=7*7:=Int.mul_le_mul h1.2 (by omega) h2.1 (by omega)
  simp only[BS]
  omega
theorem GenOk.free (g:GenOk p W N V s F x) {u j:Nat} (hj:j<F.length) (hu:F[j]=(u:Int)): ∀k,k<=F.length->BS p V s F x u k=if j<k then x.getD j 0 else 0
 |0,_=>by
  obtain⟨u',_,e,hn⟩:=g.fm j hj
  have:u'=u:=by omega
  subst this
  simp only[BS,DH]
  rw[if_pos (Ca.2 hn)];simp
 |k+1,hk=>by
  have ih:=g.free hj hu k (by omega)
  obtain⟨u',_,e,hn⟩:=g.fm j hj
  have:u'=u:=by omega
  subst this
  have hnd:F.Nodup:=by
   rw[g.hF];unfold AA
   refine List.Pairwise.map _ ?_ (List.nodup_range.filter _)
   intro a b hab h;exact hab (by omega)
  simp only[BS,ih,coG]
  rw[if_pos (Ca.2 hn),Ad (show k<F.length by omega)]
  by_cases hkj:k=j
  ·subst hkj
   rw[if_pos hu,if_neg (by omega),if_pos (by omega)];omega
  ·have:F[k]≠(u':Int):=λh=>hkj ((List.getElem_inj hnd).1 (h.trans hu.symm))
   rw[if_neg this]
   by_cases c:j<k
   ·rw[if_pos c,if_pos (by omega)];omega
   ·rw[if_neg c,if_neg (by omega)];omega
theorem Dw {k:Nat}:(CH p V s F x k).length=V:=by simp[CH]
theorem D9 {k u:Nat} (hu:u<V):(CH p V s F x k).getD u 0=BS p V s F x u k%p:=by rw[Ad (by rw[Dw];exact hu)];simp[CH]
end
end T
open Go Go.Va
namespace T
section
variable {p:Int} {W N V:Nat} {s:ES} {F x:List Int}
theorem DU (hp:pr4 p) (hV:V<=1000) {r o:List Int} (hr:Az p V r) (ho:Az p V o) {c:Int} (hc:0<=c/\c<=p):Bb p r o c=some ((List.range V).map λi=>Int.tmod (r.getD i 0+(p-c)*o.getD i 0) p):=by
 unfold Bb
 have hlr:=hr.1
 have hlo:=ho.1
 have hp0:p≠0:=by unfold pr4 at hp;omega
 have hpb:2<=p/\p<=7:=by unfold pr4 at hp;omega
 have:=BZ r.length (λf q i=>Ax f (p,r,o,c,q,i)) (λj=>(List.range j).map λi=>Int.tmod (r.getD i 0+(p-c)*o.getD i 0) p) (r:=some ((List.range V).map λi=>Int.tmod (r.getD i 0+(p-c)*o.getD i 0) p)) (λf j hj=>?_) (λf=>?_) (n:=Aa) (by unfold Aa;omega)
 ·have this:Ax Aa (p,r,o,c,[],0)=_:=this
  rw[this];rfl
 ·have e:(List.range (j+1)).map (λi=>Int.tmod (r.getD i 0+(p-c)*o.getD i 0) p)=(List.range j).map (λi=>Int.tmod (r.getD i 0+(p-c)*o.getD i 0) p)++ [Int.tmod (r.getD j 0+(p-c)*o.getD j 0) p]:=by rw[List.range_succ,List.map_append];rfl
  have hjo:j<o.length:=by omega
  have h1:=Bs hr (i:=j) (by omega)
  have h2:=Bs ho (i:=j) (by omega)
  have h3:0<=(p-c)*o.getD j 0:=Int.mul_nonneg (by omega) h2.1
  have h4:(p-c)*o.getD j 0<=7*7:=Int.mul_le_mul (by omega) (by omega) h2.1 (by omega)
  simp only[Ax,Ac,hj,hjo,BR,AO (x:=p-c) (by omega) (by omega),AO (x:=(p-c)*o.getD j 0) (by omega) (by omega),AO (x:=r.getD j 0+(p-c)*o.getD j 0) (by omega) (by omega),e,if_true,Ab (show j<4611686018427387904 by omega)]
  rw[if_pos (by simp;omega),if_pos hp0,if_pos (by simp;unfold lim;omega)]
 ·simp only[Ax]
  rw[if_neg (by simp),hlr]
theorem FU (hp:2<=p) (k:Nat):Az p V (CH p V s F x k):=by
 refine⟨Dw,λv hv=>?_⟩
 unfold CH at hv
 obtain⟨u,_,rfl⟩:=List.mem_map.1 hv
 exact⟨Int.emod_nonneg _ (by omega),Int.emod_lt_of_pos _ (by omega)⟩
theorem GenOk.ker (g:GenOk p W N V s F x) {k f u:Nat} (hk:k<F.length) (hf:F[k]=(f:Int)):E8 p s f u=coG p s u (F.getD k 0)%p:=by
 have:=g.pb
 rw[Ad hk,hf]
 unfold E8 coG
 split
 ·by_cases h:u=f
  ·rw[if_pos h,if_pos (by omega),Int.emod_eq_of_lt (by omega) (by omega)]
  ·rw[if_neg h,if_neg (by omega)];rfl
 ·rename_i h
  rw[Int.toNat_natCast]
  obtain⟨f',hf',e,_⟩:=g.fm k hk
  have h3:=Bs (g.row h).2 (show f<W by have:=g.hV;omega)
  rw[Int.tmod_eq_emod_of_nonneg (by omega)]
theorem GenOk.step (g:GenOk p W N V s F x) {k f:Nat} (hk:k<F.length) (hf:F[k]=(f:Int)):Bb p (CH p V s F x k) (C6 p V s f) (p-x.getD k 0)=some (CH p V s F x (k+1)):=by
 have hb:=g.pb
 have hx:=g.xv k hk
 have hko:Az p V (C6 p V s f):=by
  refine⟨by simp[C6],λv hv=>?_⟩
  unfold C6 at hv
  obtain⟨u,_,rfl⟩:=List.mem_map.1 hv
  rw[g.ker hk hf]
  exact⟨Int.emod_nonneg _ (by omega),Int.emod_lt_of_pos _ (by omega)⟩
 rw[DU g.hp (by have:=g.hV;have:=g.hW;omega) (FU hb.1 k) hko (by omega)]
 congr 1
 unfold CH
 refine List.map_congr_left λu hu=>?_
 have hu:=List.mem_range.1 hu
 have e1:(C6 p V s f).getD u 0=E8 p s f u:=by rw[Ad (by simp[C6];exact hu)];simp[C6]
 have e2:=D9 (p:=p) (s:=s) (F:=F) (x:=x) (k:=k) hu
 unfold CH at e2
 rw[e2,e1,g.ker hk hf,show p-(p-x.getD k 0)=x.getD k 0 by omega]
 have h1:=g.bound u k (by omega)
 have h2:=g.co u hk
 have h3:0<=BS p V s F x u k%p:=Int.emod_nonneg _ (by omega)
 have h4:0<=coG p s u (F.getD k 0)%p:=Int.emod_nonneg _ (by omega)
 have h5:0<=x.getD k 0*(coG p s u (F.getD k 0)%p):=Int.mul_nonneg hx.1 h4
 rw[Int.tmod_eq_emod_of_nonneg (by omega)]
 simp only[BS]
 rw[Int.emod_add_emod,Int.add_emod,Int.mul_emod,Int.emod_emod,←Int.mul_emod,←Int.add_emod,Int.mul_comm]
theorem GenOk.zero (g:GenOk p W N V s F x):CH p V s F x 0=Dm V s:=by
 unfold CH Dm
 refine List.map_congr_left λu _=>?_
 have:=g.base u
 simp only[BS]
 exact Int.emod_eq_of_lt this.1 this.2
theorem GenOk.L12 (g:GenOk p W N V s F x) (l:Int×Int×(List (List Int))) (hl:l.1=p) (out:List (List Int)) (n:Int) (first:List Int) (some_:Bool) (at_:Int):
  Ak Aa (l,out,n,first,some_,BT p V s,at_,Dm V s,x,0)=some (l,out,n,first,some_,BT p V s,at_,CH p V s F x F.length):=by
 have hb:=g.pb
 have hlen:(BT p V s).length=F.length:=by unfold BT;rw[List.length_map,g.hF]
 have hFV:=g.fl
 have:=BZ F.length (λm o i=>Ak m (l,out,n,first,some_,BT p V s,at_,o,x,i)) (λk=>CH p V s F x k) (r:=some (l,out,n,first,some_,BT p V s,at_,CH p V s F x F.length)) (λm k hk=>?_) (λm=>?_) (n:=Aa) (by have:=g.hV;have:=g.hW;unfold Aa;omega)
 ·rw[g.zero]at this;exact this
 ·obtain⟨f,hf,e,_⟩:=g.fm k hk
  have hkl:k<(BT p V s).length:=by rw[hlen];exact hk
  have hkx:k<x.length:=by rw[g.hx];exact hk
  have hx:=g.xv k hk
  have hkr:(BT p V s).getD k []=C6 p V s f:=by
   unfold BT;rw[←g.hF,Ad (by simpa using hk),List.getElem_map,e,Int.toNat_natCast]
  have hst:=g.step hk e
  simp only[Ak,Ac,hkl,hkx,BR,hkr,hl,AO (x:=p-x.getD k 0) (by omega) (by omega),hst,Option.bind_some,if_true,Ab (show k<4611686018427387904 by have:=g.hV;have:=g.hW;omega)]
  rw[if_pos (by simp[hlen];omega),←hl]
 ·simp only[Ak]
  rw[if_neg (by simp[hlen])]
end
end T
open Go Go.Va
namespace T
section
variable {p:Int} {W N V:Nat} {s:ES} {F x:List Int}
def CJ (p:Int) (V:Nat) (s:ES) (F x:List Int) (k:Nat) (u:Nat):Int:=if AS s.2.1 u<0 then BS p V s F x u k else 0
theorem GenOk.fre (g:GenOk p W N V s F x) {k f:Nat} (hk:k<F.length) (hf:F[k]=(f:Int)):((List.range V).map (CJ p V s F x k)).set f (x.getD k 0)=(List.range V).map (CJ p V s F x (k+1)):=by
 obtain⟨f',hf',e,hn⟩:=g.fm k hk
 have:f'=f:=by omega
 subst this
 apply List.ext_getElem
 ·simp
 ·intro u h1 h2
  simp at h2
  rw[List.getElem_set]
  simp only[List.getElem_map,List.getElem_range]
  by_cases c:f'=u
  ·subst c
   rw[if_pos rfl]
   unfold CJ
   rw[if_pos (Ca.2 hn),g.free hk hf (k+1) (by omega),if_pos (by omega)]
  ·rw[if_neg c]
   unfold CJ
   split
   ·rename_i hq
    simp only[BS,coG]
    rw[if_pos hq,Ad hk,hf,if_neg (by omega)];omega
   ·rfl
theorem GenOk.sol (g:GenOk p W N V s F x):AY (B1 p V s) x=some (CH p V s F x F.length):=by
 have hp0:p≠0:=by have:=g.pb;omega
 have hpb:=g.pb
 have hV:=g.hV
 have hN:=g.hN
 have hW:=g.hW
 have hFl:=g.fl
 have hsb:=g.hs.bl
 have hsn:=g.hs.n
 generalize hE:B1 p V s=E
 have h1:E.1=true:=by rw[←hE];rfl
 have h2:E.2.1=p:=by rw[←hE];rfl
 have h3:E.2.2.1=(V:Int):=by rw[←hE];rfl
 have h4:E.2.2.2.1=s.1++s.2.2:=by rw[←hE];rfl
 have h5:E.2.2.2.2.2=BF V s.2.1:=by rw[←hE];rfl
 have hfr:Ai E=some F:=by rw[←hE,g.hF];exact Cd (by omega)
 have l4:=BZ F.length (λf (o:List Int) i=>Aj f ((),E,x,o,F,(F.length:Int),i)) (λk=>(List.range V).map (CJ p V s F x k)) (r:=some (E,x,(List.range V).map (CJ p V s F x F.length),F)) (λf k hk=>by
  obtain⟨u,hu,e,_⟩:=g.fm k hk
  have hkx:k<x.length:=by rw[g.hx];exact hk
  have hu2:u<((List.range V).map (CJ p V s F x k)).length:=by simpa using hu
  simp only[Aj,Ac,hk,Ay hk,e,hkx,hu2,BR,AT,g.fre hk e,if_true,Ab (show k<4611686018427387904 by omega)]
  rw[if_pos (by simp;omega)]) (λf=>by
  simp only[Aj]
  rw[if_neg (by simp)]) (n:=Aa) (by unfold Aa;omega)
 have e0:(List.range V).map (CJ p V s F x 0)=List.replicate V (0:Int):=by
  apply List.ext_getElem
  ·simp
  ·intro u _ _
   simp only[List.getElem_map,List.getElem_range,List.getElem_replicate,CJ,BS,DH]
   split<;>rfl
 rw[e0]at l4
 have l14: ∀(out:List Int) (v:Nat),¬AS s.2.1 v<0-> ∀i:Nat,AS s.2.1 v=(i:Int)->Ah Aa ((),E,x,out,F,(v:Int),(i:Int),DH V s v,BF V s.2.1,(V:Int),(v:Int),(F.length:Int),0)=some (E,x,out,F,(v:Int),BS p V s F x v F.length,BF V s.2.1,(V:Int),(v:Int)):=by
  intro out v hq i hi
  have hrow:=g.row hq
  rw[hi,Int.toNat_natCast]at hrow
  refine BZ F.length (λf (y:Int) j=>Ah f ((),E,x,out,F,(v:Int),(i:Int),y,BF V s.2.1,(V:Int),(v:Int),(F.length:Int),j)) (λk=>BS p V s F x v k) (r:=some (E,x,out,F,(v:Int),BS p V s F x v F.length,BF V s.2.1,(V:Int),(v:Int))) (λf k hk=>?_) (λf=>?_) (n:=Aa) (by unfold Aa;omega)
  ·obtain⟨u,hu,e,_⟩:=g.fm k hk
   have hkx:k<x.length:=by rw[g.hx];exact hk
   have hil:i<(s.1++s.2.2).length:=by rw[List.length_append];omega
   have hr1:=hrow.1
   have hg:(s.1++s.2.2).getD i []=s.1.getD i []:=by rw[Ad hil,List.getElem_append_left hr1,Ad hr1]
   have hul:u<(s.1.getD i []).length:=by rw[hrow.2.1];omega
   have hro:=Bs hrow.2 (show u<W by omega)
   have hc:coG p s v (F.getD k 0)=p-(s.1.getD i []).getD u 0:=by unfold coG;rw[if_neg hq,hi,Int.toNat_natCast,Ad hk,e,Int.toNat_natCast]
   have hb:=g.bound v (k+1) (by omega)
   have hb0:=g.bound v k (by omega)
   have hx:=g.xv k hk
   have hxg:gd x (k:Int) 0=x.getD k 0:=BR
   have h7:0<=(p-(s.1.getD i []).getD u 0)*x.getD k 0:=Int.mul_nonneg (by omega) hx.1
   simp only[BS,hc]at hb
   simp only[Ah,Ac,hk,Ay hk,e,h1,h2,h4,hil,hg,hul,hkx,BR,if_true,Ab (show k<4611686018427387904 by omega),AO (x:=p-(s.1.getD i []).getD u 0) (by omega) (by omega),AO (x:=(p-(s.1.getD i []).getD u 0)*x.getD k 0) (by omega) (by omega),AO (x:=BS p V s F x v k+(p-(s.1.getD i []).getD u 0)*x.getD k 0) (by omega) (by omega)]
   rw[if_pos (by simp;omega)]
   simp only[BS,hc]
  ·simp only[Ah]
   rw[if_neg (by simp)]
 have l9:=BZ V (λf (o:List Int) i=>Af f (E,x,o,F,BF V s.2.1,(V:Int),i)) (λv=>mix (λu=>BS p V s F x u F.length%p) (CJ p V s F x F.length) V v) (r:=some (CH p V s F x F.length)) (λf v hv=>?_) (λf=>?_) (n:=Aa) (by unfold Aa;omega)
 ·have e1:mix (λu=>BS p V s F x u F.length%p) (CJ p V s F x F.length) V 0=(List.range V).map (CJ p V s F x F.length):=by
   unfold mix;simp
  rw[e1]at l9
  have l9:Af Aa (E,x,(List.range V).map (CJ p V s F x F.length),F,BF V s.2.1,(V:Int),0)=_:=l9
  have l4:Aj Aa ((),E,x,List.replicate V (0:Int),F,(F.length:Int),0)=_:=l4
  unfold AY
  rw[if_pos h1,h3,if_pos (by unfold lim;omega),hfr]
  simp only[Option.bind_some,Int.toNat_natCast,l4]
  rw[if_pos h1,h5,B5,l9];rfl
 ·have hvl:v<(BF V s.2.1).length:=by rw[B5];exact hv
  simp only[Af,Ac,hvl,BR,Eb hv,h1,h3,h4,if_true]
  rw[if_pos (by simp;omega)]
  by_cases hq:AS s.2.1 v<0
  ·have hsm:BS p V s F x v F.length%p=CJ p V s F x F.length v:=by
    unfold CJ
    rw[if_pos hq]
    have hm:(v:Int)∈F:=by
     rw[g.hF];unfold AA
     exact List.mem_map.2 ⟨v,List.mem_filter.2 ⟨List.mem_range.2 hv,by simpa using Ca.1 hq⟩,rfl⟩
    obtain⟨j,hj,hjv⟩:=List.mem_iff_getElem.1 hm
    rw[g.free hj hjv F.length (Nat.le_refl _),if_pos hj]
    have:=g.xv j hj
    exact Int.emod_eq_of_lt this.1 this.2
   rw[if_pos (by rw[decide_eq_true_iff];exact hq),Ei hv hsm,Ab (show v<4611686018427387904 by omega)]
  ·obtain⟨i,hi⟩: ∃i:Nat,AS s.2.1 v=(i:Int):=⟨(AS s.2.1 v).toNat,by omega⟩
   have hrow:=g.row hq
   rw[hi,Int.toNat_natCast]at hrow
   have hil:i<(s.1++s.2.2).length:=by rw[List.length_append];omega
   have hr1:=hrow.1
   have hg:(s.1++s.2.2).getD i []=s.1.getD i []:=by rw[Ad hil,List.getElem_append_left hr1,Ad hr1]
   have hVl:V<(s.1.getD i []).length:=by rw[hrow.2.1];exact hV
   have hml:v<(mix (λu=>BS p V s F x u F.length%p) (CJ p V s F x F.length) V v).length:=by rw[BX];exact hv
   have hsv:DH V s v=(s.1.getD i []).getD V 0:=by unfold DH;rw[if_neg hq,hi,Int.toNat_natCast]
   have hst:=CX (nw:=λu=>BS p V s F x u F.length%p) (old:=CJ p V s F x F.length) hv
   have hl:=l14 (mix (λu=>BS p V s F x u F.length%p) (CJ p V s F x F.length) V v) v hq i hi
   rw[hsv]at hl
   have hb:=g.bound v F.length (Nat.le_refl _)
   rw[hi,if_neg (by simp)]
   simp only[Ac,hil,hg,BR,hVl,if_true,B5]
   rw[hl]
   simp only[Option.bind_some,h1,h2,Ac,hml,if_true,AT,Ab (show v<4611686018427387904 by omega)]
   rw[if_pos hp0,Int.tmod_eq_emod_of_nonneg hb.1,hst]
 ·simp only[Af,Cv]
  rw[if_neg (by simp)];rfl
end
end T
open Go Go.Va
namespace T
section
variable {a:Lin} {p:Int} {W N V:Nat} {s:ES} {F:List Int}
theorem EY {b:Nat} (hb:0<b): ∀ {k i j:Nat},i<b^k->j<b^k->dg b k i=dg b k j->i=j
 |0,i,j,hi,hj,_=>by simp at hi hj;omega
 |k+1,i,j,hi,hj,h=>by
  simp only[dg]at h
  have h1:=List.append_inj' h rfl
  have h2:i%b=j%b:=by simpa using h1.2
  have hi':i/b<b^k:=Nat.div_lt_of_lt_mul (by rw[Nat.mul_comm,←Nat.pow_succ];exact hi)
  have hj':j/b<b^k:=Nat.div_lt_of_lt_mul (by rw[Nat.mul_comm,←Nat.pow_succ];exact hj)
  have h3:=EY hb hi' hj' h1.1
  have e1:=Nat.div_add_mod i b
  have e2:=Nat.div_add_mod j b
  rw[h3,h2]at e1
  omega
def Cp (p:Int) (V:Nat) (s:ES) (F:List Int) (i:Nat):List Int:=CH p V s F (cI (dg p.toNat F.length i)) F.length
theorem D3 (hp:pr4 p) (hs:ESok p W N V s) (hV:V<W) (hW:W<=1000) (hN:N<=100000) (hF:F=AA V s.2.1) (i:Nat):GenOk p W N V s F (cI (dg p.toNat F.length i)):=by
 have hpb:2<=p/\p<=7:=by unfold pr4 at hp;omega
 refine⟨hp,hs,hV,hW,hN,hF,by rw[Di,Dy],λv hv=>?_⟩
 unfold cI at hv
 obtain⟨y,hy,rfl⟩:=List.mem_map.1 hv
 have:=FH (b:=p.toNat) (by omega) y hy
 omega
theorem EE (hp:pr4 p) (hs:ESok p W N V s) (hV:V<W) (hW:W<=1000) (hN:N<=100000) (hF:F=AA V s.2.1) {i j:Nat} (hi:i<p.toNat^F.length) (hj:j<p.toNat^F.length) (h:Cp p V s F i=Cp p V s F j):i=j:=by
 have hpb:2<=p/\p<=7:=by unfold pr4 at hp;omega
 have g1:=D3 hp hs hV hW hN hF i
 have g2:=D3 hp hs hV hW hN hF j
 refine EY (b:=p.toNat) (by omega) hi hj (FM ?_)
 apply List.ext_getElem
 ·rw[Di,Di,Dy,Dy]
 ·intro k h1 h2
  have hk:k<F.length:=by rw[Di,Dy]at h1;exact h1
  obtain⟨u,hu,e,_⟩:=g1.fm k hk
  have q:(Cp p V s F i).getD u 0=(Cp p V s F j).getD u 0:=by rw[h]
  unfold Cp at q
  rw[D9 hu,D9 hu,g1.free hk e F.length (Nat.le_refl _),g2.free hk e F.length (Nat.le_refl _),if_pos hk,if_pos hk]at q
  have x1:=g1.xv k hk
  have x2:=g2.xv k hk
  rw[Int.emod_eq_of_lt x1.1 x1.2,Int.emod_eq_of_lt x2.1 x2.2,Ad h1,Ad h2]at q
  exact q
theorem EF (h:DO a):AU a=some (if CL a then(if CZ a.2.1.toNat (As a.1 a.2.2 a.2.1.toNat)then 0 else a.1^(AA a.2.1.toNat (As a.1 a.2.2 a.2.1.toNat).2.1).length,true)else(0,false)):=by
 obtain⟨p,v,rows⟩:=a
 unfold AU
 rw[Cu h]
 cases hg:CL (p,v,rows)with
 |false=>rfl
 |true=>
  obtain⟨hp,V,hv,hV,hN,hr⟩:=Ex hg
  dsimp only at hp hv hN hr
  subst hv
  have hs:=B6 hp hr V (by omega)
  unfold AI
  have e1:=Dj hp (show V<=V+1 by omega) (by omega) hr (by omega)
  simp only[e1,Option.bind_some,Bool.not_true,Bool.false_eq_true,if_false,if_true,Int.toNat_natCast]
  generalize As p rows V=s at hs
  have e4:=Ee hs (by omega) (by omega)
  have e6:=Cd (p:=p) (V:=V) (s:=s) (by omega)
  have hpb:2<=p/\p<=7:=by unfold pr4 at hp;omega
  have hfl:(AA V s.2.1).length<=V:=B0
  simp only[e4,Option.bind_some]
  cases CZ V s with
  |true=>rfl
  |false=>
   simp only[Bool.false_eq_true,if_false,e6,Option.bind_some,C1 (show 0<=p by omega) (show p<=8 by omega) (show(AA V s.2.1).length<=20 by omega)]
end
end T
open Go Go.Va
namespace T
section
variable {a:Lin} {p:Int} {W N V:Nat} {s:ES} {F:List Int}
theorem C7 (l:List (List Int)):(Zn cmpL l).Perm l:=List.mergeSort_perm l _
theorem Ev {l:List (List Int)} (hn:l.Nodup):CK (Zn cmpL l)=true:=by
 rw[Dk]
 have hs:(Zn cmpL l).Pairwise λx y=>(!decide (cmpL y x<0))=true:=by
  unfold Zn
  refine List.pairwise_mergeSort (λa b c h1 h2=>?_) (λa b=>?_) l
  ·simp only[Bool.not_eq_true',decide_eq_false_iff_not]at*
   intro h3
   have q1:=cmpL_symm a b
   have q2:=cmpL_symm b c
   by_cases e:cmpL a b=0
   ·rw[cmpL_eq.1 e]at h3;exact h2 h3
   ·exact h2 (cmpL_trans h3 (by omega))
  ·simp only[Bool.or_eq_true,Bool.not_eq_true',decide_eq_false_iff_not]
   have q1:=cmpL_symm a b
   omega
 have hn':(Zn cmpL l).Nodup:=(C7 l).nodup_iff.2 hn
 refine(hs.and hn').imp ?_
 intro x y h
 obtain⟨h1,h2⟩:=h
 simp only[Bool.not_eq_true',decide_eq_false_iff_not]at h1
 have q1:=cmpL_symm x y
 have q2:cmpL x y≠0:=λe=>h2 (cmpL_eq.1 e)
 omega
theorem Fh {l:List (List Int)} {t:List Int} {k:Nat} (hl:l.length<=1000000) (hk:k<=1000000) (hv: ∀u∈l,u.length=k) (ht:t.length=k) (hn:l.Nodup) (hm:t∉l):Cc (Zn cmpL l) t=some (Zn cmpL (l++ [t])):=by
 have hp:=C7 l
 obtain⟨out,e,h1,_,h3⟩:=DT (list:=Zn cmpL l) (t:=t) (k:=k) (by rw[hp.length_eq];exact hl) hk (λu hu=>hv u (hp.mem_iff.1 hu)) ht (Ev hn)
 rw[e]
 have h4:=h3 (λh=>hm (hp.mem_iff.1 h))
 rw[Fj h1 (h4.trans ((List.Perm.cons t hp).trans (List.perm_append_comm (l₁:= [t]))))]
theorem D8 (i:Nat):(Cp p V s F i).length=V:=Dw
theorem DX (hp:pr4 p) (hs:ESok p W N V s) (hV:V<W) (hW:W<=1000) (hN:N<=100000) (hF:F=AA V s.2.1) (l:Lin) (hl:l.1=p) {M:Nat} (hM:M<=600):
  Am Aa (l,(M:Int),B1 p V s,(F.length:Int),[],0)=some ((List.range M).map (Cp p V s F)):=by
 have hpb:2<=p/\p<=7:=by unfold pr4 at hp;omega
 have hFV:F.length<=V:=by rw[hF];exact B0
 have:=BZ M (λm o i=>Am m (l,(M:Int),B1 p V s,(F.length:Int),o,i)) (λk=>(List.range k).map (Cp p V s F)) (r:=some ((List.range M).map (Cp p V s F))) (λm k hk=>?_) (λm=>?_) (n:=Aa) (by unfold Aa;omega)
 ·exact this
 ·have g:=D3 hp hs hV hW hN hF k
  have h1:=DB (b:=p.toNat) (k:=F.length) (i:=k) (by omega) (by omega) (by omega)
  rw[show((p.toNat:Nat):Int)=p by omega]at h1
  simp only[Am,hl,h1,g.sol,Option.bind_some,List.range_succ,List.map_append,List.map_cons,List.map_nil,Ab (show k<4611686018427387904 by omega)]
  rw[if_pos (by simp;omega),if_pos (by simp;unfold lim;omega),←hl]
  rfl
 ·simp only[Am]
  rw[if_neg (by simp)]
theorem EQ (hp:pr4 p) (hs:ESok p W N V s) (hV:V<W) (hW:W<=1000) (hN:N<=100000) (hF:F=AA V s.2.1) (l:Lin) (hl:l.1=p) {M:Nat} (hM:M<=600) (hMp:M=p.toNat^F.length):
  Ag Aa (l,[],(M:Int),Dm V s,true,BT p V s,0)=some (Zn cmpL ((List.range M).map (Cp p V s F))):=by
 have hpb:2<=p/\p<=7:=by unfold pr4 at hp;omega
 have hFV:F.length<=V:=by rw[hF];exact B0
 have hkl:(BT p V s).length=F.length:=by unfold BT;rw[List.length_map,hF]
 have hnd: ∀k,k<=M->((List.range k).map (Cp p V s F)).Nodup:=λk hk=>by
  rw[List.nodup_iff_pairwise_ne,List.pairwise_map]
  refine(List.nodup_range (n:=k)).imp_of_mem ?_
  intro i j hi hj hij e
  have hi:=List.mem_range.1 hi
  have hj:=List.mem_range.1 hj
  exact hij (EE hp hs hV hW hN hF (by omega) (by omega) e)
 have:=BZ M (λm o i=>Ag m (l,o,(M:Int),Dm V s,true,BT p V s,i)) (λk=>Zn cmpL ((List.range k).map (Cp p V s F))) (r:=some (Zn cmpL ((List.range M).map (Cp p V s F)))) (λm k hk=>?_) (λm=>?_) (n:=Aa) (by unfold Aa;omega)
 ·have e0:Zn cmpL ((List.range 0).map (Cp p V s F))= []:=by simp[Zn]
  rw[e0]at this
  exact this
 ·have g:=D3 hp hs hV hW hN hF k
  have h1:=DJ (b:=p.toNat) (k:=F.length) (i:=k) (by omega) (by omega) (by omega)
  rw[show((p.toNat:Nat):Int)=p by omega]at h1
  have h2:=C2 (l:=Dm V s) (by simp[Dm];omega)
  have h3:=g.L12 l hl (Zn cmpL ((List.range k).map (Cp p V s F))) (M:Int) (Dm V s) true (k:Int)
  have h3':Ak Aa ((l.1,(l.2.1,l.2.2)),Zn cmpL ((List.range k).map (Cp p V s F)),(M:Int),Dm V s,true,BT p V s,(k:Int),Dm V s,cI (dg p.toNat F.length k),0)=_:=h3
  have h4:Cc (Zn cmpL ((List.range k).map (Cp p V s F))) (CH p V s F (cI (dg p.toNat F.length k)) F.length)=some (Zn cmpL ((List.range (k+1)).map (Cp p V s F))):=by
   rw[List.range_succ,List.map_append]
   refine Fh (k:=V) (by simp;omega) (by omega) (λu hu=>?_) Dw (hnd k (by omega)) (λh=>?_)
   ·obtain⟨i,_,rfl⟩:=List.mem_map.1 hu;exact D8 i
   ·obtain⟨i,hi,e⟩:=List.mem_map.1 h
    have hi:=List.mem_range.1 hi
    have:=EE (i:=i) (j:=k) hp hs hV hW hN hF (by omega) (by omega) e
    omega
  simp only[Ag,if_true,h2,hkl,hl,h1,Option.bind_some]
  rw[if_pos (by simp;omega)]
  rw[hl]at h3'
  rw[h3']
  simp only[Option.bind_some,h4,Ab (show k<4611686018427387904 by omega)]
 ·simp only[Ag]
  rw[if_neg (by simp)]
end
end T
open Go Go.Va
namespace T
section
variable {a:Lin}
theorem C3 (h:DO a): ∃R:List (List Int)×Bool,AH a=some R/\Ba a=some R/\R.1.length<=600/\ ∀r∈R.1,r.length<=16:=by
 obtain⟨R,c1,c2⟩:=Dx h
 have cv:=EF h
 rw[cv]at c1
 obtain rfl:=Option.some.inj c1
 obtain⟨p,v,rows⟩:=a
 have cv:AU (p,(v,rows))=_:=cv
 have c2:BE (p,(v,rows))=_:=c2
 unfold AH Ba
 dsimp only
 rw[cv,c2]
 simp only[Option.bind_some]
 cases hg:CL (p,v,rows)with
 |false=>exact⟨_,rfl,rfl,by simp,by simp⟩
 |true=>
  obtain⟨hp,V,hv,hV,hN,hr⟩:=Ex hg
  dsimp only at hp hv hN hr
  subst hv
  have hs:=B6 hp hr V (by omega)
  have hpb:2<=p/\p<=7:=by unfold pr4 at hp;omega
  have e1:=Dj hp (show V<=V+1 by omega) (by omega) hr (by omega)
  have e2:=BP hp (show V<=V+1 by omega) (by omega) hr (by omega)
  have e3:=Fi hp (V:=V) (W:=V+1) (by omega) (by omega) hr (by omega)
  unfold AI CE
  simp only[e1,e2,e3,Option.bind_some,Bool.not_true,Bool.false_eq_true,if_false,if_true,Int.toNat_natCast]
  generalize As p rows V=s at hs
  obtain⟨F,hF⟩: ∃F,F=AA V s.2.1:=⟨_,rfl⟩
  have e6:Ai (B1 p V s)=some F:=by rw[hF];exact Cd (by omega)
  have e7:=Em hp hs (by omega) (by omega) (by omega)
  have e7:BQ (s.1,(s.2.1,s.2.2)) p (V:Int)=_:=e7
  have hFV:F.length<=V:=by rw[hF];exact B0
  rw[←hF]
  have hlim:lim=1099511627776:=rfl
  cases CZ V s with
  |true=>
   have i1:=DX (M:=0) hp hs (show V<V+1 by omega) (by omega) (by omega) hF (p,((V:Int),rows)) rfl (by omega)
   have i1:Am Aa ((p,((V:Int),rows)),(0:Int),B1 p V s,(F.length:Int),[],0)=some []:=i1
   have i2:Ag Aa ((p,((V:Int),rows)),[],(0:Int),[],false,BT p V s,0)=some []:=by
    have:=BZ 0 (λm (_:Unit) i=>Ag m ((p,((V:Int),rows)),[],(0:Int),[],false,BT p V s,i)) (λ_=>()) (r:=some []) (λm k hk=>by omega) (λm=>by simp only[Ag];rw[if_neg (by simp)]) (n:=Aa) (by unfold Aa;omega)
    exact this
   have i3:Al [] ()=some []:=by
    unfold Al
    rw[if_pos (by simp)];simp[Zn]
   simp only[if_true]
   rw[if_neg (by simp),if_neg (by simp)]
   simp only[e6,e7,i1,i2,i3,Option.bind_some]
   exact⟨_,rfl,rfl,by simp,by simp⟩
  |false=>
   simp only[Bool.false_eq_true,if_false]
   obtain⟨M,hM⟩: ∃M:Nat,M=p.toNat^F.length:=⟨_,rfl⟩
   have hMp:p^F.length=(M:Int):=by rw[hM,Int.natCast_pow];congr 1;omega
   rw[hMp]
   by_cases hbig:(M:Int)>600
   ·rw[if_pos (by simpa using hbig),if_pos (by simpa using hbig)]
    exact⟨_,rfl,rfl,by simp,by simp⟩
   ·rw[if_neg (by simpa using hbig),if_neg (by simpa using hbig)]
    have i1:=DX (M:=M) hp hs (show V<V+1 by omega) (by omega) (by omega) hF (p,((V:Int),rows)) rfl (by omega)
    have i2:=EQ (M:=M) hp hs (show V<V+1 by omega) (by omega) (by omega) hF (p,((V:Int),rows)) rfl (by omega) hM
    have i3:Al ((List.range M).map (Cp p V s F)) ()=some (Zn cmpL ((List.range M).map (Cp p V s F))):=by
     unfold Al
     rw[if_pos]
     refine⟨by simp;omega,?_⟩
     rw[List.all_eq_true]
     intro r hr
     obtain⟨i,_,rfl⟩:=List.mem_map.1 hr
     rw[decide_eq_true_iff,D8];omega
    simp only[e6,e7,i1,i2,i3,Option.bind_some]
    have hp':=C7 ((List.range M).map (Cp p V s F))
    refine⟨_,rfl,rfl,by rw[hp'.length_eq];simp;omega,λr hr=>?_⟩
    obtain⟨i,_,rfl⟩:=List.mem_map.1 (hp'.mem_iff.1 hr)
    rw[D8];omega
theorem FnExactLinearSolutions_law (h:wfT (.pair .int (.pair .int (.slice (.slice .int)))) a):Bu a=some true:=by
 unfold Bu
 rw[Eo (a:=(a.1,(a.2.1,a.2.2))) h.2.2.1 λr hr=>(h.2.2.2 r hr).1]
 simp only[Option.bind_some]
 by_cases hz:szR (Dh a.2.2) 1048576<0
 ·rw[if_pos (by simpa using hz)]
 ·have hs:=DM hz
  rw[if_neg (by simpa using hz)]
  obtain⟨R,e1,e2,hR1,hR2⟩:=C3 hs
  have e1:AH (a.1,(a.2.1,a.2.2))=_:=e1
  have e2:Ba (a.1,(a.2.1,a.2.2))=_:=e2
  obtain⟨b,k',hm,hk0⟩:=DP hs (FT hz)
  have hm:BH (a.1,(a.2.1,a.2.2)) 1=_:=hm
  have hR3: ∀r∈R.1,r.length<=1048576:=λr hr=>by have:=hR2 r hr;omega
  have hsum:=En hR2
  have e3:=DD R.1 1
  have e4: ¬(Cn R.1 1).2<0:=by omega
  simp only[Ep hs,e1,e2,Ed hs,hm,Option.bind_some,Dz (a:=R.1) (b:=R.1) (by omega) (λr hr=>by have:=hR2 r hr;omega),Dc (l:=R.1) (k:=1) (by omega) hR3 (by omega) (by unfold BM;omega),D4 (l:=R.1) (k:=1) (by omega) hR3 (by omega) (by unfold BM;omega)]
  simp[e4,show¬k'<0 by omega]
end
end T
open Go Go.Va
namespace T
section
variable {a:Nat} {ts:List (List Int)} {c:List Int} {q:Int}
def FZ (ts:List (List Int)) (c:List Int):Bool:=ts.all λt=>c.any (Gf t)
def wo (c:List Int) (k:Nat):List Int:=c.take k++c.drop (k+1)
def pk (ts:List (List Int)) (c:List Int) (k:Nat):Bool:=FZ ts c&&(List.range k).all λi=>!FZ ts (wo c i)
end
end T
open Go Go.Va
namespace T
section
variable {a:Nat} {ts:List (List Int)} {c:List Int} {q:Int}
def FQ (T ts:List (List Int)):List (List Int):=T.filter λc=>pk ts c c.length
end
end T
open Go Go.Va
namespace T
section
variable {n:Int} {k:Nat} {ts:List (List Int)}
def FB (ts:List (List Int)) (i j:Nat):List Int:=(ts.getD j []).take i
def FE (ts:List (List Int)) (i j:Nat):Int:=(ts.getD j []).getD i 0
end
end T
open Go Go.Va
namespace T
section
variable {n:Int} {k:Nat} {ts:List (List Int)}
def FG (ts:List (List Int)) (i:Nat) (x y:Int) (a b:Nat):Bool:=FE ts i a==x&&(FE ts i b==y&&decide (FB ts i a=FB ts i b))
def bO (ts:List (List Int)) (i:Nat) (x y:Int) (a:Nat):Option Nat:=(List.range ts.length).find? (FG ts i x y a)
def Fe (ts:List (List Int)) (i:Nat) (x y:Int):Option (Nat×Nat):=(List.range ts.length).findSome? λa=>(bO ts i x y a).map λb=>(a,b)
theorem Ey {i:Nat} {x y:Int} {a b:Nat} (h:Fe ts i x y=some (a,b)):a<ts.length/\b<ts.length/\FE ts i a=x/\FE ts i b=y/\FB ts i a=FB ts i b:=by
 unfold Fe at h
 obtain⟨a',ha,h⟩:=List.exists_of_findSome?_eq_some h
 obtain⟨b',hb,h⟩:=Option.map_eq_some_iff.1 h
 obtain⟨rfl,rfl⟩:=Prod.mk.inj h
 have h1:=List.find?_some hb
 have h2:=List.mem_of_find?_eq_some hb
 unfold FG at h1
 simp only[Bool.and_eq_true,beq_iff_eq,decide_eq_true_eq]at h1
 exact⟨List.mem_range.1 ha,List.mem_range.1 h2,h1.1,h1.2.1,h1.2.2⟩
end
end T
open Go Go.Va
namespace T
section
variable {n:Nat} {t:List Int}
def Fs (n:Nat) (t:List Int) (x y:Nat):Nat:=(t.getD (x*n+y) 0).toNat
structure TabOk (n:Nat) (t:List Int):Prop where
 hn:1<=n/\n<=4
 len:t.length=n*n
 val: ∀x∈t,0<=x/\x<(n:Int)
theorem ix2 (hn:n<=4) {x y:Nat} (hx:x<n) (hy:y<n):w64 (w64 ((x:Int)*(n:Int))+(y:Int))=((x*n+y:Nat):Int)/\x*n+y<n*n:=by
 have h1:x*n+y<n*n:=by
  calc x*n+y<x*n+n:=by omega
   _=(x+1)*n:=by rw[Nat.succ_mul]
   _<=n*n:=Nat.mul_le_mul_right _ hx
 have h2:n*n<=4*4:=Nat.mul_le_mul hn hn
 have e:(x:Int)*(n:Int)=((x*n:Nat):Int):=by simp
 have a1:w64 ((x*n:Nat):Int)=((x*n:Nat):Int):=A7 (by omega) (by omega)
 rw[e,a1,A7 (by omega) (by omega)]
 exact⟨by omega,h1⟩
theorem TabOk.at (h:TabOk n t) {x y:Nat} (hx:x<n) (hy:y<n):w64 (w64 ((x:Int)*(n:Int))+(y:Int))=((x*n+y:Nat):Int)/\inb ((x*n+y:Nat):Int) t/\gd t ((x*n+y:Nat):Int) 0=((Fs n t x y:Nat):Int)/\Fs n t x y<n:=by
 obtain⟨h1,h2⟩:=ix2 h.hn.2 hx hy
 have hl:x*n+y<t.length:=by rw[h.len];exact h2
 have hv:=h.val _ (List.getElem_mem hl)
 refine⟨h1,by rw[Ac];exact hl,?_,?_⟩
 ·rw[Ay hl];unfold Fs;rw[Ad hl];omega
 ·unfold Fs;rw[Ad hl];omega
end
end T
open Go Go.Va
namespace T
section
variable {a:Net} {K:Nat} {c:Con} {i p n:Nat} {st:ASt}
def Fo (d:Dom) (V:Nat) (t:List Int):Prop:= ∀u,u<V->d2 d u (t.getD u 0).toNat=true
end
end T
open Go Go.Va
namespace T
section
variable {a:Net} {n s:Nat} {t:T4} {u:T3}
def FY (a:Net) (i j k x y z:Nat):Prop:= ∀c∈a.2.2,(∀v∈c.1,v=(i:Int)∨v=(j:Int)∨v=(k:Int))-> ∀vs:List Int,FD vs (i:Int)=(x:Int)->FD vs (j:Int)=(y:Int)->FD vs (k:Int)=(z:Int)->F4 vs c=true
structure Fam (a:Net) (n s:Nat) (S:Nat->Nat->Nat->Nat->Prop):Prop where
 sym: ∀i j x y,S i j x y->S j i y x
 first: ∀i j x y,i<j->j<n->x<s->y<s->S i j x y->fB a n i j x y=true
 path: ∀i j k x y,i<n->j<n->k<n->i≠j->k≠i->k≠j->x<s->y<s->S i j x y-> ∃z,z<s/\S i k x z/\S j k y z/\FY a i j k x y z
structure MinP (a:Net) (n s:Nat) (t:T4) (u:T3):Prop where
 rel:Rel34 n s t u
 sym: ∀i j x y,i<n->j<n->i≠j->x<s->y<s->r4 t i j x y=r4 t j i y x
 first: ∀i j x y,i<n->j<n->i≠j->x<s->y<s->r4 t i j x y=true->fB a n i j x y=true
 path: ∀i j k x y,i<n->j<n->k<n->i≠j->k≠i->k≠j->x<s->y<s->r4 t i j x y=true-> ∃z,z<s/\r4 t i k x z=true/\r4 t j k y z=true/\FY a i j k x y z
 all: ∀S,Fam a n s S-> ∀i j x y,i<n->j<n->i≠j->x<s->y<s->S i j x y->r4 t i j x y=true
end
end T
open Go Go.Va
namespace T
section
variable {a:Net} {n s:Nat} {t:T4} {u:T3} {F:Nat->Nat->Nat->Nat}
theorem De (hM:MinP a n s t u) {w w' v x y:Nat} (hw:w<n) (hw':w'<n) (hv:v<n) (h1:w≠w') (h2:w≠v) (h3:w'≠v) (hx:x<s) (hy:y<s) (h:r4 t w' v y x=true): ∃z,z<s/\r4 t w v z x=true:=by
 obtain⟨z,hz,_,q,_⟩:=hM.path w' v w y x hw' hv hw h3 h1 h2 hy hx h
 exact⟨z,hz,by rw[hM.sym w v z x hw hv h2 hz hx];exact q⟩
theorem Gb (p q:Nat): ∃w,w<3/\w≠p/\w≠q:=by
 by_cases h0:0≠p/\0≠q
 ·exact⟨0,by omega,h0.1,h0.2⟩
 ·by_cases h1:1≠p/\1≠q
  ·exact⟨1,by omega,h1.1,h1.2⟩
  ·exact⟨2,by omega,by omega,by omega⟩
end
end T
open Go Go.Va
namespace T
section
variable {n:Int} {k:Nat} {ts W:List (List Int)}
def WitOf (ts:List (List Int)) (k:Nat) (W:List (List Int)):Prop:= ∀w,w∈W↔ ∃(i:Nat) (x y:Int) (p q:Nat),i<k/\Fe ts i x y=some (p,q)/\(w=ts.getD p []∨w=ts.getD q [])
theorem WitOf.sub (h:WitOf ts k W) {w:List Int} (hw:w∈W):w∈ts:=by
 obtain⟨i,x,y,p,q,_,h2,h3⟩:=(h w).1 hw
 obtain⟨g1,g2,_⟩:=Ey h2
 rcases h3 with rfl|rfl
 ·exact Ef g1
 ·exact Ef g2
theorem WitOf.set {N:Int} {kk:Int} (h:WitOf ts kk.toNat W) (hs:FR N kk ts=true) (hi:CK W=true):FR N kk W=true:=by
 unfold FR at hs⊢
 simp only[Bool.and_eq_true,List.all_eq_true]at hs⊢
 exact⟨⟨hs.1.1,λw hw=>hs.1.2 w (h.sub hw)⟩,hi⟩
end
end T
