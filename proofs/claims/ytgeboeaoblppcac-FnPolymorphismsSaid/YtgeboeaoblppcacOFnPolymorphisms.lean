/- Plain lemmas on the typed functions of the program, the first part; no conditions. -/
import Derived.Test.YtgeboeaoblppcacV1
import Derived.Test.YtgeboeaoblppcacV5
import Derived.KernelRfl
set_option linter.all false
namespace Go.Va
theorem C5 (x:Int):w64 x=(x+9223372036854775808)%18446744073709551616-9223372036854775808:=by
 simp[w64,IntKind.wrap,IntKind.bits,IntKind.signed]
 split<;>omega
theorem Ax {x:Int} (h1: -9223372036854775808<=x) (h2:x<=9223372036854775807):w64 x=x:=by
 rw[C5];omega
theorem Ag {k:Nat} (h:k<4611686018427387904):w64 ((k:Int)+1)=((k+1:Nat):Int):=by
 rw[Ax (by omega) (by omega)];rfl
theorem Ai {α:Type} {k:Nat} {xs:List α}:inb (k:Int) xs↔k<xs.length:=by
 unfold inb;omega
theorem Ap {α:Type} {k:Nat} {xs:List α} {d:α} (h:k<xs.length):gd xs (k:Int) d=xs[k]:=by
 unfold gd;simp[h]
theorem CH {α:Type} {k:Nat} {xs:List α} {x:α}:stt xs (k:Int) x=xs.set k x:=by
 unfold stt;simp
def Hx {α σ β:Type} (step:σ->α->Option (σ⊕β)) (fin:σ->Option β):List α->σ->Option β
 | [],s=>fin s
 |a::l,s=>match step s a with|some (.inl s')=>Hx step fin l s'|some (.inr r)=>some r|none=>none
theorem Ju {α σ β:Type} (xs:List α) (L:Nat->σ->Int->Option β) (step:σ->α->Option (σ⊕β)) (fin:σ->Option β)
  (hs: ∀n s (k:Nat) (hk:k<xs.length),L (n+1) s k=match step s xs[k]with|some (.inl s')=>L n s' ((k+1:Nat):Int)|some (.inr r)=>some r|none=>none)
  (he: ∀n s,L (n+1) s (xs.length:Nat)=fin s): ∀(n k:Nat) (s:σ),k<=xs.length->xs.length-k<n->L n s k=Hx step fin (xs.drop k) s:=by
 intro n
 induction n with
 |zero=>intro k s _ h;omega
 |succ n ih=>
  intro k s hk hn
  rcases Nat.lt_or_ge k xs.length with hlt|hge
  ·rw[hs n s k hlt,List.drop_eq_getElem_cons hlt]
   simp only[Hx]
   cases step s xs[k]with
   |none=>rfl
   |some q=>
    cases q with
    |inl s'=>exact ih (k+1) s' hlt (by omega)
    |inr r=>rfl
  ·have:k=xs.length:=by omega
   subst this
   rw[he,List.drop_length];rfl
theorem I1 {α σ β:Type} (xs:List α) (L:Nat->σ->Int->Option β) (step:σ->α->Option (σ⊕β)) (fin:σ->Option β)
  (hs: ∀n s (k:Nat) (hk:k<xs.length),L (n+1) s k=match step s xs[k]with|some (.inl s')=>L n s' ((k+1:Nat):Int)|some (.inr r)=>some r|none=>none)
  (he: ∀n s,L (n+1) s (xs.length:Nat)=fin s) {n:Nat} (hn:xs.length<n) (s:σ):L n s 0=Hx step fin xs s:=by
 have:=Ju xs L step fin hs he n 0 s (Nat.zero_le _) (by omega)
 simpa using this
theorem GK {α β:Type} {p:α->Bool} {step:Unit->α->Option (Unit⊕β)} {fin:Unit->Option β} {r:β}: ∀ {l:List α},(∀a∈l,step () a=if p a then some (.inl ())else some (.inr r))->Hx step fin l ()=if l.all p then fin ()else some r
 | [],_=>rfl
 |a::l,h=>by
  simp only[Hx]
  rw[h a (by simp)]
  cases hp:p a with
  |true=>simp only[if_true,List.all_cons,hp,Bool.true_and];exact GK λb hb=>h b (List.mem_cons_of_mem _ hb)
  |false=>simp[List.all_cons,hp]
theorem Jo {α β γ:Type} (xs:List α) (L:Nat->List β->Int->Option γ) (g:α->β) (fin:List β->Option γ)
  (hs: ∀n (out:List β) (k:Nat) (hk:k<xs.length),out.length=xs.length->L (n+1) out k=L n (out.set k (g xs[k])) ((k+1:Nat):Int))
  (he: ∀n out,out.length=xs.length->L (n+1) out (xs.length:Nat)=fin out): ∀(n k:Nat) (out:List β),out.length=xs.length->k<=xs.length->xs.length-k<n->L n out k=fin (out.take k++(xs.drop k).map g):=by
 intro n
 induction n with
 |zero=>intro k out _ _ h;omega
 |succ n ih=>
  intro k out hl hk hn
  rcases Nat.lt_or_ge k xs.length with hlt|hge
  ·have:(out.set k (g xs[k])).take (k+1)=out.take k++ [g xs[k]]:=by
    rw[List.take_succ_eq_append_getElem (by simp;omega),List.take_set_of_le (Nat.le_refl _),List.getElem_set_self]
   rw[hs n out k hlt hl,ih (k+1) _ (by simpa using hl) hlt (by omega),List.drop_eq_getElem_cons hlt,this,List.map_cons,List.append_assoc,List.singleton_append]
  ·have:k=xs.length:=by omega
   subst this
   rw[he _ _ hl,List.drop_length,List.take_of_length_le (by omega)];simp
theorem HO {α β γ:Type} (xs:List α) (L:Nat->List β->Int->Option γ) (g:α->β) (fin:List β->Option γ)
  (hs: ∀n (out:List β) (k:Nat) (hk:k<xs.length),out.length=xs.length->L (n+1) out k=L n (out.set k (g xs[k])) ((k+1:Nat):Int))
  (he: ∀n out,out.length=xs.length->L (n+1) out (xs.length:Nat)=fin out) {n:Nat} {out:List β} (hl:out.length=xs.length) (hn:xs.length<n):L n out 0=fin (xs.map g):=by
 have:=Jo xs L g fin hs he n 0 out hl (Nat.zero_le _) (by omega)
 simpa using this
theorem eqX {α:Type} [DecidableEq α] (a b:List α) (hl:a.length=b.length) (L:Nat->Int->Option (Unit⊕Bool))
  (hs: ∀n (k:Nat) (h1:k<a.length) (h2:k<b.length),L (n+1) k=if a[k]=b[k]then L n ((k+1:Nat):Int)else some (.inr false)) (he: ∀n,L (n+1) (a.length:Nat)=some (.inl ())) {n:Nat} (hn:a.length<n):
  L n 0=some (if a=b then .inl ()else .inr false):=by
 have key: ∀(n k:Nat),k<=a.length->a.length-k<n->L n k=some (if a.drop k=b.drop k then .inl ()else .inr false):=by
  intro n
  induction n with
  |zero=>intro k _ h;omega
  |succ n ih=>
   intro k hk hn
   rcases Nat.lt_or_ge k a.length with hlt|hge
   ·have h2:k<b.length:=by omega
    have e:(a.drop k=b.drop k)↔(a[k]=b[k]/\a.drop (k+1)=b.drop (k+1)):=by
     rw[List.drop_eq_getElem_cons hlt,List.drop_eq_getElem_cons h2];exact List.cons_eq_cons
    rw[hs n k hlt h2]
    by_cases h:a[k]=b[k]
    ·rw[if_pos h,ih (k+1) hlt (by omega)]
     by_cases h3:a.drop (k+1)=b.drop (k+1)
     ·rw[if_pos h3,if_pos (e.2 ⟨h,h3⟩)]
     ·rw[if_neg h3,if_neg λh'=>h3 (e.1 h').2]
    ·rw[if_neg h,if_neg λh'=>h (e.1 h').1]
   ·have:k=a.length:=by omega
    subst this
    rw[he,List.drop_length,hl,List.drop_length];rfl
 have:=key n 0 (Nat.zero_le _) (by omega)
 simpa using this
theorem EU {α β:Type} (xs:List α) (L:Nat->Int->Option β) (p:α->Bool) (r e:β)
  (hs: ∀n (k:Nat) (hk:k<xs.length),L (n+1) k=if p xs[k]then L n ((k+1:Nat):Int)else some r) (he: ∀n,L (n+1) (xs.length:Nat)=some e) {n:Nat} (hn:xs.length<n):
  L n 0=some (if xs.all p then e else r):=by
 have:=I1 xs (λn (_:Unit) i=>L n i) (λ_ a=>if p a then some (.inl ())else some (.inr r)) (λ_=>some e) (λn s k hk=>by rw[hs n k hk];cases p xs[k]<;>simp) (λn s=>he n) hn ()
 rw[this,GK (p:=p) (r:=r) λa _=>by cases p a<;>simp]
 cases xs.all p<;>simp
theorem CX {σ β:Type} (N:Nat) (L:Nat->σ->Int->Option β) (S:Nat->σ) {r:Option β}
  (hs: ∀n (k:Nat),k<N->L (n+1) (S k) k=L n (S (k+1)) ((k+1:Nat):Int)) (he: ∀n,L (n+1) (S N) (N:Nat)=r) {n:Nat} (hn:N<n):L n (S 0) 0=r:=by
 have key: ∀(n k:Nat),k<=N->N-k<n->L n (S k) k=r:=by
  intro n
  induction n with
  |zero=>intro k _ h;omega
  |succ n ih=>
   intro k hk hn
   rcases Nat.lt_or_ge k N with hlt|hge
   ·rw[hs n k hlt];exact ih (k+1) hlt (by omega)
   ·have:k=N:=by omega
    subst this;exact he n
 exact key n 0 (Nat.zero_le _) (by omega)
theorem Jp {σ β:Type} (N:Nat) (L:Nat->σ->Int->Option β) (S:Nat->σ) (p:Nat->Bool) {r e:Option β}
  (hs: ∀n (k:Nat),k<N->L (n+1) (S k) k=if p k then L n (S (k+1)) ((k+1:Nat):Int)else r) (he: ∀n,L (n+1) (S N) (N:Nat)=e) {n:Nat} (hn:N<n):
  L n (S 0) 0=if(List.range N).all p then e else r:=by
 have key: ∀(n k:Nat),k<=N->N-k<n->L n (S k) k=if(List.range' k (N-k)).all p then e else r:=by
  intro n
  induction n with
  |zero=>intro k _ h;omega
  |succ n ih=>
   intro k hk hn
   rcases Nat.lt_or_ge k N with hlt|hge
   ·rw[hs n k hlt,show N-k=(N-(k+1))+1 by omega,List.range'_succ,List.all_cons]
    cases hp:p k with
    |false=>simp
    |true=>simp only[if_true,Bool.true_and];exact ih (k+1) hlt (by omega)
   ·have:k=N:=by omega
    subst this;rw[he];simp
 have:=key n 0 (Nat.zero_le _) (by omega)
 rw[List.range_eq_range']
 simpa using this
theorem JE {σ β:Type} (N:Nat) (L:Nat->σ->Int->Option β) (S:Nat->σ) (p:Nat->Bool) {r e:Option β}
  (hs: ∀n (k:Nat),k<N->(∀j,j<k->p j=true)->L (n+1) (S k) k=if p k then L n (S (k+1)) ((k+1:Nat):Int)else r) (he: ∀n,(∀j,j<N->p j=true)->L (n+1) (S N) (N:Nat)=e) {n:Nat} (hn:N<n):
  L n (S 0) 0=if(List.range N).all p then e else r:=by
 have key: ∀(n k:Nat),k<=N->N-k<n->(∀j,j<k->p j=true)->L n (S k) k=if(List.range' k (N-k)).all p then e else r:=by
  intro n
  induction n with
  |zero=>intro k _ h;omega
  |succ n ih=>
   intro k hk hn hb
   rcases Nat.lt_or_ge k N with hlt|hge
   ·rw[hs n k hlt hb,show N-k=(N-(k+1))+1 by omega,List.range'_succ,List.all_cons]
    cases hp:p k with
    |false=>simp
    |true=>
     simp only[if_true,Bool.true_and]
     refine ih (k+1) hlt (by omega) λj hj=>?_
     rcases Nat.lt_or_ge j k with h|h
     ·exact hb j h
     ·have:j=k:=by omega
      rw[this];exact hp
   ·have:k=N:=by omega
    subst this;rw[he n hb];simp
 have:=key n 0 (Nat.zero_le _) (by omega) (λj h=>by omega)
 rw[List.range_eq_range']
 simpa using this
end Go.Va
set_option linter.unusedVariables false
open Go Go.Va
namespace T
def Aa:Nat:=1099511627776
def Cj (x:Int) (a:Int) (b:Int):Option (Bool):=
 if decide (x≥a)then
 some (decide (x<=b))
 else
 some false
def BN:Nat->(Int×(List Int)×Int)->Option ((Unit)⊕(Bool))
 |0,_=>none
 |n+1,(n_,list,i)=>
 if decide (i<(list.length:Int))then
 if inb i list then
 (Cj (gd list i 0) 0 (w64 (n_-1))).bind λr1=>
 if !r1 then
 some (.inr false)
 else
 BN n (n_,list,w64 (i+1))
 else none
 else
 some (.inl ())
def Dg (n_:Int) (list:List Int):Option (Bool):=
 (BN Aa (n_,list,0)).bind λs1=>
  match s1 with
  | .inl s2=>
   some true
  | .inr s3=>
   some s3
def DY (n_:Int) (k:Int) (t:List Int):Option (Bool):=
 if(t.length:Int)==k then
 (Dg n_ t).bind λr1=>
 some r1
 else
 some false
def Cq:Nat->(Int×(List Int)×Int×Int)->Option ((Unit)⊕(Bool))
 |0,_=>none
 |n+1,(n_,t7,t8,t9)=>
 if decide (t9<t8)then
 if inb t9 t7 then
 if decide ((gd t7 t9 0)<0)then
 some (.inr false)
 else
 if decide ((gd t7 t9 0)≥n_)then
 some (.inr false)
 else
 Cq n (n_,t7,t8,w64 (t9+1))
 else none
 else
 some (.inl ())
def Dx (list:List Int) (n_:Int):Option (Bool):=
 (Cq Aa (n_,list,(list.length:Int),0)).bind λs1=>
  match s1 with
  | .inl s2=>
   some true
  | .inr s3=>
   some s3
def Eg (n_:Int):Option (Bool):=
 (Cj n_ 1 8).bind λr1=>
 some r1
def BY:Nat->(Int×Int×Int)->Option (Int)
 |0,_=>none
 |n+1,(n_,k,out)=>
 if decide (k>0)then
 BY n (n_,w64 (k-1),w64 (out*n_))
 else
 some out
def AS (n_:Int) (k:Int):Option (Int):=
 (BY Aa (n_,k,1)).bind λs1=>
 some s1
def Cv:Nat->((List Int)×(List Int)×Int)->Option ((Unit)⊕(Bool))
 |0,_=>none
 |n+1,(a,b,i)=>
 if decide (i<(a.length:Int))then
 if inb i a then
 if inb i b then
 if(gd a i 0) !=(gd b i 0)then
 if inb i a then
 if inb i b then
 some (.inr (decide ((gd a i 0)<(gd b i 0))))
 else none
 else none
 else
 Cv n (a,b,w64 (i+1))
 else none
 else none
 else
 some (.inl ())
def Ee (a:List Int) (b:List Int):Option (Bool):=
 (Cv Aa (a,b,0)).bind λs1=>
  match s1 with
  | .inl s2=>
   some false
  | .inr s3=>
   some s3
def Ct:Nat->((List Int)×(List Int)×Int)->Option ((Unit)⊕(Bool))
 |0,_=>none
 |n+1,(a,b,i)=>
 if decide (i<(a.length:Int))then
 if inb i a then
 if inb i b then
 if(gd a i 0) !=(gd b i 0)then
 some (.inr false)
 else
 Ct n (a,b,w64 (i+1))
 else none
 else none
 else
 some (.inl ())
def Ed (a:List Int) (b:List Int):Option (Bool):=
 if(a.length:Int) !=(b.length:Int)then
  some false
 else
  (Ct Aa (a,b,0)).bind λs1=>
   match s1 with
   | .inl s2=>
    some true
   | .inr s3=>
    some s3
def Ca:Nat->((List (List Int))×(List Int)×Int×Int)->Option ((List (List Int))×(List Int)×Int)
 |0,_=>none
 |n+1,(list,t,from_,to)=>
 if decide (from_<to)then
 if(2:Int)≠0 then
 if inb (w64 (Int.tdiv (w64 (from_+to)) 2)) list then
 (Ee (gd list (w64 (Int.tdiv (w64 (from_+to)) 2)) []) t).bind λr1=>
 if r1 then
 Ca n (list,t,w64 ((w64 (Int.tdiv (w64 (from_+to)) 2))+1),to)
 else
 Ca n (list,t,from_,w64 (Int.tdiv (w64 (from_+to)) 2))
 else none
 else none
 else
 some (list,t,from_)
def Dc (list:List (List Int)) (t:List Int):Option (Int×Bool):=
 (Ca Aa (list,t,0,(list.length:Int))).bind λs1=>
 if decide (s1.2.2<(s1.1.length:Int))then
 if inb s1.2.2 s1.1 then
 (Ed (gd s1.1 s1.2.2 []) s1.2.1).bind λr2=>
 some (s1.2.2,r2)
 else none
 else
 some (s1.2.2,false)
def Ea (n_:Int):Option (Bool):=
 if decide (n_≥1)then
 some (decide (n_<=8))
 else
 some false
def Be:Nat->((List Int)×(List Int)×Int)->Option (((List Int)×(List Int))⊕(Int))
 |0,_=>none
 |n+1,(s,t,i)=>
 if decide (i<(s.length:Int))then
 if decide (i<(t.length:Int))then
 if inb i s then
 if inb i t then
 if(gd s i 0) !=(gd t i 0)then
 if inb i s then
 if inb i t then
 if decide ((gd s i 0)<(gd t i 0))then
 some (.inr (-1))
 else
 some (.inr 1)
 else none
 else none
 else
 Be n (s,t,w64 (i+1))
 else none
 else none
 else
 some (.inl (s,t))
 else
 some (.inl (s,t))
def Dw (s:List Int) (t:List Int):Option (Int):=
 (Be Aa (s,t,0)).bind λs1=>
  match s1 with
  | .inl s2=>
   if decide ((s2.1.length:Int)<(s2.2.length:Int))then
    some (-1)
   else
    if decide ((s2.1.length:Int)>(s2.2.length:Int))then
     some 1
    else
     some 0
  | .inr s3=>
   some s3
def BW:Nat->(Int×Int×Int)->Option (Int)
 |0,_=>none
 |n+1,(n_,k,p)=>
 if decide (k>0)then
 BW n (n_,w64 (k-1),w64 (p*n_))
 else
 some p
def Bd (n_:Int) (k:Int):Option (Int):=
 (BW Aa (n_,k,1)).bind λs1=>
 some s1
end T
open Go Go.Va
namespace T
theorem BB (x a b:Int):Cj x a b=some (decide (a<=x/\x<=b)):=by
 unfold Cj
 by_cases h:a<=x<;>simp[h]
def Bk (n:Int) (l:List Int):Bool:=l.all λx=>decide (0<=x/\x<n)
theorem D9 {l:List Int} (n:Int) (hl:l.length<=1099511627775):Dx l n=some (Bk n l):=by
 unfold Dx
 rw[EU l (λm i=>Cq m (n,l,(l.length:Int),i)) (λx=>decide (0<=x/\x<n)) (.inr false) (.inl ()) ?_ ?_ (by unfold Aa;omega)]
 ·unfold Bk;cases l.all (λx=>decide (0<=x/\x<n))<;>simp
 ·intro m k hk
  simp only[Cq,Ai,Ap hk,Ag (show k<4611686018427387904 by omega)]
  by_cases h1:l[k]<0
  ·simp[hk,h1,show¬0<=l[k] by omega]
  ·by_cases h2:n<=l[k]
   ·simp[hk,h1,h2,show¬l[k]<n by omega]
   ·simp[hk,h1,h2,show 0<=l[k]/\l[k]<n by omega]
 ·intro m
  simp[Cq]
theorem EF {l:List Int} {n:Int} (hn: -9223372036854775808<n) (hn':n<=9223372036854775807) (hl:l.length<=1099511627775):Dg n l=some (Bk n l):=by
 unfold Dg
 rw[EU l (λm i=>BN m (n,l,i)) (λx=>decide (0<=x/\x<n)) (.inr false) (.inl ()) ?_ ?_ (by unfold Aa;omega)]
 ·unfold Bk;cases l.all (λx=>decide (0<=x/\x<n))<;>simp
 ·intro m k hk
  simp only[BN,Ai,Ap hk,Ag (show k<4611686018427387904 by omega),BB,Ax (show-9223372036854775808<=n-1 by omega) (show n-1<=9223372036854775807 by omega)]
  by_cases h1:0<=l[k]/\l[k]<n
  ·simp[hk,h1,show l[k]<=n-1 by omega]
  ·have: ¬(0<=l[k]/\l[k]<=n-1):=by omega
   simp[hk,h1,this]
 ·intro m
  simp[BN]
theorem Fe {l:List Int} {n:Int} (k:Int) (hn: -9223372036854775808<n) (hn':n<=9223372036854775807) (hl:l.length<=1099511627775):DY n k l=some (decide ((l.length:Int)=k)&&Bk n l):=by
 unfold DY
 rw[EF hn hn' hl]
 by_cases h:(l.length:Int)=k<;>simp[h]
end T
open Go Go.Va
namespace T
theorem Fj {n:Int} {l:List Int} (h:Bk n l=true) (k:Nat) (hk:k<l.length):0<=l[k]/\l[k]<n:=by
 have:=(List.all_eq_true.1 h) l[k] (List.getElem_mem hk)
 simpa using this
section
variable {p v:Int} {rows:List (List Int)} {y:List Int}
end
end T
open Go Go.Va
namespace T
def cmpL:List Int->List Int->Int
 | [],[]=>0
 | [],_::_=> -1
 |_::_,[]=>1
 |a::s,b::t=>if a=b then cmpL s t else if a<b then-1 else 1
theorem GS {s t:List Int} (hs:s.length<=1099511627775): ∀(n k:Nat),k<=s.length->k<=t.length->s.length-k<n->
  (Be n (s,t,(k:Int))).bind (λs1=>match s1 with
   | .inl s2=>if decide ((s2.1.length:Int)<(s2.2.length:Int))then some (-1)else if decide ((s2.1.length:Int)>(s2.2.length:Int))then some 1 else some 0
   | .inr s3=>some s3)=some (cmpL (s.drop k) (t.drop k)):=by
 intro n
 induction n with
 |zero=>intro k _ _ h;omega
 |succ n ih=>
  intro k h1 h2 hn
  by_cases k1:k<s.length
  ·by_cases k2:k<t.length
   ·rw[List.drop_eq_getElem_cons k1,List.drop_eq_getElem_cons k2]
    simp only[Be,Ai,Ap k1,Ap k2,Ag (show k<4611686018427387904 by omega),cmpL]
    by_cases he:s[k]=t[k]
    ·have:=ih (k+1) k1 k2 (by omega)
     simp[k1,k2,he]
     simpa using this
    ·by_cases hl:s[k]<t[k]<;>simp[k1,k2,he,hl]
   ·rw[List.drop_eq_getElem_cons k1,List.drop_of_length_le (show t.length<=k by omega)]
    have e:k=t.length:=by omega
    simp only[Be,cmpL]
    simp[k1,k2,show¬s.length<t.length by omega,show t.length<s.length by omega]
  ·rw[List.drop_of_length_le (show s.length<=k by omega)]
   simp only[Be]
   by_cases k2:k<t.length
   ·rw[List.drop_eq_getElem_cons k2]
    simp[k1,cmpL,show s.length<t.length by omega]
   ·rw[List.drop_of_length_le (show t.length<=k by omega)]
    simp[k1,cmpL,show¬s.length<t.length by omega,show¬t.length<s.length by omega]
theorem D8 {s t:List Int} (hs:s.length<=1099511627775):Dw s t=some (cmpL s t):=by
 have:=GS (t:=t) hs Aa 0 (Nat.zero_le _) (Nat.zero_le _) (by unfold Aa;omega)
 rw[List.drop_zero,List.drop_zero]at this
 exact this
theorem Ef {s t:List Int} (hs:s.length<=1099511627775) (hl:s.length=t.length):Ee s t=some (decide (cmpL s t<0)):=by
 have key: ∀(n k:Nat),k<=s.length->s.length-k<n->(Cv n (s,t,(k:Int))).bind (λs1=>match s1 with| .inl _=>some false| .inr s3=>some s3)=some (decide (cmpL (s.drop k) (t.drop k)<0)):=by
  intro n
  induction n with
  |zero=>intro k _ h;omega
  |succ n ih=>
   intro k h1 hn
   by_cases k1:k<s.length
   ·have k2:k<t.length:=by omega
    rw[List.drop_eq_getElem_cons k1,List.drop_eq_getElem_cons k2]
    simp only[Cv,Ai,Ap k1,Ap k2,Ag (show k<4611686018427387904 by omega),cmpL]
    by_cases he:s[k]=t[k]
    ·have:=ih (k+1) k1 (by omega)
     simp[k1,k2,he]
     simpa using this
    ·by_cases hl:s[k]<t[k]<;>simp[k1,k2,he,hl]
   ·rw[List.drop_of_length_le (show s.length<=k by omega),List.drop_of_length_le (show t.length<=k by omega)]
    simp[Cv,k1,cmpL]
 have:=key Aa 0 (Nat.zero_le _) (by unfold Aa;omega)
 rw[List.drop_zero,List.drop_zero]at this
 exact this
theorem FF {a b:List Int} (ha:a.length<=1099511627775):Ed a b=some (decide (a=b)):=by
 unfold Ed
 by_cases hl:a.length=b.length
 ·rw[if_neg (by simp[hl]),eqX a b hl (λn i=>Ct n (a,b,i)) ?_ ?_ (by unfold Aa;omega)]
  ·by_cases h:a=b<;>simp[h]
  ·intro n k h1 h2
   simp only[Ct,Ai,Ap h1,Ap h2,Ag (show k<4611686018427387904 by omega)]
   by_cases h:a[k]=b[k]<;>simp[h1,h2,h]
  ·intro n
   simp[Ct]
 ·rw[if_pos (by simp;omega),decide_eq_false (λe=>hl (by rw[e]))]
theorem cmpL_refl: ∀s,cmpL s s=0
 | []=>rfl
 |a::s=>by simp[cmpL,cmpL_refl s]
theorem cmpL_eq: ∀ {s t},cmpL s t=0↔s=t
 | [],[]=>by simp[cmpL]
 | [],_::_=>by simp[cmpL]
 |_::_,[]=>by simp[cmpL]
 |a::s,b::t=>by
  simp only[cmpL]
  by_cases h:a=b
  ·rw[if_pos h,cmpL_eq];simp[h]
  ·rw[if_neg h];split<;>simp[h]
theorem cmpL_symm: ∀s t,cmpL t s= -cmpL s t
 | [],[]=>by simp[cmpL]
 | [],_::_=>by simp[cmpL]
 |_::_,[]=>by simp[cmpL]
 |a::s,b::t=>by
  simp only[cmpL]
  by_cases h:a=b
  ·rw[if_pos h,if_pos h.symm,cmpL_symm s t]
  ·rw[if_neg h,if_neg (Ne.symm h)]
   by_cases h2:a<b
   ·rw[if_pos h2,if_neg (by omega)];rfl
   ·rw[if_neg h2,if_pos (by omega)]
theorem cmpL_trans: ∀ {s t u},cmpL s t<0->cmpL t u<0->cmpL s u<0
 | [],[],_,h,_=>by simp[cmpL]at h
 | [],_::_,[],_,h=>by simp[cmpL]at h
 | [],_::_,_::_,_,_=>by simp[cmpL]
 |_::_,[],_,h,_=>by simp[cmpL]at h
 |_::_,_::_,[],_,h=>by simp[cmpL]at h
 |a::s,b::t,c::u,h1,h2=>by
  simp only[cmpL]at*
  by_cases e1:a=b
  ·rw[if_pos e1]at h1
   by_cases e2:b=c
   ·rw[if_pos e2]at h2;rw[if_pos (e1.trans e2)];exact cmpL_trans h1 h2
   ·rw[if_neg e2]at h2;rw[e1,if_neg e2];exact h2
  ·rw[if_neg e1]at h1
   have l1:a<b:=by
    by_cases h:a<b
    ·exact h
    ·rw[if_neg h]at h1;omega
   by_cases e2:b=c
   ·rw[←e2,if_neg e1,if_pos l1];omega
   ·rw[if_neg e2]at h2
    have l2:b<c:=by
     by_cases h:b<c
     ·exact h
     ·rw[if_neg h]at h2;omega
    rw[if_neg (by omega),if_pos (by omega)];omega
def CJ:List (List Int)->Bool
 |a::b::l=>decide (cmpL a b<0)&&CJ (b::l)
 |_=>true
theorem Hr {a:List Int} {l:List (List Int)} (h:CJ (a::l)=true):CJ l=true:=by
 cases l with
 |nil=>rfl
 |cons b l=>simp only[CJ,Bool.and_eq_true]at h;exact h.2
theorem FT: ∀ {a:List Int} {l:List (List Int)},CJ (a::l)=true-> ∀b∈l,cmpL a b<0
 |a,[],_,b,hb=>by cases hb
 |a,c::l,h,b,hb=>by
  simp only[CJ,Bool.and_eq_true,decide_eq_true_eq]at h
  rcases List.mem_cons.1 hb with rfl|hb
  ·exact h.1
  ·exact cmpL_trans h.1 (FT h.2 b hb)
theorem DS: ∀ {l:List (List Int)},CJ l=true-> ∀(i j:Nat) (hi:i<j) (hj:j<l.length),cmpL (l[i]'(by omega)) l[j]<0
 | [],_,i,j,_,hj=>by simp at hj
 |a::l,h,0,j+1,_,hj=>by
  simp only[List.getElem_cons_zero,List.getElem_cons_succ]
  exact FT h _ (List.getElem_mem _)
 |a::l,h,i+1,j+1,hi,hj=>by
  simp only[List.getElem_cons_succ]
  exact DS (Hr h) i j (by omega) (by simpa using hj)
theorem Gz {l:List (List Int)}:CJ l=true↔ ∀(i:Nat) (hi:i+1<l.length),cmpL (l[i]'(by omega)) l[i+1]<0:=by
 constructor
 ·exact λh i hi=>DS h i (i+1) (by omega) hi
 ·induction l with
  |nil=>intro _;rfl
  |cons a l ih=>
   intro h
   cases l with
   |nil=>rfl
   |cons b l=>
    simp only[CJ,Bool.and_eq_true,decide_eq_true_eq]
    exact⟨h 0 (by simp),ih λi hi=>by have:=h (i+1) (by simpa using hi);simpa using this⟩
end T
open Go Go.Va
namespace T
theorem F4 {n:Int} (h0:0<=n) (h8:n<=8): ∀k:Nat,0<=n^k/\n^k<=8^k
 |0=>by simp
 |k+1=>by
  obtain⟨h1,h2⟩:=F4 h0 h8 k
  rw[Int.pow_succ,Int.pow_succ]
  exact⟨Int.mul_nonneg h1 h0,Int.mul_le_mul h2 h8 h0 (by have:(0:Int)<=8^k:=Int.le_trans h1 h2;exact this)⟩
theorem IC: ∀k:Nat,k<=20->(8:Int)^k<=8^20:=by
 intro k hk
 have:((8^k:Nat):Int)<=((8^20:Nat):Int):=Int.ofNat_le.2 (Nat.pow_le_pow_right (by omega) hk)
 simpa using this
theorem GZ {n:Int} (h0:0<=n) (h8:n<=8) {k:Nat} (hk:k<=20):0<=n^k/\n^k<=1152921504606846976:=by
  obtain⟨h1,h2⟩:=F4 h0 h8 k
  have:=IC k hk
  exact ⟨h1, by have e : (8 : Int) ^ 20 = 1152921504606846976 := by decide
                omega⟩
theorem Ic {n:Int} (h0:0<=n) (h8:n<=8): ∀(m k j:Nat),j+k<=20->k<m->BW m (n,(k:Int),n^j)=some (n^(j+k)):=by
 intro m
 induction m with
 |zero=>intro k j _ h;omega
 |succ m ih=>
  intro k j hj hk
  simp only[BW]
  cases k with
  |zero=>simp
  |succ k=>
   have e:w64 (((k+1:Nat):Int)-1)=(k:Int):=by rw[Ax (by omega) (by omega)];omega
   have hb:=GZ h0 h8 (k:=j+1) (by omega)
   rw[Int.pow_succ]at hb
   rw[e,Ax (by omega) (by omega),←Int.pow_succ,if_pos (by simp),ih k (j+1) (by omega) (by omega)]
   congr 2<;>omega
theorem FK {n:Int} (h0:0<=n) (h8:n<=8) {k:Nat} (hk:k<=20):Bd n (k:Int)=some (n^k):=by
 unfold Bd
 have:=Ic h0 h8 Aa k 0 (by omega) (by unfold Aa;omega)
 rw[Int.pow_zero]at this
 rw[this];simp
theorem HY {n:Int} (h0:0<=n) (h8:n<=8): ∀(m k j:Nat),j+k<=20->k<m->BY m (n,(k:Int),n^j)=some (n^(j+k)):=by
 intro m
 induction m with
 |zero=>intro k j _ h;omega
 |succ m ih=>
  intro k j hj hk
  simp only[BY]
  cases k with
  |zero=>simp
  |succ k=>
   have e:w64 (((k+1:Nat):Int)-1)=(k:Int):=by rw[Ax (by omega) (by omega)];omega
   have hb:=GZ h0 h8 (k:=j+1) (by omega)
   rw[Int.pow_succ]at hb
   rw[e,Ax (by omega) (by omega),←Int.pow_succ,if_pos (by simp),ih k (j+1) (by omega) (by omega)]
   congr 2<;>omega
theorem DG {n:Int} (h0:0<=n) (h8:n<=8) {k:Nat} (hk:k<=20):AS n (k:Int)=some (n^k):=by
 unfold AS
 have:=HY h0 h8 Aa k 0 (by omega) (by unfold Aa;omega)
 rw[Int.pow_zero]at this
 rw[this];simp
def Gb (n:Int):Int->List Int->Int
 |i,[]=>i
 |i,a::l=>Gb n (i*n+a) l
def idx (n:Int) (l:List Int):Int:=Gb n 0 l
theorem Gc (n:Int): ∀(l:List Int) (i:Int),Gb n i l=i*n^l.length+Gb n 0 l
 | [],i=>by simp[Gb]
 |a::l,i=>by
  simp only[Gb,List.length_cons]
  rw[Gc n l (i*n+a),Gc n l (0*n+a),Int.pow_succ]
  simp only[Int.zero_mul,Int.zero_add]
  rw[Int.add_mul,Int.mul_assoc,Int.mul_comm n (n^l.length)]
  omega
theorem Fu (n a:Int) (l:List Int):idx n (a::l)=a*n^l.length+idx n l:=by
 unfold idx
 simp only[Gb]
 rw[Gc];simp
theorem D6 {n a:Int} {l:List Int}:Bk n (a::l)=true↔(0<=a/\a<n)/\Bk n l=true:=by
 unfold Bk;simp[List.all_cons]
theorem Ft {n:Int}: ∀ {l:List Int},Bk n l=true->0<=idx n l/\idx n l<n^l.length
 | [],_=>by simp[idx,Gb]
 |a::l,h=>by
  obtain⟨h1,h2⟩:=D6.1 h
  obtain⟨h3,h4⟩:=Ft h2
  rw[Fu,List.length_cons,Int.pow_succ]
  have hp:0<=n^l.length:=by omega
  have k1:=Int.mul_nonneg h1.1 hp
  have k2:=Int.mul_le_mul_of_nonneg_right (show a+1<=n by omega) hp
  rw[Int.add_mul,Int.one_mul,Int.mul_comm n]at k2
  exact⟨by omega,by omega⟩
theorem G8 {n:Int}: ∀ {s t:List Int},Bk n s=true->Bk n t=true->s.length=t.length->(cmpL s t<0↔idx n s<idx n t)/\(cmpL s t=0↔idx n s=idx n t)
 | [],[],_,_,_=>by simp[cmpL,idx,Gb]
 | [],_::_,_,_,h=>by simp at h
 |_::_,[],_,_,h=>by simp at h
 |a::s,b::t,hs,ht,hl=>by
  obtain⟨s1,s2⟩:=D6.1 hs
  obtain⟨t1,t2⟩:=D6.1 ht
  have hl':s.length=t.length:=by simpa using hl
  have ih:=G8 s2 t2 hl'
  obtain⟨b1,b2⟩:=Ft s2
  obtain⟨c1,c2⟩:=Ft t2
  rw[Fu,Fu,hl']
  rw[hl']at b2
  simp only[cmpL]
  have hp:0<=n^t.length:=by omega
  rcases Int.lt_trichotomy a b with h|h|h
  ·have:=Int.mul_le_mul_of_nonneg_right (show a+1<=b by omega) hp
   rw[Int.add_mul,Int.one_mul]at this
   rw[if_neg (by omega),if_pos h]
   exact⟨by constructor<;>intro<;>omega,by constructor<;>intro<;>omega⟩
  ·subst h
   rw[if_pos rfl]
   exact⟨by rw[ih.1];constructor<;>intro<;>omega,by rw[ih.2];constructor<;>intro<;>omega⟩
  ·have:=Int.mul_le_mul_of_nonneg_right (show b+1<=a by omega) hp
   rw[Int.add_mul,Int.one_mul]at this
   rw[if_neg (by omega),if_neg (by omega)]
   exact⟨by constructor<;>intro<;>omega,by constructor<;>intro<;>omega⟩
theorem FU {n:Int} {k:Nat} {l:List (List Int)} (hi:CJ l=true) (hv: ∀t∈l,t.length=k/\Bk n t=true):(l.length:Int)<=n^k∨l= []:=by
 have key: ∀(i:Nat) (h:i<l.length),(i:Int)<=idx n l[i]:=by
  intro i
  induction i with
  |zero=>intro h;exact(Ft (hv _ (List.getElem_mem h)).2).1
  |succ i ih=>
   intro h
   have h1:=ih (by omega)
   obtain⟨l1,b1⟩:=hv _ (List.getElem_mem (show i<l.length by omega))
   obtain⟨l2,b2⟩:=hv _ (List.getElem_mem h)
   have:=(G8 b1 b2 (l1.trans l2.symm)).1.1 (DS hi i (i+1) (by omega) h)
   omega
 cases hn:l.length with
 |zero=>exact .inr (List.length_eq_zero_iff.1 hn)
 |succ m=>
  left
  have h:=key m (by omega)
  obtain⟨l1,b1⟩:=hv _ (List.getElem_mem (show m<l.length by omega))
  have:=(Ft b1).2
  rw[l1]at this
  omega
theorem Iy {list:List (List Int)} {t:List Int} {k:Nat} (hl:list.length<=1099511627775) (hk:k<=1099511627775) (hv: ∀u∈list,u.length=k) (ht:t.length=k) (hi:CJ list=true): ∀(m a b:Nat),a<=b->b<=list.length->b-a<m->
  (∀i (h:i<list.length),i<a->cmpL list[i] t<0)->(∀i (h:i<list.length),b<=i-> ¬cmpL list[i] t<0)->
  ∃c:Nat,Ca m (list,t,(a:Int),(b:Int))=some (list,t,(c:Int))/\c<=list.length/\(∀i (h:i<list.length),i<c->cmpL list[i] t<0)/\(∀i (h:i<list.length),c<=i-> ¬cmpL list[i] t<0):=by
 intro m
 induction m with
 |zero=>intro a b _ _ h;omega
 |succ m ih=>
  intro a b hab hb hm h1 h2
  simp only[Ca]
  by_cases hlt:a<b
  ·have emid:w64 (Int.tdiv (w64 ((a:Int)+b)) 2)=(((a+b)/2:Nat):Int):=by
    rw[Ax (x:=(a:Int)+b) (by omega) (by omega),Int.tdiv_eq_ediv_of_nonneg (by omega),Ax (by omega) (by omega)];omega
   have hmid:(a+b)/2<list.length:=by omega
   rw[emid]
   have hless:=Ef (s:=list[(a+b)/2]) (t:=t) (by rw[hv _ (List.getElem_mem hmid)];omega) (by rw[hv _ (List.getElem_mem hmid),ht])
   simp only[Ai,Ap hmid,hless,Option.bind_some,Ag (show(a+b)/2<4611686018427387904 by omega)]
   by_cases hc:cmpL list[(a+b)/2] t<0
   ·obtain⟨c,e,k1,k2,k3⟩:=ih ((a+b)/2+1) b (by omega) hb (by omega) (λi h hi'=>by
     rcases Nat.lt_or_ge i ((a+b)/2)with h'|h'
     ·exact cmpL_trans (DS hi i ((a+b)/2) h' hmid) hc
     ·have:i=(a+b)/2:=by omega
      subst this;exact hc) h2
    exact⟨c,by simpa[hlt,hmid,hc]using e,k1,k2,k3⟩
   ·obtain⟨c,e,k1,k2,k3⟩:=ih a ((a+b)/2) (by omega) (by omega) (by omega) h1 (λi h hi' hneg=>by
     rcases Nat.lt_or_ge ((a+b)/2) i with h'|h'
     ·exact hc (cmpL_trans (DS hi ((a+b)/2) i h' h) hneg)
     ·have:i=(a+b)/2:=by omega
      subst this;exact hc hneg)
    exact⟨c,by simpa[hlt,hmid,hc]using e,k1,k2,k3⟩
  ·have:a=b:=by omega
   subst this
   exact⟨a,by simp,hb,h1,h2⟩
theorem CV {list:List (List Int)} {t:List Int} {k:Nat} (hl:list.length<=1099511627774) (hk:k<=1099511627775) (hv: ∀u∈list,u.length=k) (ht:t.length=k) (hi:CJ list=true):
  ∃c:Nat,Dc list t=some ((c:Int),decide (t∈list))/\c<=list.length/\(∀i (h:i<list.length),i<c->cmpL list[i] t<0)/\(∀i (h:i<list.length),c<=i-> ¬cmpL list[i] t<0):=by
 obtain⟨c,e,k1,k2,k3⟩:=Iy (by omega) hk hv ht hi Aa 0 list.length (Nat.zero_le _) (Nat.le_refl _) (by unfold Aa;omega) (λi _ h=>by omega) (λi h h'=>by omega)
 refine⟨c,?_,k1,k2,k3⟩
 unfold Dc
 have e':Ca Aa (list,t,0,(list.length:Int))=some (list,t,(c:Int)):=e
 rw[e']
 simp only[Option.bind_some]
 by_cases hc:c<list.length
 ·have hs:=FF (a:=list[c]) (b:=t) (by rw[hv _ (List.getElem_mem hc)];omega)
  simp only[Ai,Ap hc,hs,Option.bind_some]
  have:decide (list[c]=t)=decide (t∈list):=by
   by_cases h:list[c]=t
   ·rw[decide_eq_true h,decide_eq_true (h▸List.getElem_mem hc)]
   ·rw[decide_eq_false h]
    symm;rw[decide_eq_false_iff_not]
    intro hm
    obtain⟨j,hj,rfl⟩:=List.mem_iff_getElem.1 hm
    have hne:j≠c:=λe=>h (by subst e;rfl)
    rcases Nat.lt_or_ge j c with hlt|hge
    ·have:=k2 j hj hlt;rw[cmpL_refl]at this;omega
    ·exact k3 c hc (Nat.le_refl _) (DS hi c j (by omega) hj)
  simp[hc,this]
 ·have:decide (t∈list)=false:=by
   rw[decide_eq_false_iff_not]
   intro hm
   obtain⟨j,hj,rfl⟩:=List.mem_iff_getElem.1 hm
   have:=k2 j hj (by omega);rw[cmpL_refl]at this;omega
  rw[if_neg (by simp;omega),this]
end T
open Go Go.Va
namespace T
def EO (n:Int):Bool:=decide (1<=n/\n<=8)
theorem Fw (n:Int):Ea n=some (EO n):=by
 unfold Ea EO
 by_cases h:1<=n<;>simp[h]
theorem FG (n:Int):Eg n=some (EO n):=by
 unfold Eg EO
 rw[BB];simp
def JI (n k:Int) (t:List Int):Bool:=decide ((t.length:Int)=k)&&Bk n t
def Jc (n k:Int) (ts:List (List Int)):Bool:=EO n&&decide (1<=k/\k<=4)&&ts.all (JI n k)&&CJ ts
theorem HQ {α:Type} {l:List α} {i:Nat} {d:α} (h:i<l.length):l.getD i d=l[i]:=by simp[h]
end T
open Go Go.Va
namespace T
structure SetOk (p:Int) (k:Nat) (ts:List (List Int)):Prop where
 hp:2<=p/\p<=7
 hk:k<=4
 len: ∀t∈ts,t.length=k
 el: ∀t∈ts,Bk p t=true
 inc:CJ ts=true
section
variable {p:Int} {k:Nat} {ts:List (List Int)}
theorem SetOk.get (h:SetOk p k ts) {t:List Int} (ht:t∈ts) {i:Nat} (hi:i<k):i<t.length/\0<=t.getD i 0/\t.getD i 0<p:=by
 have hl:=h.len t ht
 have:=Fj (h.el t ht) i (by omega)
 rw[HQ (by omega)]
 exact⟨by omega,this⟩
end
end T
set_option linter.unusedVariables false
open Go Go.Va
namespace T
def BQ:Nat->(Int×(Int×(List (List Int)))×Int)->Option ((Unit)⊕(Bool))
 |0,_=>none
 |n+1,(n_,r,i)=>
 if decide (i<(r.2.length:Int))then
 if inb i r.2 then
 (DY n_ r.1 (gd r.2 i [])).bind λr3=>
 if !r3 then
 some (.inr false)
 else
 if decide (i>0)then
 if inb (w64 (i-1)) r.2 then
 if inb i r.2 then
 (Ee (gd r.2 (w64 (i-1)) []) (gd r.2 i [])).bind λr4=>
 if !r4 then
 some (.inr false)
 else
 BQ n (n_,(r.1,r.2),w64 (i+1))
 else none
 else none
 else
 BQ n (n_,(r.1,r.2),w64 (i+1))
 else none
 else
 some (.inl ())
def DW (n_:Int) (r:Int×(List (List Int))):Option (Bool):=
 (Cj r.1 1 3).bind λr1=>
  if !r1 then
   some false
  else
   (AS n_ r.1).bind λr2=>
    if decide ((r.2.length:Int)>r2)then
     some false
    else
     (BQ Aa (n_,(r.1,r.2),0)).bind λs3=>
      match s3 with
      | .inl s4=>
       some true
      | .inr s5=>
       some s5
def Cc (l:List Int):Option ((List Int)):=
 if([]:List Int).length+l.length<=lim then
 some ([]++l)
 else none
def Di (n_:Int):Option (Bool):=
 if decide (n_≥1)then
 some (decide (n_<=4))
 else
 some false
def Bm:Nat->(Int×(Int×(List (List Int)))×(List (List Int))×Int×Int)->Option ((Unit)⊕(Bool))
 |0,_=>none
 |n+1,(n_,r,t16,t17,t18)=>
 if decide (t18<t17)then
 if inb t18 t16 then
 if((gd t16 t18 []).length:Int) !=r.1 then
 some (.inr false)
 else
 (Dx (gd t16 t18 []) n_).bind λr1=>
 if !r1 then
 some (.inr false)
 else
 if decide (t18>0)then
 if inb (w64 (t18-1)) r.2 then
 (Dw (gd r.2 (w64 (t18-1)) []) (gd t16 t18 [])).bind λr2=>
 if decide (r2≥0)then
 some (.inr false)
 else
 Bm n (n_,(r.1,r.2),t16,t17,w64 (t18+1))
 else none
 else
 Bm n (n_,(r.1,r.2),t16,t17,w64 (t18+1))
 else none
 else
 some (.inl ())
def Dd (n_:Int) (r:Int×(List (List Int))):Option (Bool):=
 if decide (r.1<1)then
  some false
 else
  if decide (r.1>3)then
   some false
  else
   (Bm Aa (n_,(r.1,r.2),r.2,(r.2.length:Int),0)).bind λs1=>
    match s1 with
    | .inl s2=>
     some true
    | .inr s3=>
     some s3
end T
open Go Go.Va
namespace T
abbrev Con:=List Int×Int×List (List Int)
abbrev Net:=Int×Int×List Con
def Ii (a:List (List Int)):Prop:=a.length<=1048576/\ ∀r∈a,r.length<=1048576
def D3 (n:Int) (r:Int×List (List Int)):Bool:=decide (1<=r.1/\r.1<=3)&&(r.2.all λt=>decide ((t.length:Int)=r.1)&&Bk n t)&&CJ r.2
def FH (n:Int) (r:Int×List (List Int)) (k:Nat):Bool:=decide (((r.2.getD k []).length:Int)=r.1)&&Bk n (r.2.getD k [])&&(decide (k=0)||decide (cmpL (r.2.getD (k-1) []) (r.2.getD k [])<0))
theorem Ah {α:Type} {l:List α} {k:Nat} {d:α} (h:k<l.length):l.getD k d=l[k]:=by simp[List.getD_eq_getElem?_getD,h]
theorem F5 {n ar:Int} {ts:List (List Int)}:(List.range ts.length).all (FH n (ar,ts))=((ts.all λt=>decide ((t.length:Int)=ar)&&Bk n t)&&CJ ts):=by
 rw[Bool.eq_iff_iff,Bool.and_eq_true,List.all_eq_true,List.all_eq_true,Gz]
 unfold FH
 constructor
 ·intro h
  refine⟨λt ht=>?_,λi hi=>?_⟩
  ·obtain⟨k,hk,rfl⟩:=List.getElem_of_mem ht
   have:=h k (List.mem_range.2 hk)
   rw[Ah hk]at this
   simp only[Bool.and_eq_true]at this
   rw[Bool.and_eq_true];exact this.1
  ·have:=h (i+1) (List.mem_range.2 hi)
   rw[Ah hi,Nat.add_sub_cancel,Ah (show i<ts.length by omega)]at this
   simp at this
   exact this.2
 ·rintro ⟨h1,h2⟩ k hk
  have hk:=List.mem_range.1 hk
  have e:=h1 _ (List.getElem_mem hk)
  rw[Ah hk]
  rw[Bool.and_eq_true]at e
  rw[Bool.and_eq_true,Bool.and_eq_true]
  refine⟨e,?_⟩
  cases k with
  |zero=>simp
  |succ i=>
   have:=h2 i hk
   rw[Nat.add_sub_cancel,Ah (show i<ts.length by omega)]
   simp[this]
theorem EC {n:Int} {r:Int×List (List Int)} (h:Ii r.2):Dd n r=some (D3 n r):=by
 obtain⟨ar,ts⟩:=r
 unfold Dd D3
 by_cases h1:ar<1
 ·simp[h1,show¬1<=ar by omega]
 ·by_cases h2:ar>3
  ·simp[h1,h2,show¬ar<=3 by omega]
  ·rw[if_neg (by simpa using h1),if_neg (by simpa using h2)]
   have key:=Jp ts.length (λm (_:Unit) i=>Bm m (n,(ar,ts),ts,(ts.length:Int),i)) (λ_=>()) (FH n (ar,ts)) (r:=some (.inr false)) (e:=some (.inl ())) (λm k hk=>?_) (λm=>?_) (n:=Aa) (by unfold Aa;have:=h.1;simp at this;omega)
   ·rw[key,F5]
    simp only[show(1<=ar/\ar<=3)=True by simp;omega,decide_true,Bool.true_and]
    cases (ts.all λt=>decide ((t.length:Int)=ar)&&Bk n t)&&CJ ts<;>simp
   ·have hx:=h.2 ts[k] (List.getElem_mem hk)
    have hk':=h.1
    simp only at hk'
    simp only[Bm,Ai,Ap hk,Ag (show k<4611686018427387904 by omega),D9 n (show ts[k].length<=1099511627775 by omega),FH,Ah hk]
    by_cases hl:(ts[k].length:Int)=ar
    ·cases hb:Bk n ts[k]with
     |false=>simp[hk,hl]
     |true=>
      cases k with
      |zero=>simp[hk,hl]
      |succ i=>
       have hi:i<ts.length:=by omega
       have hx2:=h.2 ts[i] (List.getElem_mem hi)
       have e:w64 (((i+1:Nat):Int)-1)=(i:Int):=by rw[Ax (by omega) (by omega)];omega
       simp only[e,Ai,Ap hi,Nat.add_sub_cancel,Ah hi,D8 (show ts[i].length<=1099511627775 by omega)]
       by_cases hc:cmpL ts[i] ts[i+1]<0
       ·simp[hk,hl,hi,hc,show¬cmpL ts[i] ts[i+1]≥0 by omega];omega
       ·simp[hk,hl,hi,hc,show cmpL ts[i] ts[i+1]≥0 by omega];omega
    ·simp[hk,hl]
   ·simp[Bm]
theorem D0 {n:Int} {r:Int×List (List Int)} (h:Ii r.2) (hn:1<=n/\n<=8):DW n r=some (D3 n r):=by
 obtain⟨ar,ts⟩:=r
 unfold DW D3
 rw[BB]
 by_cases h1:1<=ar/\ar<=3
 ·simp only[h1,and_self,decide_true,Option.bind_some,Bool.not_true,Bool.false_eq_true,if_false,Bool.true_and]
  obtain⟨m,rfl⟩: ∃m:Nat,ar=m:=⟨ar.toNat,by omega⟩
  rw[DG (by omega) (by omega) (by omega)]
  simp only[Option.bind_some]
  have key:=JE ts.length (λm' (_:Unit) i=>BQ m' (n,((m:Int),ts),i)) (λ_=>()) (FH n ((m:Int),ts)) (r:=some (.inr false)) (e:=some (.inl ())) (λm' k hk hb0=>?_) (λm' _=>?_) (n:=Aa) (by unfold Aa;have:=h.1;simp at this;omega)
  ·by_cases hc:(ts.length:Int)>n^m
   ·rw[if_pos (by simpa using hc)]
    by_cases hv:((ts.all λt=>decide ((t.length:Int)=m)&&Bk n t)&&CJ ts)=true
    ·rw[Bool.and_eq_true,List.all_eq_true]at hv
     rcases FU (k:=m) hv.2 λt ht=>by have:=hv.1 t ht;simp at this;exact⟨by omega,this.2⟩with h2|h2
     ·omega
     ·subst h2
      have:=GZ (n:=n) (by omega) (by omega) (k:=m) (by omega)
      simp at hc;omega
    ·simp only[Bool.not_eq_true]at hv;rw[hv]
   ·rw[if_neg (by simpa using hc),key,F5]
    cases (ts.all λt=>decide ((t.length:Int)=m)&&Bk n t)&&CJ ts<;>simp
  ·have hx:=h.2 ts[k] (List.getElem_mem hk)
   have hk':=h.1
   simp only at hk'
   simp only[BQ,Ai,Ap hk,Ag (show k<4611686018427387904 by omega),Fe (n:=n) _ (by omega) (by omega) (show ts[k].length<=1099511627775 by omega),FH,Ah hk]
   by_cases hl:(ts[k].length:Int)=m
   ·cases hb:Bk n ts[k]with
    |false=>simp[hk,hl]
    |true=>
     cases k with
     |zero=>simp[hk,hl]
     |succ i=>
      have hi:i<ts.length:=by omega
      have hx2:=h.2 ts[i] (List.getElem_mem hi)
      have e:w64 (((i+1:Nat):Int)-1)=(i:Int):=by rw[Ax (by omega) (by omega)];omega
      simp only[e,Ai,Ap hi,Nat.add_sub_cancel,Ah hi]
      have hb1:=hb0 i (by omega)
      simp only[FH,Ah hi,Bool.and_eq_true,decide_eq_true_eq]at hb1
      rw[Ef (s:=ts[i]) (t:=ts[i+1]) (by omega) (by have:=hb1.1.1;omega)]
      by_cases hc:cmpL ts[i] ts[i+1]<0
      ·simp[hk,hl,hi,hc];omega
      ·simp[hk,hl,hi,hc];omega
   ·simp[hk,hl]
  ·simp[BQ]
 ·have: ¬(1<=ar/\ar<=3):=h1
  simp[this]
end T
open Go Go.Va
namespace T
theorem Ir (a b:Int):(a==b)=decide (a=b):=by by_cases h:a=b<;>simp[h]
theorem Is (a b:Int):(a !=b)=!decide (a=b):=by by_cases h:a=b<;>simp[h]
def g0 (l:List Int) (i:Nat):Int:=l.getD i 0
section
variable {v n up:Int} {c:Con} {vals:List Int}
theorem Ck {l:List Int} (h:l.length<=1099511627775):Cc l=some l:=by
 unfold Cc
 rw[if_pos (by unfold lim;simp;omega)];simp
end
end T
open Go Go.Va
namespace T
abbrev Dom:=List (List Bool)
def mk (bs:List Bool):List Int:=((List.range bs.length).filter λi=>bs.getD i false).map λi:Nat=>(i:Int)
def d2 (d:Dom) (v x:Nat):Bool:=(d.getD v []).getD x false
theorem AK {α:Type} {l:List α} {i j:Nat} {y d:α}:(l.set i y).getD j d=if i=j/\j<l.length then y else l.getD j d:=by
 simp only[List.getD_eq_getElem?_getD,List.getElem?_set]
 by_cases h:i=j
 ·subst h
  by_cases h2:i<l.length
  ·simp[h2]
  ·simp[h2]
 ·simp[h]
end T
open Go Go.Va
namespace T
abbrev ASt:=Dom×List (Int×Int×Int)
section
variable {a:Net} {K:Nat} {c:Con}
end
end T
open Go Go.Va
namespace T
theorem w1:w64 1=1:=by rw[C5];rfl
theorem w2:w64 2=2:=by rw[C5];rfl
theorem w3:w64 3=3:=by rw[C5];rfl
section
variable {a:Net}
end
end T
set_option linter.unusedVariables false
open Go Go.Va
namespace T
def CU:Nat->(Int×(Int×(List Int))×Int)->Option ((Unit)⊕(Bool))
 |0,_=>none
 |n+1,(n_,op,i)=>
 if decide (i<(op.2.length:Int))then
 if inb i op.2 then
 (Cj (gd op.2 i 0) 0 (w64 (n_-1))).bind λr3=>
 if !r3 then
 some (.inr false)
 else
 CU n (n_,(op.1,op.2),w64 (i+1))
 else none
 else
 some (.inl ())
def En (n_:Int) (op:Int×(List Int)):Option (Bool):=
 (Cj op.1 0 3).bind λr1=>
  if !r1 then
   some false
  else
   (AS n_ op.1).bind λr2=>
    if(op.2.length:Int) !=r2 then
     some false
    else
     (CU Aa (n_,(op.1,op.2),0)).bind λs3=>
      match s3 with
      | .inl s4=>
       some true
      | .inr s5=>
       some s5
def Do (f:Int×(List Int)) (n_:Int):Option (Bool):=
 if decide (f.1≥0)then
 if decide (f.1<=3)then
 (Bd n_ f.1).bind λr1=>
 if(f.2.length:Int)==r1 then
 (Dx f.2 n_).bind λr2=>
 some r2
 else
 some false
 else
 some false
 else
 some false
end T
open Go Go.Va
namespace T
abbrev Opn:=Int×List Int
def opB (n:Int) (f:Opn):Bool:=decide (0<=f.1/\f.1<=3)&&decide ((f.2.length:Int)=n^f.1.toNat)&&Bk n f.2
theorem DQ {n:Int} (hn:0<=n/\n<=8) {f:Opn} (h:f.2.length<=1048576):Do f n=some (opB n f):=by
 obtain⟨ar,l⟩:=f
 unfold Do opB
 by_cases h0:0<=ar
 ·by_cases h1:ar<=3
  ·obtain⟨m,rfl⟩: ∃m:Nat,ar=m:=⟨ar.toNat,by omega⟩
   have hm:Bd n (m:Int)=some (n^m):=FK hn.1 hn.2 (by omega)
   simp only[ge_iff_le,h0,h1,decide_true,if_true,hm,Option.bind_some,D9 n (show l.length<=1099511627775 by simp at h;omega),Int.toNat_natCast,and_self,Bool.true_and,Ir]
   by_cases hl:(l.length:Int)=n^m<;>simp[hl]
  ·simp[h0,h1]
 ·simp[h0]
theorem Gk {n:Int} (hn:0<=n/\n<=8) {f:Opn} (h:f.2.length<=1048576):En n f=some (opB n f):=by
 obtain⟨ar,l⟩:=f
 unfold En opB
 rw[BB]
 by_cases h0:0<=ar/\ar<=3
 ·obtain⟨m,rfl⟩: ∃m:Nat,ar=m:=⟨ar.toNat,by omega⟩
  have hm:AS n (m:Int)=some (n^m):=DG hn.1 hn.2 (by omega)
  have hw:w64 (n-1)=n-1:=Ax (by omega) (by omega)
  have key:=EU l (λk i=>CU k (n,((m:Int),l),i)) (λx=>decide (0<=x/\x<n)) (.inr false) (.inl ()) ?_ ?_ (n:=Aa) (by unfold Aa;simp at h;omega)
  ·simp only[h0,and_self,decide_true,Option.bind_some,Bool.not_true,Bool.false_eq_true,if_false,hm,key,Int.toNat_natCast,Bool.true_and,Is]
   by_cases hl:(l.length:Int)=n^m
   ·have:Bk n l=l.all λx=>decide (0<=x/\x<n):=rfl
    rw[this]
    cases l.all (λx=>decide (0<=x/\x<n))<;>simp[hl]
   ·simp[hl]
  ·intro k i hi
   simp only at h
   simp only[CU,Ai,Ap hi,BB,hw,Option.bind_some,Ag (show i<4611686018427387904 by omega)]
   by_cases hx:0<=l[i]/\l[i]<n
   ·simp[hi,hx,show l[i]<=n-1 by omega]
   ·have: ¬(0<=l[i]/\l[i]<=n-1):=by omega
    simp[hi,hx,this]
  ·intro k;simp[CU]
 ·simp[h0]
section
variable {n:Int} {f:Opn}
variable {a:Net}
end
end T
set_option linter.unusedVariables false
open Go Go.Va
namespace T
def BU (r:Int×(List (List Int))) (t:List Int):Option (Bool):=
 if(t.length:Int) !=r.1 then
 some false
 else
 (Dc r.2 t).bind λr1=>
 some r1.2
def Ce:Nat->((List Int)×(List Int)×(List Int)×Int×Int)->Option ((List Int))
 |0,_=>none
 |n+1,(g,h,t11,t12,t13)=>
 if decide (t13<t12)then
 if inb t13 t11 then
 if inb (gd t11 t13 0) g then
 if inb t13 h then
 Ce n (g,stt h t13 (gd g (gd t11 t13 0) 0),t11,t12,w64 (t13+1))
 else none
 else none
 else none
 else
 some h
def CO (f:List Int) (g:List Int):Option ((List Int)):=
 if 0<=(f.length:Int)/\(f.length:Int)<=(f.length:Int)/\(f.length:Int)<=lim then
 (Ce Aa (g,List.replicate (Int.toNat (f.length:Int)) (0:Int),f,(f.length:Int),0)).bind λs1=>
 some s1
 else none
end T
open Go Go.Va
namespace T
def BZ (vs:List Int) (v:Int):Int:=vs.getD v.toNat 0
def Jk (vs:List Int) (c:Con):Bool:=decide (c.1.map (BZ vs)∈c.2.2)
def JH (l:List Con) (vs:List Int):Bool:=l.all (Jk vs)
def JF (vars:List Int) (c:Con):Bool:=c.1.all λv=>decide (v∈vars)
def JG (a:Net) (vars:List Int):List Con:=a.2.2.filter (JF vars)
section
variable {a:Net}
theorem E9 {f g:List Int} (hf:f.length<=1048576) (hg: ∀v∈f,0<=v/\v<g.length):CO f g=some (f.map (BZ g)):=by
 unfold CO
 rw[if_pos (by unfold lim;omega)]
 have:=HO f (λn o i=>Ce n (g,o,f,(f.length:Int),i)) (BZ g) some (λn o k hk hlo=>?_) (λn o hlo=>?_) (n:=Aa) (out:=List.replicate (Int.toNat (f.length:Int)) (0:Int)) (by simp) (by unfold Aa;omega)
 ·simp only[this,Option.bind_some]
 ·have hko:k<o.length:=by omega
  have hv:=hg _ (List.getElem_mem hk)
  have e:gd g f[k] 0=BZ g f[k]:=rfl
  simp only[Ce,Ai,Ap hk,CH,Ag (show k<4611686018427387904 by omega),e]
  rw[if_pos (by simp;omega),if_pos hk,if_pos (show inb f[k] g from hv),if_pos hko]
 ·simp[Ce]
end
end T
open Go Go.Va
namespace T
theorem Es {α:Type} {k:Nat} {xs:List α} {d:α}:gd xs (k:Int) d=xs.getD k d:=rfl
abbrev T3:=List (List (List Bool))
abbrev T4:=List (List (List (List Bool)))
def IJ (s:Nat) (c:List (List Bool)):Prop:=c.length=s/\ ∀x,x<s->(c.getD x []).length=s
def Jg (n s:Nat) (r:T3):Prop:=r.length=n/\ ∀j,j<n->IJ s (r.getD j [])
def Ok4 (n s:Nat) (t:T4):Prop:=t.length=n/\ ∀i,i<n->Jg n s (t.getD i [])
def r4 (t:T4) (i j x y:Nat):Bool:=(((t.getD i []).getD j []).getD x []).getD y false
def s4 (t:T4) (i j x y:Nat) (b:Bool):T4:=t.set i ((t.getD i []).set j (((t.getD i []).getD j []).set x ((((t.getD i []).getD j []).getD x []).set y b)))
def Ok3 (n m:Nat) (u:T3):Prop:=u.length=n/\ ∀i,i<n->(u.getD i []).length=n/\ ∀j,j<n->((u.getD i []).getD j []).length=m
def r3 (u:T3) (i j p:Nat):Bool:=((u.getD i []).getD j []).getD p false
def s3 (u:T3) (i j p:Nat) (b:Bool):T3:=u.set i ((u.getD i []).set j (((u.getD i []).getD j []).set p b))
section
variable {n s m:Nat} {t:T4} {u:T3}
theorem Ok4.at (h:Ok4 n s t) {i j x:Nat} (hi:i<n) (hj:j<n) (hx:x<s):i<t.length/\j<(t.getD i []).length/\x<((t.getD i []).getD j []).length/\(((t.getD i []).getD j []).getD x []).length=s:=
 ⟨by rw[h.1];exact hi,by rw[(h.2 i hi).1];exact hj,by rw[((h.2 i hi).2 j hj).1];exact hx,((h.2 i hi).2 j hj).2 x hx⟩
theorem Ok3.at (h:Ok3 n m u) {i j:Nat} (hi:i<n) (hj:j<n):i<u.length/\j<(u.getD i []).length/\((u.getD i []).getD j []).length=m:=
 ⟨by rw[h.1];exact hi,by rw[(h.2 i hi).1];exact hj,(h.2 i hi).2 j hj⟩
theorem Hg (h:Ok4 n s t) {i j x y:Nat} {b:Bool}:Ok4 n s (s4 t i j x y b):=by
 unfold s4
 refine⟨by rw[List.length_set];exact h.1,λi' hi'=>?_⟩
 rw[AK]
 split
 ·rename_i hc
  obtain⟨rfl,_⟩:=hc
  have hr:=h.2 i hi'
  refine⟨by rw[List.length_set];exact hr.1,λj' hj'=>?_⟩
  rw[AK]
  split
  ·rename_i hc
   obtain⟨rfl,_⟩:=hc
   have hcl:=hr.2 j hj'
   refine⟨by rw[List.length_set];exact hcl.1,λx' hx'=>?_⟩
   rw[AK]
   split
   ·rename_i hc
    obtain⟨rfl,_⟩:=hc
    rw[List.length_set];exact hcl.2 x hx'
   ·exact hcl.2 x' hx'
  ·exact hr.2 j' hj'
 ·exact h.2 i' hi'
theorem Jz (h:Ok3 n m u) {i j p:Nat} {b:Bool}:Ok3 n m (s3 u i j p b):=by
 unfold s3
 refine⟨by rw[List.length_set];exact h.1,λi' hi'=>?_⟩
 rw[AK]
 split
 ·rename_i hc
  obtain⟨rfl,_⟩:=hc
  have hr:=h.2 i hi'
  refine⟨by rw[List.length_set];exact hr.1,λj' hj'=>?_⟩
  rw[AK]
  split
  ·rename_i hc
   obtain⟨rfl,_⟩:=hc
   rw[List.length_set];exact hr.2 j hj'
  ·exact hr.2 j' hj'
 ·exact h.2 i' hi'
theorem Hf (h:Ok4 n s t) {i j x y:Nat} {b:Bool} (hi:i<n) (hj:j<n) (hx:x<s) (hy:y<s) (i' j' x' y':Nat):
  r4 (s4 t i j x y b) i' j' x' y'=if i=i'/\j=j'/\x=x'/\y=y' then b else r4 t i' j' x' y':=by
 obtain⟨h1,h2,h3,h4⟩:=h.at hi hj hx
 unfold r4 s4
 rw[AK]
 by_cases e1:i=i'
 ·subst e1
  rw[if_pos ⟨rfl,h1⟩,AK]
  by_cases e2:j=j'
  ·subst e2
   rw[if_pos ⟨rfl,h2⟩,AK]
   by_cases e3:x=x'
   ·subst e3
    rw[if_pos ⟨rfl,h3⟩,AK]
    by_cases e4:y=y'
    ·subst e4;rw[if_pos ⟨rfl,by omega⟩,if_pos ⟨rfl,rfl,rfl,rfl⟩]
    ·rw[if_neg (by omega),if_neg (by omega)]
   ·rw[if_neg (by omega),if_neg (by omega)]
  ·rw[if_neg (by omega),if_neg (by omega)]
 ·rw[if_neg (by omega),if_neg (by omega)]
theorem Jy (h:Ok3 n m u) {i j p:Nat} {b:Bool} (hi:i<n) (hj:j<n) (hp:p<m) (i' j' p':Nat):
  r3 (s3 u i j p b) i' j' p'=if i=i'/\j=j'/\p=p' then b else r3 u i' j' p':=by
 obtain⟨h1,h2,h3⟩:=h.at hi hj
 unfold r3 s3
 rw[AK]
 by_cases e1:i=i'
 ·subst e1
  rw[if_pos ⟨rfl,h1⟩,AK]
  by_cases e2:j=j'
  ·subst e2
   rw[if_pos ⟨rfl,h2⟩,AK]
   by_cases e3:p=p'
   ·subst e3;rw[if_pos ⟨rfl,by omega⟩,if_pos ⟨rfl,rfl,rfl⟩]
   ·rw[if_neg (by omega),if_neg (by omega)]
  ·rw[if_neg (by omega),if_neg (by omega)]
 ·rw[if_neg (by omega),if_neg (by omega)]
end
structure Rel34 (n s:Nat) (t:T4) (u:T3):Prop where
 o4:Ok4 n s t
 o3:Ok3 n (s*s) u
 eq: ∀i j x y,i<j->j<n->x<s->y<s->r4 t i j x y=r3 u i j (x*s+y)/\r4 t j i y x=r3 u i j (x*s+y)
theorem Iu {s x y:Nat} (hx:x<s) (hy:y<s):x*s+y<s*s:=by
 have:(x+1)*s<=s*s:=Nat.mul_le_mul_right _ hx
 rw[Nat.succ_mul]at this;omega
theorem HG {s x y x' y':Nat} (hy:y<s) (hy':y'<s) (h:x*s+y=x'*s+y'):x=x'/\y=y':=by
 have h1:(x*s+y)/s=x:=by rw[Nat.mul_comm,Nat.mul_add_div (by omega),Nat.div_eq_of_lt hy];omega
 have h2:(x'*s+y')/s=x':=by rw[Nat.mul_comm,Nat.mul_add_div (by omega),Nat.div_eq_of_lt hy'];omega
 have:x=x':=by rw[←h1,←h2,h]
 subst this
 exact⟨rfl,by omega⟩
theorem Rel34.drop {n s:Nat} {t:T4} {u:T3} (h:Rel34 n s t u) {i j x y:Nat} (hij:i<j) (hj:j<n) (hx:x<s) (hy:y<s):
  Rel34 n s (s4 (s4 t i j x y false) j i y x false) (s3 u i j (x*s+y) false):=by
 refine⟨Hg (Hg h.o4),Jz h.o3,λi' j' x' y' h1 h2 h3 h4=>?_⟩
 have hi:i<n:=by omega
 rw[Hf (Hg h.o4) hj hi hy hx,Hf h.o4 hi hj hx hy,Hf (Hg h.o4) hj hi hy hx,Hf h.o4 hi hj hx hy,Jy h.o3 hi hj (Iu hx hy)]
 obtain⟨e1,e2⟩:=h.eq i' j' x' y' h1 h2 h3 h4
 by_cases e:i=i'/\j=j'/\x=x'/\y=y'
 ·obtain⟨rfl,rfl,rfl,rfl⟩:=e
  simp
 ·have e3: ¬(i=i'/\j=j'/\x*s+y=x'*s+y'):=λ⟨q1,q2,q3⟩=>by
   have:=HG hy h4 q3
   exact e ⟨q1,q2,this.1,this.2⟩
  have e4: ¬(j=i'/\i=j'/\y=x'/\x=y'):=by omega
  have e5: ¬(i=j'/\j=i'/\x=y'/\y=x'):=by omega
  have e6: ¬(j=j'/\i=i'/\y=y'/\x=x'):=by omega
  simp only[if_neg e,if_neg e3,if_neg e4,if_neg e5,if_neg e6]
  exact⟨e1,e2⟩
end T
open Go Go.Va
namespace T
section
variable {a:Net} {n s:Nat} {t:T4} {u:T3}
def V2 (n i j x y:Nat):List Int:=((List.replicate n (0:Int)).set i (x:Int)).set j (y:Int)
def fB (a:Net) (n i j x y:Nat):Bool:=JH (JG a [(i:Int),(j:Int)]) (V2 n i j x y)
end
end T
open Go Go.Va
namespace T
section
variable {a:Net} {n s:Nat} {t:T4} {u:T3}
def PA (n s i:Nat) (t:T4):Prop:=t.length=n/\ ∀i',i'<i->Jg n s (t.getD i' [])
def PB (n s i j:Nat) (t:T4):Prop:=PA n s i t/\(t.getD i []).length=n/\ ∀j',j'<j->IJ s ((t.getD i []).getD j' [])
theorem PA.set {i:Nat} (h:PA n s i t) (r:T3):PA n s i (t.set i r):=by
 refine⟨by rw[List.length_set];exact h.1,λi' hi'=>?_⟩
 rw[AK,if_neg (by omega)];exact h.2 i' hi'
theorem PB.set {i j:Nat} (h:PB n s i j t) (hi:i<n) (c:List (List Bool)):PB n s i j (t.set i ((t.getD i []).set j c)):=by
 have hl:=h.1.1
 refine⟨h.1.set _,?_,λj' hj'=>?_⟩
 ·rw[AK,if_pos ⟨rfl,by omega⟩,List.length_set];exact h.2.1
 ·rw[AK,if_pos ⟨rfl,by omega⟩,AK,if_neg (by omega)];exact h.2.2 j' hj'
end
end T
open Go Go.Va
namespace T
section
variable {a:Net} {n s:Nat} {t:T4} {u:T3}
def cI (o:List Nat):List Int:=o.map λx:Nat=>(x:Int)
theorem GR {o:List Nat} {i:Nat} (h:i<o.length):(cI o).getD i 0=((o.getD i 0:Nat):Int):=by
 unfold cI;rw[Ah (by simpa using h),Ah h];simp
end
end T
set_option linter.unusedVariables false
open Go Go.Va
namespace T
def B9:Nat->((List (List Int))×(List Int)×(List (List Int))×Int)->Option ((List (List Int)))
 |0,_=>none
 |n+1,(line,numbers,out,i)=>
 if decide (i<(numbers.length:Int))then
 if inb i numbers then
 if inb (gd numbers i 0) line then
 if out.length+ [gd line (gd numbers i 0) []].length<=lim then
 B9 n (line,numbers,out++ [gd line (gd numbers i 0) []],w64 (i+1))
 else none
 else none
 else none
 else
 some out
def DH (line:List (List Int)) (numbers:List Int):Option ((List (List Int))):=
 (B9 Aa (line,numbers,[],0)).bind λs1=>
 some s1
def BT:Nat->(Int×(List (List Int))×Int×(Int×(List (Int×(List Int))))×(List Int)×Int×Int×Int)->Option (Int×(List (List Int))×Int×(Int×(List (Int×(List Int))))×(List Int)×Int×Int)
 |0,_=>none
 |n+1,(op,tuples,k,a,out,place,at_,i)=>
 if decide (i<(tuples.length:Int))then
 if inb i tuples then
 if inb place (gd tuples i [])then
 BT n (op,tuples,k,(a.1,a.2),out,place,w64 ((w64 (at_*a.1))+(gd (gd tuples i []) place 0)),w64 (i+1))
 else none
 else none
 else
 some (op,tuples,k,(a.1,a.2),out,place,at_)
def Cf:Nat->(Int×(List (List Int))×Int×(Int×(List (Int×(List Int))))×(List Int)×Int)->Option ((List Int))
 |0,_=>none
 |n+1,(op,tuples,k,a,out,place)=>
 if decide (place<k)then
 (BT Aa (op,tuples,k,(a.1,a.2),out,place,0,0)).bind λs1=>
 if inb s1.1 s1.2.2.2.1.2 then
 if inb s1.2.2.2.2.2.2 ((gd s1.2.2.2.1.2 s1.1 (0,[])).2)then
 if s1.2.2.2.2.1.length+ [gd ((gd s1.2.2.2.1.2 s1.1 (0,[])).2) s1.2.2.2.2.2.2 0].length<=lim then
 Cf n (s1.1,s1.2.1,s1.2.2.1,(s1.2.2.2.1.1,s1.2.2.2.1.2),s1.2.2.2.2.1++ [gd ((gd s1.2.2.2.1.2 s1.1 (0,[])).2) s1.2.2.2.2.2.2 0],w64 (s1.2.2.2.2.2.1+1))
 else none
 else none
 else none
 else
 some out
def EP (a:Int×(List (Int×(List Int)))) (op:Int) (tuples:List (List Int)) (k:Int):Option ((List Int)):=
 (Cf Aa (op,tuples,k,(a.1,a.2),[],0)).bind λs1=>
 some s1
def Dt (n_:Int) (op:Int×(List Int)) (tuples:List (List Int)) (arity:Int):Option ((List Int)):=
 (EP (n_,[(op.1,op.2)]) 0 tuples arity).bind λr1=>
 some r1
def Cw:Nat->(Int×(List Int)×Int)->Option (((List Int))⊕((List Int)×Bool))
 |0,_=>none
 |n+1,(n_,out,i)=>
 if decide (i≥0)then
 if inb i out then
 if decide ((gd out i 0)<(w64 (n_-1)))then
 if inb i out then
 if inb i out then
 some (.inr (stt out i (w64 ((gd out i 0)+1)),true))
 else none
 else none
 else
 if inb i out then
 Cw n (n_,stt out i 0,w64 (i-1))
 else none
 else none
 else
 some (.inl out)
def Eh (list:List Int) (n_:Int):Option ((List Int)×Bool):=
 (Cc list).bind λr1=>
  (Cw Aa (n_,r1,w64 ((r1.length:Int)-1))).bind λs2=>
   match s2 with
   | .inl s3=>
    some (s3,false)
   | .inr s4=>
    some (s4.1,s4.2)
def Bn:Nat->(Int×(Int×(List Int))×(Int×(List (List Int)))×(List Int)×Bool)->Option ((Unit)⊕((List Int)×(List Int)×Bool))
 |0,_=>none
 |n+1,(n_,op,r,numbers,more)=>
 if more then
 (DH r.2 numbers).bind λr1=>
 (Dt n_ (op.1,op.2) r1 r.1).bind λr2=>
 (BU (r.1,r.2) r2).bind λr3=>
 if !r3 then
 some (.inr (numbers,r2,true))
 else
 (Eh numbers (r.2.length:Int)).bind λr4=>
 Bn n (n_,(op.1,op.2),(r.1,r.2),r4.1,r4.2)
 else
 some (.inl ())
def Ev (n_:Int) (op:Int×(List Int)) (r:Int×(List (List Int))):Option ((List Int)×(List Int)×Bool):=
 if 0<=op.1/\op.1<=op.1/\op.1<=lim then
  if op.1==0 then
   (Bn Aa (n_,(op.1,op.2),(r.1,r.2),List.replicate (Int.toNat op.1) (0:Int),true)).bind λs1=>
    match s1 with
    | .inl s2=>
     some ([],[],false)
    | .inr s3=>
     some (s3.1,s3.2.1,s3.2.2)
  else
   (Bn Aa (n_,(op.1,op.2),(r.1,r.2),List.replicate (Int.toNat op.1) (0:Int),decide ((r.2.length:Int)>0))).bind λs4=>
    match s4 with
    | .inl s5=>
     some ([],[],false)
    | .inr s6=>
     some (s6.1,s6.2.1,s6.2.2)
 else none
def C2 (n_:Int) (op:Int×(List Int)) (r:Int×(List (List Int))):Option (Bool):=
 (Ev n_ (op.1,op.2) (r.1,r.2)).bind λr1=>
 some (!r1.2.2)
def Cg:Nat->((List Int)×(List Int)×Int×Int)->Option ((List Int))
 |0,_=>none
 |n+1,(b,t10,t11,t12)=>
 if decide (t12<t11)then
 if inb t12 t10 then
 if(0:Int)<=8 then
 if b.length+ [IntKind.wrap .u8 (YiD .i64 (gd t10 t12 0) 8),IntKind.wrap .u8 (gd t10 t12 0)].length<=lim then
 Cg n (b++ [IntKind.wrap .u8 (YiD .i64 (gd t10 t12 0) 8),IntKind.wrap .u8 (gd t10 t12 0)],t10,t11,w64 (t12+1))
 else none
 else none
 else none
 else
 some b
def Cr (list:List Int):Option (ByteArray):=
 if(0:Int)<=0/\(0:Int)<=(w64 (2*(list.length:Int)))/\(w64 (2*(list.length:Int)))<=lim then
 (Cg Aa (List.replicate (Int.toNat 0) (0:Int),list,(list.length:Int),0)).bind λs1=>
 some (Ybp s1)
 else none
def B6:Nat->((List ByteArray)×(List (List Int))×Int×Int)->Option ((List ByteArray))
 |0,_=>none
 |n+1,(set,t8,t9,t10)=>
 if decide (t10<t9)then
 if inb t10 t8 then
 (Cr (gd t8 t10 [])).bind λr1=>
 B6 n (YhI set r1,t8,t9,w64 (t10+1))
 else none
 else
 some set
def Ch (r:Int×(List (List Int))):Option ((List ByteArray)):=
 (B6 Aa ([],r.2,(r.2.length:Int),0)).bind λs1=>
 some s1
def Bz:Nat->(Int×(Int×(List Int))×(Int×(List (List Int)))×(List ByteArray)×Int×(List Int)×(List Int)×Int×Int×Int)->Option (Int×(Int×(List Int))×(Int×(List (List Int)))×(List ByteArray)×Int×(List Int)×(List Int)×Int)
 |0,_=>none
 |n+1,(t0,t4,t5,t9,t10,t11,t12,t13,t14,t15)=>
 if decide (t15≥0)then
 if t10≠0 then
 if inb t15 t11 then
 if t10≠0 then
 Bz n (t0,(t4.1,t4.2),(t5.1,t5.2),t9,t10,stt t11 t15 (Int.tmod t14 t10),t12,t13,w64 (Int.tdiv t14 t10),w64 (t15-1))
 else none
 else none
 else none
 else
 some (t0,(t4.1,t4.2),(t5.1,t5.2),t9,t10,t11,t12,t13)
def Bh:Nat->(Unit×Int×(Int×(List Int))×(Int×(List (List Int)))×(List ByteArray)×Int×(List Int)×(List Int)×Int×Int×Int×Int×Int×Int×Int)->Option (Int×(Int×(List Int))×(Int×(List (List Int)))×(List ByteArray)×Int×(List Int)×(List Int)×Int×Int×Int×Int×Int)
 |0,_=>none
 |n+1,(al61,t0,t4,t5,t9,t10,t11,t12,t13,t16,t17,t57,t58,t62,t63)=>
 if decide (t63<t62)then
 if inb t63 t11 then
 if inb (gd t11 t63 0) t5.2 then
 if inb t16 (gd t5.2 (gd t11 t63 0) [])then
 Bh n ((),t0,(t4.1,t4.2),(t5.1,t5.2),t9,t10,t11,t12,t13,t16,w64 ((w64 (t17*t0))+(gd (gd t5.2 (gd t11 t63 0) []) t16 0)),t57,t58,t62,w64 (t63+1))
 else none
 else none
 else none
 else
 some (t0,(t4.1,t4.2),(t5.1,t5.2),t9,t10,t11,t12,t13,t16,t17,t57,t58)
def Bg:Nat->(Int×(Int×(List Int))×(Int×(List (List Int)))×(List ByteArray)×Int×(List Int)×(List Int)×Int×Int×Int)->Option (Int×(Int×(List Int))×(Int×(List (List Int)))×(List ByteArray)×Int×(List Int)×(List Int)×Int)
 |0,_=>none
 |n+1,(t0,t4,t5,t9,t10,t11,t12,t13,t57,t58)=>
 if decide (t58<t57)then
 (Bh Aa ((),t0,(t4.1,t4.2),(t5.1,t5.2),t9,t10,t11,t12,t13,t58,0,t57,t58,(t11.length:Int),0)).bind λs4=>
 if inb s4.2.2.2.2.2.2.2.2.2.1 s4.2.1.2 then
 if inb s4.2.2.2.2.2.2.2.2.1 s4.2.2.2.2.2.2.1 then
 Bg n (s4.1,(s4.2.1.1,s4.2.1.2),(s4.2.2.1.1,s4.2.2.1.2),s4.2.2.2.1,s4.2.2.2.2.1,s4.2.2.2.2.2.1,stt s4.2.2.2.2.2.2.1 s4.2.2.2.2.2.2.2.2.1 (gd s4.2.1.2 s4.2.2.2.2.2.2.2.2.2.1 0),s4.2.2.2.2.2.2.2.1,s4.2.2.2.2.2.2.2.2.2.2.1,w64 (s4.2.2.2.2.2.2.2.2.2.2.2+1))
 else none
 else none
 else
 some (t0,(t4.1,t4.2),(t5.1,t5.2),t9,t10,t11,t12,t13)
def Bl:Nat->(Int×(Int×(List Int))×(Int×(List (List Int)))×(List ByteArray)×Int×(List Int)×(List Int)×Int)->Option ((Unit)⊕((List Int)×(List Int)×Bool))
 |0,_=>none
 |n+1,(t0,t4,t5,t9,t10,t11,t12,t13)=>
 (Bd t10 t4.1).bind λr2=>
 if decide (t13<r2)then
 (Bz Aa (t0,(t4.1,t4.2),(t5.1,t5.2),t9,t10,t11,t12,t13,t13,w64 (t4.1-1))).bind λs3=>
 (Bg Aa (s3.1,(s3.2.1.1,s3.2.1.2),(s3.2.2.1.1,s3.2.2.1.2),s3.2.2.2.1,s3.2.2.2.2.1,s3.2.2.2.2.2.1,s3.2.2.2.2.2.2.1,s3.2.2.2.2.2.2.2,(s3.2.2.2.2.2.2.1.length:Int),0)).bind λs4=>
 (Cr s4.2.2.2.2.2.2.1).bind λr5=>
 if !(Xs s4.2.2.2.1 r5)then
 some (.inr (s4.2.2.2.2.2.1,s4.2.2.2.2.2.2.1,true))
 else
 Bl n (s4.1,(s4.2.1.1,s4.2.1.2),(s4.2.2.1.1,s4.2.2.1.2),s4.2.2.2.1,s4.2.2.2.2.1,s4.2.2.2.2.2.1,s4.2.2.2.2.2.2.1,w64 (s4.2.2.2.2.2.2.2+1))
 else
 some (.inl ())
def CF (t0:Int) (t1:Int×(List Int)) (t2:Int×(List (List Int))):Option ((List Int)×(List Int)×Bool):=
 (Ch (t2.1,t2.2)).bind λr1=>
  if 0<=t1.1/\t1.1<=t1.1/\t1.1<=lim then
   if 0<=t2.1/\t2.1<=t2.1/\t2.1<=lim then
    (Bl Aa (t0,(t1.1,t1.2),(t2.1,t2.2),r1,(t2.2.length:Int),List.replicate (Int.toNat t1.1) (0:Int),List.replicate (Int.toNat t2.1) (0:Int),0)).bind λs2=>
     match s2 with
     | .inl s3=>
      some ([],[],false)
     | .inr s4=>
      some (s4.1,s4.2.1,s4.2.2)
   else none
  else none
def B5:Nat->(Int×(Int×(List Int))×(List (Int×(List (List Int))))×Int×Int)->Option ((Unit)⊕(Bool))
 |0,_=>none
 |n+1,(n_,op,t12,t13,t14)=>
 if decide (t14<t13)then
 if inb t14 t12 then
 (CF n_ (op.1,op.2) ((gd t12 t14 (0,[])).1,(gd t12 t14 (0,[])).2)).bind λr1=>
 if r1.2.2 then
 some (.inr false)
 else
 B5 n (n_,(op.1,op.2),t12,t13,w64 (t14+1))
 else none
 else
 some (.inl ())
def C0 (n_:Int) (rels:List (Int×(List (List Int)))) (op:Int×(List Int)):Option (Bool):=
 (B5 Aa (n_,(op.1,op.2),rels,(rels.length:Int),0)).bind λs1=>
  match s1 with
  | .inl s2=>
   some true
  | .inr s3=>
   some s3
end T
open Go Go.Va
namespace T
def kb (l:List Int):List Int:=l.flatMap λx=> [0,x]
def DD (l:List Int):ByteArray:=Ybp (kb l)
theorem GM {x:Int} (h0:0<=x) (h1:x<256):IntKind.wrap .u8 x=x:=by
 simp[IntKind.wrap,IntKind.bits,IntKind.signed]
 omega
theorem Hy {x:Int} (h0:0<=x) (h1:x<256):YiD .i64 x 8=0:=by
 unfold YiD
 have:(min (8:Int).toNat IntKind.i64.bits)=8:=by decide
 rw[this,Int.fdiv_eq_ediv_of_nonneg _ (by decide)]
 have:(2:Int)^8=256:=by decide
 rw[this];omega
theorem C1 {l:List Int} (hl:l.length<=1048576) (hv: ∀x∈l,0<=x/\x<256):Cr l=some (DD l):=by
 unfold Cr
 have e2:w64 (2*(l.length:Int))=2*(l.length:Int):=Ax (by omega) (by omega)
 rw[e2,if_pos (by unfold lim;omega)]
 have kbl: ∀k,k<=l.length->(kb (l.take k)).length=2*k:=by
  intro k hk
  have: ∀l:List Int,(kb l).length=2*l.length:=by
   intro l
   induction l with
   |nil=>rfl
   |cons x l ih=>unfold kb at ih⊢;simp only[List.flatMap_cons,List.length_append,ih,List.length_cons,List.length_nil];omega
  rw[this];simp;omega
 have:=CX l.length (λm o i=>Cg m (o,l,(l.length:Int),i)) (λk=>kb (l.take k)) (r:=some (kb l)) (λm k hk=>?_) (λm=>?_) (n:=Aa) (by unfold Aa;omega)
 ·have e0:kb (l.take 0)= []:=rfl
  rw[e0]at this
  have:Cg Aa (List.replicate (Int.toNat 0) (0:Int),l,(l.length:Int),0)=some (kb l):=this
  rw[this];rfl
 ·have hx:=hv _ (List.getElem_mem hk)
  have hlen:=kbl k (by omega)
  have e:kb (l.take (k+1))=kb (l.take k)++ [0,l[k]]:=by
   unfold kb;rw[List.take_succ_eq_append_getElem hk,List.flatMap_append];simp
  simp only[Cg,Ai,Ap hk,Ag (show k<4611686018427387904 by omega),GM hx.1 hx.2,Hy hx.1 hx.2,GM (show(0:Int)<=0 by omega) (show(0:Int)<256 by omega),e]
  rw[if_pos (by simp;omega),if_pos hk,if_pos (by omega),if_pos (by unfold lim;simp;omega)]
 ·simp only[Cg,List.take_length]
  rw[if_neg (by simp)]
theorem Ex: ∀(xs:List Int) (s:ByteArray),(xs.foldl (λs n=>s.push (UInt8.ofNat n.toNat)) s).data=s.data++(xs.map λn=>UInt8.ofNat n.toNat).toArray
 | [],s=>by simp
 |x::xs,s=>by
  rw[List.foldl_cons,Ex xs]
  apply Array.ext'
  simp[ByteArray.push]
theorem HT: ∀(l l':List Int),(∀x∈l,0<=x/\x<256)->(∀x∈l',0<=x/\x<256)->(kb l).map (λn=>UInt8.ofNat n.toNat)=(kb l').map (λn=>UInt8.ofNat n.toNat)->l=l'
 | [],[],_,_,_=>rfl
 | [],y::l',_,_,h=>by simp[kb]at h
 |x::l,[],_,_,h=>by simp[kb]at h
 |x::l,y::l',hv,hv',h=>by
  simp only[kb,List.flatMap_cons,List.map_append,List.map_cons,List.map_nil,List.cons_append,List.nil_append,List.cons.injEq,true_and]at h
  obtain⟨h1,h2⟩:=h
  have hx:=hv x (by simp)
  have hy:=hv' y (by simp)
  have h1:=congrArg UInt8.toNat h1
  simp only[UInt8.toNat_ofNat']at h1
  have:x=y:=by omega
  rw[this,HT l l' (λz hz=>hv z (List.mem_cons_of_mem _ hz)) (λz hz=>hv' z (List.mem_cons_of_mem _ hz)) h2]
theorem GD {l l':List Int} (hv: ∀x∈l,0<=x/\x<256) (hv': ∀x∈l',0<=x/\x<256) (h:DD l=DD l'):l=l':=by
 have h:=congrArg ByteArray.data h
 unfold DD Ybp at h
 rw[Ex,Ex]at h
 have h:=congrArg Array.toList h
 simp only[Array.toList_append]at h
 exact HT l l' hv hv' (List.append_cancel_left h)
theorem HE {a b:ByteArray}:(a==b)=decide (a=b):=by
 show(a.data==b.data)=_
 rw[Bool.eq_iff_iff,beq_iff_eq,decide_eq_true_eq]
 exact⟨λh=>ByteArray.ext h,λh=>congrArg ByteArray.data h⟩
theorem FA {ks:List ByteArray} {s:ByteArray}:Xs ks s=true↔s∈ks:=by
 unfold Xs
 rw[List.any_eq_true]
 constructor
 ·rintro ⟨k,h1,h2⟩;rw[HE,decide_eq_true_eq]at h2;subst h2;exact h1
 ·intro h;exact⟨s,h,by rw[HE];simp⟩
theorem GE {ks:List ByteArray} {s t:ByteArray}:t∈YhI ks s↔t∈ks∨t=s:=by
 unfold YhI
 by_cases h:Xs ks s=true
 ·rw[if_pos h]
  exact⟨.inl,λh'=>h'.elim id λe=>e▸FA.1 h⟩
 ·rw[if_neg h];simp
def De (l:List (List Int)):List ByteArray:=l.foldl (λks t=>YhI ks (DD t)) []
theorem HU {l:List (List Int)} {s:ByteArray}:s∈De l↔ ∃t∈l,s=DD t:=by
 have key: ∀(l:List (List Int)) (ks:List ByteArray),s∈l.foldl (λks t=>YhI ks (DD t)) ks↔s∈ks∨ ∃t∈l,s=DD t:=by
  intro l
  induction l with
  |nil=>intro ks;simp
  |cons t l ih=>
   intro ks
   rw[List.foldl_cons,ih,GE]
   simp only[List.mem_cons,exists_eq_or_imp,or_assoc]
 unfold De;rw[key];simp
theorem DJ {r:Int×List (List Int)} (hl:r.2.length<=1048576) (hv: ∀t∈r.2,t.length<=1048576/\ ∀x∈t,0<=x/\x<256):Ch r=some (De r.2):=by
 unfold Ch
 have:=CX r.2.length (λm o i=>B6 m (o,r.2,(r.2.length:Int),i)) (λk=>De (r.2.take k)) (r:=some (De r.2)) (λm k hk=>?_) (λm=>?_) (n:=Aa) (by unfold Aa;omega)
 ·have e0:De (r.2.take 0)= []:=rfl
  rw[e0]at this
  simp only[this,Option.bind_some]
 ·obtain⟨h1,h2⟩:=hv _ (List.getElem_mem hk)
  have e:De (r.2.take (k+1))=YhI (De (r.2.take k)) (DD r.2[k]):=by
   unfold De;rw[List.take_succ_eq_append_getElem hk,List.foldl_append];rfl
  simp only[B6,Ai,Ap hk,Ag (show k<4611686018427387904 by omega),C1 h1 h2,Option.bind_some,e]
  rw[if_pos (by simp;omega),if_pos hk]
 ·simp only[B6,List.take_length]
  rw[if_neg (by simp)]
theorem EY {l:List (List Int)} {t:List Int} (hl: ∀t∈l,∀x∈t,0<=x/\x<256) (ht: ∀x∈t,0<=x/\x<256):Xs (De l) (DD t)=decide (t∈l):=by
 rw[Bool.eq_iff_iff,FA,decide_eq_true_eq,HU]
 constructor
 ·rintro ⟨u,h1,h2⟩;rw[GD ht (hl u h1) h2];exact h1
 ·intro h;exact⟨t,h,rfl⟩
def dg (b:Nat):Nat->Nat->List Nat
 |0,_=> []
 |k+1,i=>dg b k (i/b)++ [i%b]
theorem CN {b:Nat}: ∀ {k i:Nat},(dg b k i).length=k
 |0,_=>rfl
 |k+1,i=>by simp[dg,CN (k:=k)]
theorem EH {b:Nat} (hb:0<b): ∀ {k i:Nat},∀x∈dg b k i,x<b
 |0,_,x,h=>by simp[dg]at h
 |k+1,i,x,h=>by
  simp only[dg]at h
  rcases List.mem_append.1 h with h|h
  ·exact EH hb x h
  ·simp at h;subst h;exact Nat.mod_lt _ hb
theorem G5 {b:Nat}: ∀ {k:Nat},dg b k 0=List.replicate k 0
 |0=>rfl
 |k+1=>by simp[dg,G5 (k:=k),List.replicate_succ']
theorem Bj {o:List Nat}:(cI o).length=o.length:=by unfold cI;simp
theorem FP {o p:List Nat}:cI (o++p)=cI o++cI p:=by unfold cI;simp
end T
open Go Go.Va
namespace T
def vt (ts:List (List Int)) (x j:Nat):Nat:=((ts.getD x []).getD j 0).toNat
def atF (n:Nat) (ts:List (List Int)) (j:Nat) (args:List Nat):Nat:=args.foldl (λa x=>a*n+vt ts x j) 0
def CM (n:Nat) (op:Opn) (ts:List (List Int)) (m:Nat) (args:List Nat):List Int:=(List.range m).map λj=>op.2.getD (atF n ts j args) 0
structure KOk (n k m:Nat) (op:Opn) (r:Int×List (List Int)):Prop where
 op1:op.1=(k:Int)
 hk:1<=k/\k<=3
 hn:1<=n/\n<=8
 opl:op.2.length=n^k
 opv: ∀x∈op.2,0<=x/\x<(n:Int)
 ar:r.1=(m:Int)
 hm:1<=m/\m<=3
 tl: ∀t∈r.2,t.length=m
 tv: ∀t∈r.2,∀x∈t,0<=x/\x<(n:Int)
 many:r.2.length<=64
 inc:CJ r.2=true
def kB (n k m:Nat) (op:Opn) (r:Int×List (List Int)):Bool:=(List.range (r.2.length^k)).all λi=>decide (CM n op r.2 m (dg r.2.length k i)∈r.2)
theorem GF {b k:Nat} (hb:b<=64) (hk:k<=3):b^k<=262144:=by
 have h1:b^k<=64^k:=Nat.pow_le_pow_left hb k
 have h2:64^k<=64^3:=Nat.pow_le_pow_right (by omega) hk
 have:(64:Nat)^3=262144:=by decide
 omega
theorem GG {b j:Nat} (hb:b<=64) (hj:j+1<=3):w64 (((b^j:Nat):Int)*(b:Int))=((b^(j+1):Nat):Int):=by
 have h:=GF hb hj
 rw[Nat.pow_succ]at h⊢
 rw[←Int.natCast_mul]
 exact Ax (by omega) (by omega)
theorem G0 {b:Nat} (hb:b<=64): ∀(m k j:Nat),j+k<=3->k<m->BW m ((b:Int),(k:Int),((b^j:Nat):Int))=some (((b^(j+k):Nat):Int)):=by
 intro m
 induction m with
 |zero=>intro k j _ h;omega
 |succ m ih=>
  intro k j hj hk
  simp only[BW]
  cases k with
  |zero=>simp
  |succ k=>
   have e:w64 (((k+1:Nat):Int)-1)=(k:Int):=by rw[Ax (by omega) (by omega)];omega
   rw[e,GG hb (by omega),if_pos (by simp),ih k (j+1) (by omega) (by omega)]
   congr 3;omega
theorem Cb {b k:Nat} (hb:b<=64) (hk:k<=3):Bd (b:Int) (k:Int)=some (((b^k:Nat):Int)):=by
 unfold Bd
 have:=G0 hb Aa k 0 (by omega) (by unfold Aa;omega)
 have this:BW Aa ((b:Int),(k:Int),1)=_:=this
 rw[this];simp
section
variable {n k m:Nat} {op:Opn} {r:Int×List (List Int)}
theorem KOk.vt_lt (h:KOk n k m op r) {x j:Nat} (hx:x<r.2.length) (hj:j<m):vt r.2 x j<n/\(r.2.getD x []).getD j 0=((vt r.2 x j:Nat):Int)/\j<(r.2.getD x []).length:=by
 have hmem:r.2[x]∈r.2:=List.getElem_mem hx
 have hl:=h.tl _ hmem
 have hj':j<(r.2[x]).length:=by omega
 have hv:=h.tv _ hmem _ (List.getElem_mem hj')
 unfold vt
 rw[Ah hx,Ah hj']
 exact⟨by omega,by omega,by omega⟩
theorem Bv {n k:Nat} (hn:n<=4) (hk:k<=3):n^k<=64:=by
 have h1:n^k<=4^k:=Nat.pow_le_pow_left hn k
 have h2:4^k<=4^3:=Nat.pow_le_pow_right (by omega) hk
 have:(4:Nat)^3=64:=by decide
 omega
theorem FZ {n k:Nat} (hn:n<=8) (hk:k<=3):n^k<=512:=by
 have h1:n^k<=8^k:=Nat.pow_le_pow_left hn k
 have h2:8^k<=8^3:=Nat.pow_le_pow_right (by omega) hk
 have:(8:Nat)^3=512:=by decide
 omega
theorem Gg {n k:Nat} (hn:n<=64) (hk:k<=3):n^k<=262144:=by
 have h1:n^k<=64^k:=Nat.pow_le_pow_left hn k
 have h2:64^k<=64^3:=Nat.pow_le_pow_right (by omega) hk
 have:(64:Nat)^3=262144:=by decide
 omega
theorem DN {ts:List (List Int)} {j:Nat} {a:List Nat} {x:Nat}:atF n ts j (a++ [x])=atF n ts j a*n+vt ts x j:=by unfold atF;rw[List.foldl_append];rfl
theorem Ff {n:Nat} {v:Nat->Nat}: ∀(a:List Nat) (c:Nat),(∀x∈a,v x<n)->a.foldl (λa x=>a*n+v x) c<(c+1)*n^a.length
 | [],c,_=>by simp
 |x::a,c,h=>by
  have h1:=Ff a (c*n+v x) λy hy=>h y (List.mem_cons_of_mem _ hy)
  have h2:=h x (by simp)
  have h3:(c*n+v x+1)*n^a.length<=((c+1)*n)*n^a.length:=Nat.mul_le_mul_right _ (by rw[Nat.succ_mul];omega)
  rw[List.foldl_cons,List.length_cons,Nat.pow_succ]
  have h4:((c+1)*n)*n^a.length=(c+1)*(n^a.length*n):=by rw[Nat.mul_assoc,Nat.mul_comm n]
  omega
theorem GQ (h:KOk n k m op r) {j:Nat} (hj:j<m) (a:List Nat) (ha: ∀x∈a,x<r.2.length):atF n r.2 j a<n^a.length:=by
 have:=Ff (n:=n) (v:=λx=>vt r.2 x j) a 0 λx hx=>(h.vt_lt (ha x hx) hj).1
 unfold atF;omega
theorem Gj (h:KOk n k m op r) {a:List Nat} (hl:a.length=k) (ha: ∀x∈a,x<r.2.length) {j:Nat} (hj:j<m):atF n r.2 j a<op.2.length/\0<=op.2.getD (atF n r.2 j a) 0/\op.2.getD (atF n r.2 j a) 0<(n:Int):=by
 have h1:=GQ h hj a ha
 rw[hl]at h1
 have h2:atF n r.2 j a<op.2.length:=by rw[h.opl];exact h1
 rw[Ah h2]
 exact⟨h2,h.opv _ (List.getElem_mem h2)⟩
theorem FI (hn:n<=4) {x v:Nat} (hx:x<=64) (hv:v<n):w64 (w64 ((x:Int)*(n:Int))+(v:Int))=((x*n+v:Nat):Int):=by
 have h1:x*n<=64*4:=Nat.mul_le_mul hx hn
 have e:(x:Int)*(n:Int)=((x*n:Nat):Int):=by push_cast;rfl
 rw[e,Ax (x:=((x*n:Nat):Int)) (by omega) (by omega),Ax (by omega) (by omega)]
 push_cast;rfl
theorem F7 (hn:n<=8) {x v:Nat} (hx:x<=512) (hv:v<n):w64 (w64 ((x:Int)*(n:Int))+(v:Int))=((x*n+v:Nat):Int):=by
 have h1:x*n<=512*8:=Nat.mul_le_mul hx hn
 have e:(x:Int)*(n:Int)=((x*n:Nat):Int):=by push_cast;rfl
 rw[e,Ax (x:=((x*n:Nat):Int)) (by omega) (by omega),Ax (by omega) (by omega)]
 push_cast;rfl
theorem IV (h:KOk n k m op r) (hb:0<r.2.length) (set:List ByteArray) (res:List Int) (i:Int):
  ∀(j:Nat) (args:List Nat) (rest f:Nat),args.length=k->j<=k->j<f->rest<=262144->
   Bz f ((n:Int),(op.1,op.2),(r.1,r.2),set,(r.2.length:Int),cI args,res,i,(rest:Int),(j:Int)-1)=
    some ((n:Int),(op.1,op.2),(r.1,r.2),set,(r.2.length:Int),cI (dg r.2.length j rest++args.drop j),res,i):=by
 have h8:=h.many
 intro j
 induction j with
 |zero=>
  intro args rest f hl _ hf _
  obtain⟨f,rfl⟩: ∃q,f=q+1:=⟨f-1,by omega⟩
  simp only[Bz]
  rw[if_neg (by simp)];rfl
 |succ j ih=>
  intro args rest f hl hj hf hr
  obtain⟨f,rfl⟩: ∃q,f=q+1:=⟨f-1,by omega⟩
  have e1:((j+1:Nat):Int)-1=(j:Int):=by omega
  have e2:w64 ((j:Int)-1)=(j:Int)-1:=by have:=h.hk;exact Ax (by omega) (by omega)
  have hdiv:rest/r.2.length<=262144:=Nat.le_trans (Nat.div_le_self _ _) hr
  have e3:Int.tmod (rest:Int) (r.2.length:Int)=((rest%r.2.length:Nat):Int):=by rw[Int.tmod_eq_emod_of_nonneg (by omega),Int.natCast_emod]
  have e4:w64 (Int.tdiv (rest:Int) (r.2.length:Int))=((rest/r.2.length:Nat):Int):=by
   rw[Int.tdiv_eq_ediv_of_nonneg (by omega),←Int.natCast_ediv]
   have hd':((rest/r.2.length:Nat):Int)<=262144:=Int.ofNat_le.2 hdiv
   exact Ax (Int.le_trans (by decide) (Int.natCast_nonneg _)) (Int.le_trans hd' (by decide))
  have hjl:j<(cI args).length:=by rw[Bj];omega
  have e5:(cI args).set j ((rest%r.2.length:Nat):Int)=cI (args.set j (rest%r.2.length)):=by unfold cI;rw[List.map_set]
  have hne: ¬((r.2.length:Int)=0):=by omega
  have ihx:=ih (args.set j (rest%r.2.length)) (rest/r.2.length) f (by simpa using hl) (by omega) (by omega) hdiv
  rw[e1]
  simp only[Bz,ne_eq,hne,not_false_eq_true,if_true,Ai,hjl,e2,e3,e4,CH,e5,ihx]
  rw[if_pos (by simp)]
  have e6:dg r.2.length j (rest/r.2.length)++(args.set j (rest%r.2.length)).drop j=dg r.2.length (j+1) rest++args.drop (j+1):=by
   have:(args.set j (rest%r.2.length)).drop j=(rest%r.2.length)::args.drop (j+1):=by
    rw[List.drop_eq_getElem_cons (by simp;omega),List.getElem_set_self,List.drop_set_of_lt (by omega)]
   rw[this];simp[dg]
  rw[e6]
theorem IX (h:KOk n k m op r) (set:List ByteArray) (res:List Int) (i:Int) {args:List Nat} (hl:args.length=k) (ha: ∀x∈args,x<r.2.length) {j:Nat} (hj:j<m) (t57 t58:Int):
  Bh Aa ((),(n:Int),(op.1,op.2),(r.1,r.2),set,(r.2.length:Int),cI args,res,i,(j:Int),0,t57,t58,(k:Int),0)=
   some ((n:Int),(op.1,op.2),(r.1,r.2),set,(r.2.length:Int),cI args,res,i,(j:Int),((atF n r.2 j args:Nat):Int),t57,t58):=by
 have hk3:=h.hk
 have:=CX k (λf (s:Int) q=>Bh f ((),(n:Int),(op.1,op.2),(r.1,r.2),set,(r.2.length:Int),cI args,res,i,(j:Int),s,t57,t58,(k:Int),q)) (λq=>((atF n r.2 j (args.take q):Nat):Int))
  (r:=some ((n:Int),(op.1,op.2),(r.1,r.2),set,(r.2.length:Int),cI args,res,i,(j:Int),((atF n r.2 j args:Nat):Int),t57,t58)) (λf q hq=>?_) (λf=>?_) (n:=Aa) (by unfold Aa;omega)
 ·exact this
 ·have hql:q<args.length:=by omega
  have hqc:q<(cI args).length:=by rw[Bj];exact hql
  have hg:(cI args).getD q 0=((args.getD q 0:Nat):Int):=GR hql
  have hx:args.getD q 0<r.2.length:=by rw[Ah hql];exact ha _ (List.getElem_mem _)
  obtain⟨v1,v2,v3⟩:=h.vt_lt hx hj
  have hb:=GQ h hj (args.take q) λx hx=>ha x (List.mem_of_mem_take hx)
  have hb2:n^(args.take q).length<=512:=FZ h.hn.2 (by simp;omega)
  have e:atF n r.2 j (args.take (q+1))=atF n r.2 j (args.take q)*n+vt r.2 (args.getD q 0) j:=by
   rw[List.take_succ_eq_append_getElem hql,DN,Ah hql]
  rw[e]
  simp only[Bh,decide_eq_true (show(q:Int)<(k:Int) by omega),if_true,Ai,hqc,Es,hg,hx,v2,v3,F7 h.hn.2 (show atF n r.2 j (args.take q)<=512 by omega) v1,Ag (show q<4611686018427387904 by omega)]
 ·simp only[Bh]
  rw[if_neg (by simp),←hl,List.take_length]
theorem IW (h:KOk n k m op r) (set:List ByteArray) {res:List Int} (hr:res.length=m) (i:Int) {args:List Nat} (hl:args.length=k) (ha: ∀x∈args,x<r.2.length):
  Bg Aa ((n:Int),(op.1,op.2),(r.1,r.2),set,(r.2.length:Int),cI args,res,i,(m:Int),0)=
   some ((n:Int),(op.1,op.2),(r.1,r.2),set,(r.2.length:Int),cI args,CM n op r.2 m args,i):=by
 have hm3:=h.hm
 have hcl:((cI args).length:Int)=(k:Int):=by rw[Bj,hl]
 have:=HO (List.range m) (λf o q=>Bg f ((n:Int),(op.1,op.2),(r.1,r.2),set,(r.2.length:Int),cI args,o,i,(m:Int),q)) (λj=>op.2.getD (atF n r.2 j args) 0)
  (λo=>some ((n:Int),(op.1,op.2),(r.1,r.2),set,(r.2.length:Int),cI args,o,i)) (λf o j hj ho=>?_) (λf o ho=>?_) (n:=Aa) (out:=res) (by simpa using hr) (by unfold Aa;simp;omega)
 ·exact this
 ·rw[List.length_range]at hj ho
  have h19:=IX h set o i hl ha hj (m:Int) (j:Int)
  obtain⟨v1,_,_⟩:=Gj h hl ha hj
  simp only[Bg,decide_eq_true (show(j:Int)<(m:Int) by omega),if_true,hcl,h19,Option.bind_some,Ai,v1,ho,hj,Es,CH,List.getElem_range,Ag (show j<4611686018427387904 by omega)]
 ·simp only[Bg,List.length_range]
  rw[if_neg (by simp)]
theorem E1 (h:KOk n k m op r) {a:List Nat} (hl:a.length=k) (ha: ∀x∈a,x<r.2.length):(CM n op r.2 m a).length=m/\ ∀x∈CM n op r.2 m a,0<=x/\x<(n:Int):=by
 unfold CM
 refine⟨by simp,λx hx=>?_⟩
 rw[List.mem_map]at hx
 obtain⟨j,hj,rfl⟩:=hx
 exact(Gj h hl ha (List.mem_range.1 hj)).2
theorem F6 (h:KOk n k m op r): ∀t∈r.2,∀x∈t,0<=x/\x<256:=λt ht x hx=>by have:=h.tv t ht x hx;have:=h.hn;omega
theorem Jn (h:KOk n k m op r): ∀(d i:Nat) (args:List Nat) (res:List Int) (f:Nat),i+d=r.2.length^k->d<f->args.length=k->res.length=m->
  ∃q,Bl f ((n:Int),(op.1,op.2),(r.1,r.2),De r.2,(r.2.length:Int),cI args,res,(i:Int))=some q/\
   (match q with| .inl _=>((List.range' i d).all λi=>decide (CM n op r.2 m (dg r.2.length k i)∈r.2))=true| .inr z=>z.2.2=true/\((List.range' i d).all λi=>decide (CM n op r.2 m (dg r.2.length k i)∈r.2))=false):=by
 have hk3:=h.hk
 have h8:=h.many
 have hpow:=Cb (b:=r.2.length) (k:=k) (by omega) (by omega)
 have hp8:=Gg h8 hk3.2
 intro d
 induction d with
 |zero=>
  intro i args res f hi hf _ _
  obtain⟨f,rfl⟩: ∃q,f=q+1:=⟨f-1,by omega⟩
  refine⟨.inl (),?_,by simp⟩
  simp only[Bl,h.op1,hpow,Option.bind_some]
  rw[if_neg (by rw[decide_eq_true_eq];omega)]
 |succ d ih=>
  intro i args res f hi hf hl hr
  obtain⟨f,rfl⟩: ∃q,f=q+1:=⟨f-1,by omega⟩
  have hb:0<r.2.length:=Nat.pos_of_ne_zero λe=>by
   rw[e,Nat.zero_pow (by omega)]at hi;omega
  have hdl:(dg r.2.length k i).length=k:=CN
  have hdv: ∀x∈dg r.2.length k i,x<r.2.length:=EH hb
  have h10:=IV h hb (De r.2) res (i:Int) k args i Aa hl (Nat.le_refl _) (by unfold Aa;omega) (by omega)
  have e0:dg r.2.length k i++args.drop k=dg r.2.length k i:=by rw[List.drop_of_length_le (by omega),List.append_nil]
  rw[e0]at h10
  have e1:w64 ((k:Int)-1)=(k:Int)-1:=Ax (by omega) (by omega)
  have h15:=IW h (De r.2) hr (i:Int) hdl hdv
  obtain⟨s1,s2⟩:=E1 h hdl hdv
  have s3: ∀x∈CM n op r.2 m (dg r.2.length k i),0<=x/\x<256:=λx hx=>by have:=s2 x hx;have:=h.hn;omega
  have hkey:=C1 (l:=CM n op r.2 m (dg r.2.length k i)) (by have:=h.hm;omega) s3
  have hhas:=EY (F6 h) s3
  have hrl:((res.length:Nat):Int)=(m:Int):=by rw[hr]
  rw[h.op1]at h10 h15
  rw[List.range'_succ,List.all_cons]
  simp only[Bl,h.op1,hpow,Option.bind_some,e1,h10,hrl,h15,hkey,hhas]
  rw[if_pos (by rw[decide_eq_true_eq];omega)]
  cases hc:decide (CM n op r.2 m (dg r.2.length k i)∈r.2)with
  |false=>exact⟨.inr (cI (dg r.2.length k i),CM n op r.2 m (dg r.2.length k i),true),by simp,⟨rfl,by simp⟩⟩
  |true=>
   obtain⟨q,h1,h2⟩:=ih (i+1) (dg r.2.length k i) (CM n op r.2 m (dg r.2.length k i)) f (by omega) (by omega) hdl s1
   refine⟨q,?_,by simpa using h2⟩
   rw[h.op1]at h1
   simp only[Bool.not_true,Bool.false_eq_true,if_false,Ag (show i<4611686018427387904 by omega)]
   exact h1
theorem EB (h:KOk n k m op r): ∃z,CF (n:Int) op r=some z/\z.2.2=!kB n k m op r:=by
 have hk3:=h.hk
 have hm3:=h.hm
 have hset:=DJ (r:=r) (by have:=h.many;omega) (λt ht=>⟨by have:=h.tl t ht;omega,F6 h t ht⟩)
 obtain⟨q,h1,h2⟩:=Jn h (r.2.length^k) 0 (List.replicate k 0) (List.replicate m 0) Aa (by omega) (by have:=Gg h.many hk3.2;unfold Aa;omega) (by simp) (by simp)
 have e:cI (List.replicate k 0)=List.replicate k (0:Int):=by unfold cI;simp
 rw[e]at h1
 have h1:Bl Aa ((n:Int),(op.1,op.2),(r.1,r.2),De r.2,(r.2.length:Int),List.replicate k (0:Int),List.replicate m (0:Int),0)=some q:=h1
 unfold CF
 rw[show Ch (r.1,r.2)=some (De r.2) from hset]
 simp only[Option.bind_some]
 rw[if_pos (by rw[h.op1];unfold lim;omega),if_pos (by rw[h.ar];unfold lim;omega)]
 rw[h.op1,h.ar,Int.toNat_natCast,Int.toNat_natCast]
 rw[h.op1,h.ar]at h1
 rw[h1]
 have e2:kB n k m op r=(List.range' 0 (r.2.length^k)).all λi=>decide (CM n op r.2 m (dg r.2.length k i)∈r.2):=by unfold kB;rw[List.range_eq_range']
 rw[e2]
 cases q with
 |inl x=>exact⟨([],[],false),rfl,by rw[h2];rfl⟩
 |inr x=>exact⟨_,rfl,by rw[h2.2,h2.1];rfl⟩
end
end T
open Go Go.Va
namespace T
section
variable {n k m:Nat} {op:Opn} {r:Int×List (List Int)}
theorem DL {ts:List (List Int)} {ns:List Nat} (hl:ns.length<=1048576) (hv: ∀x∈ns,x<ts.length):DH ts (cI ns)=some (ns.map λx=>ts.getD x []):=by
 unfold DH
 have:=CX ns.length (λf o i=>B9 f (ts,cI ns,o,i)) (λq=>(ns.take q).map λx=>ts.getD x []) (r:=some (ns.map λx=>ts.getD x [])) (λf q hq=>?_) (λf=>?_) (n:=Aa) (by unfold Aa;omega)
 ·simp only[List.take_zero,List.map_nil]at this
  simp only[this,Option.bind_some]
 ·have hqc:q<(cI ns).length:=by rw[Bj];exact hq
  have hg:=GR hq
  have hx:ns.getD q 0<ts.length:=by rw[Ah hq];exact hv _ (List.getElem_mem _)
  have e:(ns.take (q+1)).map (λx=>ts.getD x [])=(ns.take q).map (λx=>ts.getD x [])++ [ts.getD (ns.getD q 0) []]:=by
   rw[List.take_succ_eq_append_getElem hq,List.map_append,Ah hq];rfl
  rw[e]
  simp only[B9,Bj,decide_eq_true (show(q:Int)<(ns.length:Int) by omega),if_true,Ai,hqc,hq,Es,hg,hx,Ag (show q<4611686018427387904 by omega)]
  rw[if_pos (by unfold lim;simp;omega)]
 ·simp only[B9,Bj,List.take_length]
  rw[if_neg (by simp)]
theorem Ji (h:KOk n k m op r) {args:List Nat} (hl:args.length=k) (ha: ∀x∈args,x<r.2.length) {j:Nat} (hj:j<m) (out:List Int):
  BT Aa (0,args.map (λx=>r.2.getD x []),(m:Int),((n:Int),[(op.1,op.2)]),out,(j:Int),0,0)=some (0,args.map (λx=>r.2.getD x []),(m:Int),((n:Int),[(op.1,op.2)]),out,(j:Int),((atF n r.2 j args:Nat):Int)):=by
 have hk3:=h.hk
 have:=CX k (λf (s:Int) q=>BT f (0,args.map (λx=>r.2.getD x []),(m:Int),((n:Int),[(op.1,op.2)]),out,(j:Int),s,q)) (λq=>((atF n r.2 j (args.take q):Nat):Int))
  (r:=some (0,args.map (λx=>r.2.getD x []),(m:Int),((n:Int),[(op.1,op.2)]),out,(j:Int),((atF n r.2 j args:Nat):Int))) (λf q hq=>?_) (λf=>?_) (n:=Aa) (by unfold Aa;omega)
 ·exact this
 ·have hql:q<args.length:=by omega
  have hqm:q<(args.map λx=>r.2.getD x []).length:=by simpa using hql
  have hx:args.getD q 0<r.2.length:=by rw[Ah hql];exact ha _ (List.getElem_mem _)
  have hg:(args.map λx=>r.2.getD x []).getD q []=r.2.getD (args.getD q 0) []:=by rw[Ah hqm,Ah hql];simp
  obtain⟨v1,v2,v3⟩:=h.vt_lt hx hj
  have hb:=GQ h hj (args.take q) λx hx=>ha x (List.mem_of_mem_take hx)
  have hb2:n^(args.take q).length<=512:=FZ h.hn.2 (by simp;omega)
  have e:atF n r.2 j (args.take (q+1))=atF n r.2 j (args.take q)*n+vt r.2 (args.getD q 0) j:=by
   rw[List.take_succ_eq_append_getElem hql,DN,Ah hql]
  have hlt:(q:Int)<((args.map λx=>r.2.getD x []).length:Int):=by omega
  rw[e]
  simp only[BT,decide_eq_true hlt,if_true,Ai,hqm,Es,hg,v2,v3,F7 h.hn.2 (show atF n r.2 j (args.take q)<=512 by omega) v1,Ag (show q<4611686018427387904 by omega)]
 ·simp only[BT]
  rw[if_neg (by simp;omega),←hl,List.take_length]
theorem DA (h:KOk n k m op r) {args:List Nat} (hl:args.length=k) (ha: ∀x∈args,x<r.2.length):
  Dt (n:Int) (op.1,op.2) (args.map λx=>r.2.getD x []) r.1=some (CM n op r.2 m args):=by
 have hm3:=h.hm
 unfold Dt EP
 rw[h.ar]
 have:=CX m (λf o q=>Cf f (0,args.map (λx=>r.2.getD x []),(m:Int),((n:Int),[(op.1,op.2)]),o,q)) (λq=>(List.range q).map λj=>op.2.getD (atF n r.2 j args) 0)
  (r:=some (CM n op r.2 m args)) (λf j hj=>?_) (λf=>?_) (n:=Aa) (by unfold Aa;omega)
 ·have e:(List.range 0).map (λj=>op.2.getD (atF n r.2 j args) 0)= []:=rfl
  rw[e]at this
  dsimp only
  rw[this];rfl
 ·have h7:=Ji h hl ha hj ((List.range j).map λj=>op.2.getD (atF n r.2 j args) 0)
  obtain⟨v1,_,_⟩:=Gj h hl ha hj
  have e:(List.range (j+1)).map (λj=>op.2.getD (atF n r.2 j args) 0)=(List.range j).map (λj=>op.2.getD (atF n r.2 j args) 0)++ [op.2.getD (atF n r.2 j args) 0]:=by rw[List.range_succ,List.map_append];rfl
  have i0:inb 0 [(op.1,op.2)]:=by unfold inb;simp
  have g0:gd [(op.1,op.2)] 0 (0,[])=(op.1,op.2):=rfl
  rw[e]
  simp only[Cf,decide_eq_true (show(j:Int)<(m:Int) by omega),if_true,h7,Option.bind_some,i0,g0,Ai,v1,Es,Ag (show j<4611686018427387904 by omega)]
  rw[if_pos (by unfold lim;simp;omega)]
 ·simp only[Cf]
  rw[if_neg (by simp)];rfl
theorem Jw {b:Nat} (hb:0<b) (hb8:b<=64) (hk:k<=3): ∀(j q f:Nat),j<=k->j<f->q<b^j->
  Cw f ((b:Int),cI (dg b j q++List.replicate (k-j) 0),(j:Int)-1)=some (if q+1<b^j then .inr (cI (dg b j (q+1)++List.replicate (k-j) 0),true)else .inl (cI (List.replicate k 0))):=by
 intro j
 induction j with
 |zero=>
  intro q f _ hf hq
  obtain⟨f,rfl⟩: ∃z,f=z+1:=⟨f-1,by omega⟩
  simp only[Cw]
  rw[if_neg (by simp),if_neg (by simp)]
  simp[dg]
 |succ j ih=>
  intro q f hj hf hq
  obtain⟨f,rfl⟩: ∃z,f=z+1:=⟨f-1,by omega⟩
  have e1:((j+1:Nat):Int)-1=(j:Int):=by omega
  have hdl:(dg b j (q/b)).length=j:=CN
  have hz:List.replicate (k-j) 0=0::List.replicate (k-(j+1)) 0:=by rw[show k-j=(k-(j+1))+1 by omega,List.replicate_succ]
  have hfull:dg b (j+1) q++List.replicate (k-(j+1)) 0=dg b j (q/b)++q%b::List.replicate (k-(j+1)) 0:=by simp[dg]
  have hset: ∀y:Nat,(cI (dg b j (q/b)++q%b::List.replicate (k-(j+1)) 0)).set j (y:Int)=cI (dg b j (q/b)++y::List.replicate (k-(j+1)) 0):=λy=>by
   unfold cI
   rw[List.map_append,List.map_append,List.map_cons,List.map_cons,List.set_append_right _ _ (by simp[hdl])]
   simp[hdl]
  have hlen:j<(cI (dg b j (q/b)++q%b::List.replicate (k-(j+1)) 0)).length:=by rw[Bj];simp[hdl]
  have hget:(cI (dg b j (q/b)++q%b::List.replicate (k-(j+1)) 0)).getD j 0=((q%b:Nat):Int):=by
   rw[GR (by simp[hdl])]
   rw[Ah (by simp[hdl]),List.getElem_append_right (by omega)]
   simp[hdl]
  have hmod:q%b<b:=Nat.mod_lt _ hb
  have hdm:b*(q/b)+q%b=q:=Nat.div_add_mod q b
  have hpow:b^(j+1)=b*b^j:=by rw[Nat.pow_succ,Nat.mul_comm]
  have hqd:q/b<b^j:=by
   rcases Nat.lt_or_ge (q/b) (b^j)with h|h
   ·exact h
   ·have:b*b^j<=b*(q/b):=Nat.mul_le_mul_left _ h
    omega
  have w1:w64 ((b:Int)-1)=(b:Int)-1:=Ax (by omega) (by omega)
  have w2:w64 ((j:Int)-1)=(j:Int)-1:=Ax (by omega) (by omega)
  have hge:decide ((j:Int)≥0)=true:=by simp
  rw[e1,hfull]
  simp only[Cw,hge,if_true,Ai,hlen,Es,hget,w1,CH]
  by_cases hc:q%b+1<b
  ·have hlt:q+1<b^(j+1):=by
    have:b*(q/b+1)<=b*b^j:=Nat.mul_le_mul_left _ hqd
    rw[Nat.mul_succ]at this;omega
   have hd1:(q+1)/b=q/b:=by
    rw[Nat.div_eq_iff hb];rw[Nat.mul_comm]at hdm;constructor<;>omega
   have hm1:(q+1)%b=q%b+1:=by
    have:=Nat.div_add_mod (q+1) b
    rw[hd1]at this;omega
   have w3:w64 (((q%b:Nat):Int)+1)=((q%b+1:Nat):Int):=Ag (by omega)
   rw[if_pos (by simp;omega),w3,hset,if_pos hlt]
   simp[dg,hd1,hm1]
  ·have hlast:q%b=b-1:=by omega
   have ihx:=ih (q/b) f (by omega) (by omega) hqd
   have hset0:=hset 0
   have hset0:(cI (dg b j (q/b)++q%b::List.replicate (k-(j+1)) 0)).set j 0=cI (dg b j (q/b)++0::List.replicate (k-(j+1)) 0):=hset0
   rw[if_neg (by simp;omega),hset0,w2,←hz,ihx]
   have hq1:q+1=b*(q/b+1):=by rw[Nat.mul_succ];omega
   have hiff:q+1<b^(j+1)↔q/b+1<b^j:=by
    rw[hq1,hpow];exact Nat.mul_lt_mul_left hb
   have hd1:(q+1)/b=q/b+1:=by rw[hq1,Nat.mul_div_cancel_left _ hb]
   have hm1:(q+1)%b=0:=by rw[hq1,Nat.mul_mod_right]
   by_cases h2:q/b+1<b^j
   ·rw[if_pos h2,if_pos (hiff.2 h2)]
    have:dg b j (q/b+1)++List.replicate (k-j) 0=dg b (j+1) (q+1)++List.replicate (k-(j+1)) 0:=by
     rw[hz];simp[dg,hd1,hm1]
    rw[this]
   ·rw[if_neg h2,if_neg λh=>h2 (hiff.1 h)]
theorem Ei {b:Nat} (hb:0<b) (hb8:b<=64) (hk:k<=3) {i:Nat} (hi:i<b^k):
  Eh (cI (dg b k i)) (b:Int)=some (if i+1<b^k then(cI (dg b k (i+1)),true)else(cI (List.replicate k 0),false)):=by
 have hl:(cI (dg b k i)).length=k:=by rw[Bj,CN]
 have hown:=Ck (l:=cI (dg b k i)) (by omega)
 have w1:w64 ((k:Int)-1)=(k:Int)-1:=Ax (by omega) (by omega)
 have:=Jw (k:=k) hb hb8 hk k i Aa (Nat.le_refl _) (by unfold Aa;omega) hi
 simp only[Nat.sub_self,List.replicate_zero,List.append_nil]at this
 unfold Eh
 rw[hown]
 simp only[Option.bind_some,hl,w1,this]
 by_cases h:i+1<b^k
 ·simp[h]
 ·simp[h]
theorem Jj (h:KOk n k m op r) (hb:0<r.2.length): ∀(d i:Nat) (f:Nat),i+d+1=r.2.length^k->d+1<f->
  ∃q,Bn f ((n:Int),(op.1,op.2),(r.1,r.2),cI (dg r.2.length k i),true)=some q/\
   (match q with| .inl _=>((List.range' i (d+1)).all λi=>decide (CM n op r.2 m (dg r.2.length k i)∈r.2))=true| .inr z=>z.2.2=true/\((List.range' i (d+1)).all λi=>decide (CM n op r.2 m (dg r.2.length k i)∈r.2))=false):=by
 have hk3:=h.hk
 have hm3:=h.hm
 have h8:=h.many
 intro d
 induction d with
 |zero=>
  intro i f hi hf
  obtain⟨f,rfl⟩: ∃q,f=q+1:=⟨f-1,by omega⟩
  obtain⟨f,rfl⟩: ∃q,f=q+1:=⟨f-1,by omega⟩
  have hdl:(dg r.2.length k i).length=k:=CN
  have hdv: ∀x∈dg r.2.length k i,x<r.2.length:=EH hb
  have h1:=DL (ts:=r.2) (ns:=dg r.2.length k i) (by omega) hdv
  have h2:=DA h hdl hdv
  obtain⟨s1,_⟩:=E1 h hdl hdv
  obtain⟨c,h3,_⟩:=CV (list:=r.2) (t:=CM n op r.2 m (dg r.2.length k i)) (k:=m) (by omega) (by omega) h.tl s1 h.inc
  have hhas:BU (r.1,r.2) (CM n op r.2 m (dg r.2.length k i))=some (decide (CM n op r.2 m (dg r.2.length k i)∈r.2)):=by
   unfold BU
   rw[if_neg (by rw[h.ar,s1];simp),h3];rfl
  have h4:=Ei (k:=k) hb h8 hk3.2 (i:=i) (by omega)
  simp only[Bn,if_true,h1,h2,hhas,h4,Option.bind_some]
  rw[List.range'_succ,List.all_cons]
  cases hc:decide (CM n op r.2 m (dg r.2.length k i)∈r.2)with
  |false=>exact⟨.inr (cI (dg r.2.length k i),CM n op r.2 m (dg r.2.length k i),true),by simp,⟨rfl,by simp⟩⟩
  |true=>exact⟨.inl (),by rw[if_neg (show¬i+1<r.2.length^k by omega)];simp,by simp⟩
 |succ d ih=>
  intro i f hi hf
  obtain⟨f,rfl⟩: ∃q,f=q+1:=⟨f-1,by omega⟩
  have hdl:(dg r.2.length k i).length=k:=CN
  have hdv: ∀x∈dg r.2.length k i,x<r.2.length:=EH hb
  have h1:=DL (ts:=r.2) (ns:=dg r.2.length k i) (by omega) hdv
  have h2:=DA h hdl hdv
  obtain⟨s1,_⟩:=E1 h hdl hdv
  obtain⟨c,h3,_⟩:=CV (list:=r.2) (t:=CM n op r.2 m (dg r.2.length k i)) (k:=m) (by omega) (by omega) h.tl s1 h.inc
  have hhas:BU (r.1,r.2) (CM n op r.2 m (dg r.2.length k i))=some (decide (CM n op r.2 m (dg r.2.length k i)∈r.2)):=by
   unfold BU
   rw[if_neg (by rw[h.ar,s1];simp),h3];rfl
  have h4:=Ei (k:=k) hb h8 hk3.2 (i:=i) (by omega)
  rw[if_pos (show i+1<r.2.length^k by omega)]at h4
  obtain⟨q,g1,g2⟩:=ih (i+1) f (by omega) (by omega)
  simp only[Bn,if_true,h1,h2,hhas,h4,Option.bind_some]
  rw[List.range'_succ,List.all_cons]
  cases hc:decide (CM n op r.2 m (dg r.2.length k i)∈r.2)with
  |false=>exact⟨.inr (cI (dg r.2.length k i),CM n op r.2 m (dg r.2.length k i),true),by simp,⟨rfl,by simp⟩⟩
  |true=>exact⟨q,by simpa using g1,by simpa using g2⟩
theorem E3 (h:KOk n k m op r):C2 (n:Int) op r=some (kB n k m op r):=by
 have hk3:=h.hk
 have h8:=h.many
 unfold C2 Ev
 rw[if_pos (by rw[h.op1];unfold lim;omega)]
 rw[if_neg (by rw[h.op1];simp;omega)]
 have e:cI (List.replicate k 0)=List.replicate k (0:Int):=by unfold cI;simp
 have e2:kB n k m op r=(List.range' 0 (r.2.length^k)).all λi=>decide (CM n op r.2 m (dg r.2.length k i)∈r.2):=by unfold kB;rw[List.range_eq_range']
 by_cases hb:0<r.2.length
 ·have hp:0<r.2.length^k:=Nat.pow_pos hb
  obtain⟨q,g1,g2⟩:=Jj h hb (r.2.length^k-1) 0 Aa (by omega) (by have:=Gg h8 hk3.2;unfold Aa;omega)
  rw[G5,e,h.op1]at g1
  have hp':r.2.length^k-1+1=r.2.length^k:=by omega
  rw[hp']at g2
  have hd:decide ((r.2.length:Int)>0)=true:=by simp;omega
  dsimp only
  rw[hd,h.op1,Int.toNat_natCast,g1,e2]
  simp only[Option.bind_some]
  cases q with
  |inl x=>dsimp only at g2⊢;rw[g2];rfl
  |inr x=>dsimp only at g2⊢;rw[g2.2];simp[g2.1]
 ·have h0:r.2.length=0:=by omega
  have hd:decide ((r.2.length:Int)>0)=false:=decide_eq_false (by omega)
  obtain⟨f,hf⟩: ∃f,Aa=f+1:=⟨Aa-1,rfl⟩
  have hz:r.2.length^k=0:=by rw[h0];exact Nat.zero_pow (show 0<k by omega)
  rw[e2,hz]
  dsimp only
  rw[hd,hf]
  simp[Bn]
end
end T
set_option linter.unusedVariables false
open Go Go.Va
namespace T
def Dm (n_:Int):Option (Bool):=
 (Cj n_ 1 4).bind λr1=>
 some r1
def Bi:Nat->(Int×(List (Int×(List (List Int))))×Int)->Option ((Unit)⊕(Bool))
 |0,_=>none
 |n+1,(n_,rels,i)=>
 if decide (i<(rels.length:Int))then
 if inb i rels then
 (DW n_ (gd rels i (0,[]))).bind λr1=>
 if !r1 then
 some (.inr false)
 else
 Bi n (n_,rels,w64 (i+1))
 else none
 else
 some (.inl ())
def CT (n_:Int) (rels:List (Int×(List (List Int)))):Option (Bool):=
 if decide ((rels.length:Int)>4)then
  some false
 else
  (Bi Aa (n_,rels,0)).bind λs1=>
   match s1 with
   | .inl s2=>
    some true
   | .inr s3=>
    some s3
def BH:Nat->((List (Int×(List (List Int))))×Int×Int)->Option ((Unit)⊕(Bool))
 |0,_=>none
 |n+1,(rels,k,i)=>
 if decide (i<(rels.length:Int))then
 if k==3 then
 if inb i rels then
 if decide ((((gd rels i (0,[])).2).length:Int)>12)then
 some (.inr false)
 else
 BH n (rels,k,w64 (i+1))
 else none
 else
 BH n (rels,k,w64 (i+1))
 else
 some (.inl ())
def C4 (n_:Int) (rels:List (Int×(List (List Int)))) (k:Int):Option (Bool):=
 (Dm n_).bind λr1=>
  if !r1 then
   some false
  else
   (CT n_ rels).bind λr2=>
    if !r2 then
     some false
    else
     (Cj k 1 3).bind λr3=>
      if !r3 then
       some false
      else
       (BH Aa (rels,k,0)).bind λs4=>
        match s4 with
        | .inl s5=>
         some true
        | .inr s6=>
         some s6
def CE (n_:Int) (rels:List (Int×(List (List Int)))) (k:Int):Option (Bool):=
 (C4 n_ rels k).bind λr1=>
 if r1 then
 (AS n_ k).bind λr2=>
 some (decide (r2<=9))
 else
 some false
def BR:Nat->(Int×(List Int)×Int)->Option ((List Int))
 |0,_=>none
 |n+1,(size,out,i)=>
 if decide (i<size)then
 if out.length+ [(-1)].length<=lim then
 BR n (size,out++ [(-1)],w64 (i+1))
 else none
 else
 some out
def CS (size:Int):Option ((List Int)):=
 (BR Aa (size,[],0)).bind λs1=>
 some s1
def Cu:Nat->(Int×Int×(List Int)×Int)->Option ((List Int))
 |0,_=>none
 |n+1,(n_,at_,out,i)=>
 if decide (i≥0)then
 if n_≠0 then
 if inb i out then
 if n_≠0 then
 Cu n (n_,w64 (Int.tdiv at_ n_),stt out i (Int.tmod at_ n_),w64 (i-1))
 else none
 else none
 else none
 else
 some out
def Db (n_:Int) (arity:Int) (at_:Int):Option ((List Int)):=
 if 0<=arity/\arity<=arity/\arity<=lim then
 (Cu Aa (n_,at_,List.replicate (Int.toNat arity) (0:Int),w64 (arity-1))).bind λs1=>
 some s1
 else none
def CL (a:Int) (b:Int):Option (Int):=
 if decide (a>b)then
 some a
 else
 some b
def BF:Nat->(Int×(List (Int×(List (List Int))))×Int×(List (List ((List Int)×Int×(List (List Int)))))×Int)->Option (Int×(List (Int×(List (List Int))))×Int×(List (List ((List Int)×Int×(List (List Int))))))
 |0,_=>none
 |n+1,(t0,t1,t2,t7,t8)=>
 (AS t0 t2).bind λr1=>
 if decide (t8<r1)then
 if t7.length+([[]]:List (List ((List Int)×Int×(List (List Int))))).length<=lim then
 BF n (t0,t1,t2,t7++ [[]],w64 (t8+1))
 else none
 else
 some (t0,t1,t2,t7)
def By:Nat->(Int×(List (Int×(List (List Int))))×Int×(List (List ((List Int)×Int×(List (List Int)))))×Int×Int×Int×(List Int)×((List Int)×(Int×(List (List Int))))×Int×Int×Int×Int)->Option (Int×(List (Int×(List (List Int))))×Int×(List (List ((List Int)×Int×(List (List Int)))))×Int×Int×Int×(List Int)×((List Int)×(Int×(List (List Int))))×Int×Int×Int)
 |0,_=>none
 |n+1,(t0,t1,t2,t7,t9,t10,t11,t12,t13,t14,t15,t16,t17)=>
 if decide (t17<t2)then
 if inb t9 t1 then
 if inb t17 t12 then
 if inb (gd t12 t17 0) ((gd t1 t9 (0,[])).2)then
 if inb t15 (gd ((gd t1 t9 (0,[])).2) (gd t12 t17 0) [])then
 By n (t0,t1,t2,t7,t9,t10,t11,t12,(t13.1,(t13.2.1,t13.2.2)),t14,t15,w64 ((w64 (t16*t0))+(gd (gd ((gd t1 t9 (0,[])).2) (gd t12 t17 0) []) t15 0)),w64 (t17+1))
 else none
 else none
 else none
 else none
 else
 some (t0,t1,t2,t7,t9,t10,t11,t12,(t13.1,(t13.2.1,t13.2.2)),t14,t15,t16)
def Bx:Nat->(Int×(List (Int×(List (List Int))))×Int×(List (List ((List Int)×Int×(List (List Int)))))×Int×Int×Int×(List Int)×((List Int)×(Int×(List (List Int))))×Int×Int)->Option (Int×(List (Int×(List (List Int))))×Int×(List (List ((List Int)×Int×(List (List Int)))))×Int×Int×Int×((List Int)×(Int×(List (List Int))))×Int)
 |0,_=>none
 |n+1,(t0,t1,t2,t7,t9,t10,t11,t12,t13,t14,t15)=>
 if inb t9 t1 then
 if decide (t15<((gd t1 t9 (0,[])).1))then
 (By Aa (t0,t1,t2,t7,t9,t10,t11,t12,(t13.1,(t13.2.1,t13.2.2)),t14,t15,0,0)).bind λs5=>
 if s5.2.2.2.2.2.2.2.2.1.1.length+ [s5.2.2.2.2.2.2.2.2.2.2.2].length<=lim then
 (CL s5.2.2.2.2.2.2.2.2.2.1 s5.2.2.2.2.2.2.2.2.2.2.2).bind λr6=>
 Bx n (s5.1,s5.2.1,s5.2.2.1,s5.2.2.2.1,s5.2.2.2.2.1,s5.2.2.2.2.2.1,s5.2.2.2.2.2.2.1,s5.2.2.2.2.2.2.2.1,(s5.2.2.2.2.2.2.2.2.1.1++ [s5.2.2.2.2.2.2.2.2.2.2.2],(s5.2.2.2.2.2.2.2.2.1.2.1,s5.2.2.2.2.2.2.2.2.1.2.2)),r6,w64 (s5.2.2.2.2.2.2.2.2.2.2.1+1))
 else none
 else
 some (t0,t1,t2,t7,t9,t10,t11,(t13.1,(t13.2.1,t13.2.2)),t14)
 else none
def Bw:Nat->(Int×(List (Int×(List (List Int))))×Int×(List (List ((List Int)×Int×(List (List Int)))))×Int×Int×Int)->Option (Int×(List (Int×(List (List Int))))×Int×(List (List ((List Int)×Int×(List (List Int)))))×Int)
 |0,_=>none
 |n+1,(t0,t1,t2,t7,t9,t10,t11)=>
 (AS t10 t2).bind λr3=>
 if decide (t11<r3)then
 (Db t10 t2 t11).bind λr4=>
 if inb t9 t1 then
 (Bx Aa (t0,t1,t2,t7,t9,t10,t11,r4,([],((gd t1 t9 (0,[])).1,(gd t1 t9 (0,[])).2)),0,0)).bind λs5=>
 if inb s5.2.2.2.2.2.2.2.2 s5.2.2.2.1 then
 if(gd s5.2.2.2.1 s5.2.2.2.2.2.2.2.2 []).length+ [(s5.2.2.2.2.2.2.2.1.1,(s5.2.2.2.2.2.2.2.1.2.1,s5.2.2.2.2.2.2.2.1.2.2))].length<=lim then
 if inb s5.2.2.2.2.2.2.2.2 s5.2.2.2.1 then
 if s5.2.2.2.2.2.2.2.2=s5.2.2.2.2.2.2.2.2 then
 Bw n (s5.1,s5.2.1,s5.2.2.1,stt s5.2.2.2.1 s5.2.2.2.2.2.2.2.2 ((gd s5.2.2.2.1 s5.2.2.2.2.2.2.2.2 [])++ [(s5.2.2.2.2.2.2.2.1.1,(s5.2.2.2.2.2.2.2.1.2.1,s5.2.2.2.2.2.2.2.1.2.2))]),s5.2.2.2.2.1,s5.2.2.2.2.2.1,w64 (s5.2.2.2.2.2.2.1+1))
 else none
 else none
 else none
 else none
 else none
 else
 some (t0,t1,t2,t7,t9)
def BG:Nat->(Int×(List (Int×(List (List Int))))×Int×(List (List ((List Int)×Int×(List (List Int)))))×Int)->Option ((List (List ((List Int)×Int×(List (List Int))))))
 |0,_=>none
 |n+1,(t0,t1,t2,t7,t9)=>
 if decide (t9<(t1.length:Int))then
 if inb t9 t1 then
 (Bw Aa (t0,t1,t2,t7,t9,(((gd t1 t9 (0,[])).2).length:Int),0)).bind λs3=>
 BG n (s3.1,s3.2.1,s3.2.2.1,s3.2.2.2.1,w64 (s3.2.2.2.2+1))
 else none
 else
 some t7
def DE (t0:Int) (t1:List (Int×(List (List Int)))) (t2:Int):Option ((List (List ((List Int)×Int×(List (List Int)))))):=
 (BF Aa (t0,t1,t2,[],0)).bind λs1=>
 (BG Aa (s1.1,s1.2.1,s1.2.2.1,s1.2.2.2,0)).bind λs2=>
 some s2
def BE:Nat->((List ((List Int)×Int×(List (List Int))))×(List Int)×Int×(List Int)×Int)->Option ((List ((List Int)×Int×(List (List Int))))×(List Int)×Int×(List Int))
 |0,_=>none
 |n+1,(needs,table,i,t,k)=>
 if inb i needs then
 if decide (k<(((gd needs i ([],(0,[]))).1).length:Int))then
 if inb i needs then
 if inb k ((gd needs i ([],(0,[]))).1)then
 if inb (gd ((gd needs i ([],(0,[]))).1) k 0) table then
 if t.length+ [gd table (gd ((gd needs i ([],(0,[]))).1) k 0) 0].length<=lim then
 BE n (needs,table,i,t++ [gd table (gd ((gd needs i ([],(0,[]))).1) k 0) 0],w64 (k+1))
 else none
 else none
 else none
 else none
 else
 some (needs,table,i,t)
 else none
def BD:Nat->((List ((List Int)×Int×(List (List Int))))×(List Int)×Int)->Option ((Unit)⊕(Bool))
 |0,_=>none
 |n+1,(needs,table,i)=>
 if decide (i<(needs.length:Int))then
 (BE Aa (needs,table,i,[],0)).bind λs1=>
 if inb s1.2.2.1 s1.1 then
 (BU ((gd s1.1 s1.2.2.1 ([],(0,[]))).2) s1.2.2.2).bind λr2=>
 if !r2 then
 some (.inr false)
 else
 BD n (s1.1,s1.2.1,w64 (s1.2.2.1+1))
 else none
 else
 some (.inl ())
def CD (needs:List ((List Int)×Int×(List (List Int)))) (table:List Int):Option (Bool):=
 (BD Aa (needs,table,0)).bind λs1=>
  match s1 with
  | .inl s2=>
   some true
  | .inr s3=>
   some s3
def Ao (rec:(Int×(List (List ((List Int)×Int×(List (List Int)))))×(List Int)×(List Int)×((List (List Int))×(Int×Int)))->Option (((List (List Int))×(Int×Int)))):Nat->(Int×(List (List ((List Int)×Int×(List (List Int)))))×(List Int)×(List Int)×((List (List Int))×(Int×Int))×((List (List Int))×(Int×Int))×Int×Int)->Option ((((List (List Int))×(Int×Int))×((List (List Int))×(Int×Int)))⊕(((List (List Int))×(Int×Int))))
 |0,_=>none
 |n+1,(t0,t1,t2,t3,t9,t10,t11,t12)=>
 if decide (t12<t0)then
 if inb t11 t2 then
 if decide ((gd t2 t11 0)≥0)then
 if inb t11 t2 then
 if(gd t2 t11 0) !=t12 then
 Ao rec n (t0,t1,t2,t3,(t9.1,(t9.2.1,t9.2.2)),(t10.1,(t10.2.1,t10.2.2)),t11,w64 (t12+1))
 else
 (Cc t3).bind λr2=>
 if r2.length+ [t12].length<=lim then
 if inb t11 t1 then
 (CD (gd t1 t11 []) (r2++ [t12])).bind λr3=>
 if r3 then
 (rec (t0,t1,t2,r2++ [t12],(t9.1,(t9.2.1,t9.2.2)))).bind λr4=>
 if r4.2.2==1 then
 if decide (r4.2.1>0)then
 some (.inr (r4.1,(r4.2.1,r4.2.2)))
 else
 Ao rec n (t0,t1,t2,t3,(r4.1,(r4.2.1,r4.2.2)),(t10.1,(t10.2.1,t10.2.2)),t11,w64 (t12+1))
 else
 Ao rec n (t0,t1,t2,t3,(r4.1,(r4.2.1,r4.2.2)),(t10.1,(t10.2.1,t10.2.2)),t11,w64 (t12+1))
 else
 if t9.2.2==1 then
 if decide (t9.2.1>0)then
 some (.inr (t9.1,(t9.2.1,t9.2.2)))
 else
 Ao rec n (t0,t1,t2,t3,(t9.1,(t9.2.1,t9.2.2)),(t10.1,(t10.2.1,t10.2.2)),t11,w64 (t12+1))
 else
 Ao rec n (t0,t1,t2,t3,(t9.1,(t9.2.1,t9.2.2)),(t10.1,(t10.2.1,t10.2.2)),t11,w64 (t12+1))
 else none
 else none
 else none
 else
 (Cc t3).bind λr5=>
 if r5.length+ [t12].length<=lim then
 if inb t11 t1 then
 (CD (gd t1 t11 []) (r5++ [t12])).bind λr6=>
 if r6 then
 (rec (t0,t1,t2,r5++ [t12],(t9.1,(t9.2.1,t9.2.2)))).bind λr7=>
 if r7.2.2==1 then
 if decide (r7.2.1>0)then
 some (.inr (r7.1,(r7.2.1,r7.2.2)))
 else
 Ao rec n (t0,t1,t2,t3,(r7.1,(r7.2.1,r7.2.2)),(t10.1,(t10.2.1,t10.2.2)),t11,w64 (t12+1))
 else
 Ao rec n (t0,t1,t2,t3,(r7.1,(r7.2.1,r7.2.2)),(t10.1,(t10.2.1,t10.2.2)),t11,w64 (t12+1))
 else
 if t9.2.2==1 then
 if decide (t9.2.1>0)then
 some (.inr (t9.1,(t9.2.1,t9.2.2)))
 else
 Ao rec n (t0,t1,t2,t3,(t9.1,(t9.2.1,t9.2.2)),(t10.1,(t10.2.1,t10.2.2)),t11,w64 (t12+1))
 else
 Ao rec n (t0,t1,t2,t3,(t9.1,(t9.2.1,t9.2.2)),(t10.1,(t10.2.1,t10.2.2)),t11,w64 (t12+1))
 else none
 else none
 else none
 else
 some (.inl ((t9.1,(t9.2.1,t9.2.2)),(t10.1,(t10.2.1,t10.2.2))))
def Df (rec:(Int×(List (List ((List Int)×Int×(List (List Int)))))×(List Int)×(List Int)×((List (List Int))×(Int×Int)))->Option (((List (List Int))×(Int×Int)))) (t0:Int) (t1:List (List ((List Int)×Int×(List (List Int))))) (t2:List Int) (t3:List Int) (t4:(List (List Int))×(Int×Int)):Option (((List (List Int))×(Int×Int))):=
 if(t3.length:Int)==(t1.length:Int)then
  if decide ((t4.1.length:Int)<t4.2.2)then
   (Cc t3).bind λr1=>
    if t4.1.length+ [r1].length<=lim then
     some (t4.1++ [r1],(w64 (t4.2.1+1),t4.2.2))
    else none
  else
   some (t4.1,(w64 (t4.2.1+1),t4.2.2))
 else
  (Ao rec Aa (t0,t1,t2,t3,(t4.1,(t4.2.1,t4.2.2)),([],(0,0)),(t3.length:Int),0)).bind λs2=>
   match s2 with
   | .inl s3=>
    some (s3.1.1,(s3.1.2.1,s3.1.2.2))
   | .inr s4=>
    some (s4.1,(s4.2.1,s4.2.2))
def Bp:Nat->(Int×(List (List ((List Int)×Int×(List (List Int)))))×(List Int)×(List Int)×((List (List Int))×(Int×Int)))->Option (((List (List Int))×(Int×Int)))
 |0,_=>none
 |d+1,x=>Df (Bp d) x.1 x.2.1 x.2.2.1 x.2.2.2.1 x.2.2.2.2
def BV (n_:Int) (rels:List (Int×(List (List Int)))) (k:Int) (fixed:List Int) (most:Int):Option (((List (List Int))×(Int×Int))):=
 (DE n_ rels k).bind λr1=>
 (Bp Aa (n_,r1,fixed,[],([],(0,most)))).bind λr2=>
 some (r2.1,(r2.2.1,r2.2.2))
def B8:Nat->(Int×(List (List Int))×(List (Int×(List Int)))×Int)->Option ((List (Int×(List Int))))
 |0,_=>none
 |n+1,(k,tables,out,i)=>
 if decide (i<(tables.length:Int))then
 if inb i tables then
 (Cc (gd tables i [])).bind λr1=>
 if out.length+ [(k,r1)].length<=lim then
 B8 n (k,tables,out++ [(k,r1)],w64 (i+1))
 else none
 else none
 else
 some out
def Dz (k:Int) (tables:List (List Int)):Option ((List (Int×(List Int)))):=
 (B8 Aa (k,tables,[],0)).bind λs1=>
 some s1
def Cs (n_:Int) (rels:List (Int×(List (List Int)))) (k:Int):Option ((List (Int×(List Int)))×Bool):=
 (CE n_ rels k).bind λr1=>
 if !r1 then
 some ([],false)
 else
 (AS n_ k).bind λr2=>
 (CS r2).bind λr3=>
 (BV n_ rels k r3 300).bind λr4=>
 if decide (r4.2.1>300)then
 some ([],false)
 else
 (Dz k r4.1).bind λr5=>
 some (r5,true)
def BK:Nat->(Int×(List (Int×(List (List Int))))×Int×Int)->Option ((Unit)⊕(Bool))
 |0,_=>none
 |n+1,(n_,t10,t11,t12)=>
 if decide (t12<t11)then
 if inb t12 t10 then
 (Dd n_ ((gd t10 t12 (0,[])).1,(gd t10 t12 (0,[])).2)).bind λr1=>
 if !r1 then
 some (.inr false)
 else
 BK n (n_,t10,t11,w64 (t12+1))
 else none
 else
 some (.inl ())
def DZ (n_:Int) (rels:List (Int×(List (List Int)))):Option (Bool):=
 if decide ((rels.length:Int)>4)then
  some false
 else
  (BK Aa (n_,rels,(rels.length:Int),0)).bind λs1=>
   match s1 with
   | .inl s2=>
    some true
   | .inr s3=>
    some s3
def B3:Nat->(Int×(List (Int×(List (List Int))))×Int×Int)->Option ((Unit)⊕(Bool))
 |0,_=>none
 |n+1,(k,t18,t19,t20)=>
 if decide (t20<t19)then
 if inb t20 t18 then
 if k==3 then
 if decide ((((gd t18 t20 (0,[])).2).length:Int)>12)then
 some (.inr false)
 else
 B3 n (k,t18,t19,w64 (t20+1))
 else
 B3 n (k,t18,t19,w64 (t20+1))
 else none
 else
 some (.inl ())
def CK (n_:Int) (rels:List (Int×(List (List Int)))) (k:Int):Option (Bool):=
 (Di n_).bind λr1=>
  if !r1 then
   some false
  else
   (DZ n_ rels).bind λr2=>
    if !r2 then
     some false
    else
     (B3 Aa (k,rels,(rels.length:Int),0)).bind λs3=>
      match s3 with
      | .inl s4=>
       some true
      | .inr s5=>
       some s5
def B4 (n_:Int) (k:Int):Option (Bool):=
 if decide (k≥1)then
 if decide (k<=3)then
 (Bd n_ k).bind λr1=>
 some (decide (r1<=9))
 else
 some false
 else
 some false
def Bu:Nat->((List Int)×Int×Int)->Option ((List Int))
 |0,_=>none
 |n+1,(list,t8,t9)=>
 if decide (t9<t8)then
 if inb t9 list then
 Bu n (stt list t9 (-1),t8,w64 (t9+1))
 else none
 else
 some list
def CP (many:Int):Option ((List Int)):=
 if 0<=many/\many<=many/\many<=lim then
 (Bu Aa (List.replicate (Int.toNat many) (0:Int),((List.replicate (Int.toNat many) (0:Int)).length:Int),0)).bind λs1=>
 some s1
 else none
def Cp:Nat->(Int×Int×(List Int)×Int)->Option ((List Int))
 |0,_=>none
 |n+1,(i,n_,args,j)=>
 if decide (j≥0)then
 if n_≠0 then
 if inb j args then
 if n_≠0 then
 Cp n (w64 (Int.tdiv i n_),n_,stt args j (Int.tmod i n_),w64 (j-1))
 else none
 else none
 else none
 else
 some args
def D7 (i:Int) (k:Int) (n_:Int):Option ((List Int)):=
 if 0<=k/\k<=k/\k<=lim then
 (Cp Aa (i,n_,List.replicate (Int.toNat k) (0:Int),w64 (k-1))).bind λs1=>
 some s1
 else none
def AU:Nat->(Unit×Int×Int×(Int×(Int×(List (List ((List Int)×(List ByteArray))))))×(Int×(List (List Int)))×(List ByteArray)×(List ByteArray)×Int×(List Int)×(List Int)×Int×Int×(List (Int×(List (List Int))))×Int×Int×Int×Int×Int×Int)->Option (Int×Int×(Int×(Int×(List (List ((List Int)×(List ByteArray))))))×(Int×(List (List Int)))×(List ByteArray)×(List ByteArray)×Int×(List Int)×(List Int)×Int×Int×(List (Int×(List (List Int))))×Int×Int×Int×Int)
 |0,_=>none
 |n+1,(al60,t0,t2,t7,t9,t10,t11,t12,t13,t14,t15,t16,t28,t29,t30,t56,t57,t61,t62)=>
 if decide (t62<t61)then
 if inb t62 t13 then
 if inb t16 t14 then
 if inb (gd t13 t62 0) t9.2 then
 if inb t16 (gd t9.2 (gd t13 t62 0) [])then
 if inb t16 t14 then
 AU n ((),t0,t2,(t7.1,(t7.2.1,t7.2.2)),(t9.1,t9.2),t10,t11,t12,t13,stt t14 t16 (w64 ((w64 ((gd t14 t16 0)*t0))+(gd (gd t9.2 (gd t13 t62 0) []) t16 0))),t15,t16,t28,t29,t30,t56,t57,t61,w64 (t62+1))
 else none
 else none
 else none
 else none
 else none
 else
 some (t0,t2,(t7.1,(t7.2.1,t7.2.2)),(t9.1,t9.2),t10,t11,t12,t13,t14,t15,t16,t28,t29,t30,t56,t57)
def AT:Nat->(Int×Int×(Int×(Int×(List (List ((List Int)×(List ByteArray))))))×(Int×(List (List Int)))×(List ByteArray)×(List ByteArray)×Int×(List Int)×(List Int)×Int×(List (Int×(List (List Int))))×Int×Int×Int×Int)->Option (Int×Int×(Int×(Int×(List (List ((List Int)×(List ByteArray))))))×(Int×(List (List Int)))×(List ByteArray)×(List ByteArray)×Int×(List Int)×Int×(List (Int×(List (List Int))))×Int×Int)
 |0,_=>none
 |n+1,(t0,t2,t7,t9,t10,t11,t12,t13,t14,t15,t28,t29,t30,t56,t57)=>
 if decide (t57<t56)then
 (AU Aa ((),t0,t2,(t7.1,(t7.2.1,t7.2.2)),(t9.1,t9.2),t10,t11,t12,t13,t14,t15,t57,t28,t29,t30,t56,t57,(t13.length:Int),0)).bind λs5=>
 if inb s5.2.2.2.2.2.2.2.2.2.2.1 s5.2.2.2.2.2.2.2.2.1 then
 AT n (s5.1,s5.2.1,(s5.2.2.1.1,(s5.2.2.1.2.1,s5.2.2.1.2.2)),(s5.2.2.2.1.1,s5.2.2.2.1.2),s5.2.2.2.2.1,s5.2.2.2.2.2.1,s5.2.2.2.2.2.2.1,s5.2.2.2.2.2.2.2.1,s5.2.2.2.2.2.2.2.2.1,Yiv s5.2.2.2.2.2.2.2.2.2.1 (gd s5.2.2.2.2.2.2.2.2.1 s5.2.2.2.2.2.2.2.2.2.2.1 0),s5.2.2.2.2.2.2.2.2.2.2.2.1,s5.2.2.2.2.2.2.2.2.2.2.2.2.1,s5.2.2.2.2.2.2.2.2.2.2.2.2.2.1,s5.2.2.2.2.2.2.2.2.2.2.2.2.2.2.1,w64 (s5.2.2.2.2.2.2.2.2.2.2.2.2.2.2.2+1))
 else none
 else
 some (t0,t2,(t7.1,(t7.2.1,t7.2.2)),(t9.1,t9.2),t10,t11,t12,t14,t15,t28,t29,t30)
def AM:Nat->(Int×Int×(Int×(Int×(List (List ((List Int)×(List ByteArray))))))×(Int×(List (List Int)))×(List ByteArray)×(List ByteArray)×Int×(List (Int×(List (List Int))))×Int×Int)->Option (Int×Int×(Int×(Int×(List (List ((List Int)×(List ByteArray))))))×(List (Int×(List (List Int))))×Int×Int)
 |0,_=>none
 |n+1,(t0,t2,t7,t9,t10,t11,t12,t28,t29,t30)=>
 (Bd (t9.2.length:Int) t2).bind λr3=>
 if decide (t12<r3)then
 (D7 t12 t2 (t9.2.length:Int)).bind λr4=>
 if 0<=t9.1/\t9.1<=t9.1/\t9.1<=lim then
 (AT Aa (t0,t2,(t7.1,(t7.2.1,t7.2.2)),(t9.1,t9.2),t10,t11,t12,r4,List.replicate (Int.toNat t9.1) (0:Int),0,t28,t29,t30,((List.replicate (Int.toNat t9.1) (0:Int)).length:Int),0)).bind λs5=>
 (Cr s5.2.2.2.2.2.2.2.1).bind λr6=>
 if !(Xs s5.2.2.2.2.2.1 r6)then
 if inb s5.2.2.2.2.2.2.2.2.1 s5.2.2.1.2.2 then
 if(gd s5.2.2.1.2.2 s5.2.2.2.2.2.2.2.2.1 []).length+ [(s5.2.2.2.2.2.2.2.1,s5.2.2.2.2.1)].length<=lim then
 if inb s5.2.2.2.2.2.2.2.2.1 s5.2.2.1.2.2 then
 if s5.2.2.2.2.2.2.2.2.1=s5.2.2.2.2.2.2.2.2.1 then
 AM n (s5.1,s5.2.1,(s5.2.2.1.1,(s5.2.2.1.2.1,stt s5.2.2.1.2.2 s5.2.2.2.2.2.2.2.2.1 ((gd s5.2.2.1.2.2 s5.2.2.2.2.2.2.2.2.1 [])++ [(s5.2.2.2.2.2.2.2.1,s5.2.2.2.2.1)]))),(s5.2.2.2.1.1,s5.2.2.2.1.2),s5.2.2.2.2.1,YhI s5.2.2.2.2.2.1 r6,w64 (s5.2.2.2.2.2.2.1+1),s5.2.2.2.2.2.2.2.2.2.1,s5.2.2.2.2.2.2.2.2.2.2.1,s5.2.2.2.2.2.2.2.2.2.2.2)
 else none
 else none
 else none
 else none
 else
 AM n (s5.1,s5.2.1,(s5.2.2.1.1,(s5.2.2.1.2.1,s5.2.2.1.2.2)),(s5.2.2.2.1.1,s5.2.2.2.1.2),s5.2.2.2.2.1,s5.2.2.2.2.2.1,w64 (s5.2.2.2.2.2.2.1+1),s5.2.2.2.2.2.2.2.2.2.1,s5.2.2.2.2.2.2.2.2.2.2.1,s5.2.2.2.2.2.2.2.2.2.2.2)
 else none
 else
 some (t0,t2,(t7.1,(t7.2.1,t7.2.2)),t28,t29,t30)
def A8:Nat->(Int×Int×(Int×(Int×(List (List ((List Int)×(List ByteArray))))))×(List (Int×(List (List Int))))×Int×Int)->Option ((Int×(Int×(List (List ((List Int)×(List ByteArray)))))))
 |0,_=>none
 |n+1,(t0,t2,t7,t28,t29,t30)=>
 if decide (t30<t29)then
 if inb t30 t28 then
 (Ch ((gd t28 t30 (0,[])).1,(gd t28 t30 (0,[])).2)).bind λr2=>
 (AM Aa (t0,t2,(t7.1,(t7.2.1,t7.2.2)),((gd t28 t30 (0,[])).1,(gd t28 t30 (0,[])).2),r2,[],0,t28,t29,t30)).bind λs3=>
 A8 n (s3.1,s3.2.1,(s3.2.2.1.1,(s3.2.2.1.2.1,s3.2.2.1.2.2)),s3.2.2.2.1,s3.2.2.2.2.1,w64 (s3.2.2.2.2.2+1))
 else none
 else
 some (t7.1,(t7.2.1,t7.2.2))
def BL (t0:Int) (t1:List (Int×(List (List Int)))) (t2:Int):Option ((Bool×Int×Int×(List (List ((List Int)×(List ByteArray)))))):=
 (Bd t0 t2).bind λr1=>
 if 0<=r1/\r1<=r1/\r1<=lim then
 (A8 Aa (t0,t2,(t0,(t2,List.replicate (Int.toNat r1) ([]:List ((List Int)×(List ByteArray))))),t1,(t1.length:Int),0)).bind λs2=>
 some (true,(s2.1,(s2.2.1,s2.2.2)))
 else none
def CY (list:List Int):Option ((List Int)):=
 if([]:List Int).length+list.length<=lim then
 some ([]++list)
 else none
def Co (table:List Int) (t1:List (Int×(List Int))) (t2:Int):Option ((List (Int×(List Int)))×Int×Bool):=
 (CY table).bind λr1=>
 if t1.length+ [(t2,r1)].length<=lim then
 some (t1++ [(t2,r1)],t2,decide (((t1++ [(t2,r1)]).length:Int)<=300))
 else none
def AB:Nat->((List Int)×(List ((List Int)×(List ByteArray)))×Int×Int)->Option ((Unit)⊕(Bool))
 |0,_=>none
 |n+1,(table,t15,t16,t17)=>
 if decide (t17<t16)then
 if inb t17 t15 then
 (CO ((gd t15 t17 ([],[])).1) table).bind λr1=>
 (Cr r1).bind λr2=>
 if !(Xs ((gd t15 t17 ([],[])).2) r2)then
 some (.inr false)
 else
 AB n (table,t15,t16,w64 (t17+1))
 else none
 else
 some (.inl ())
def Am (s:Bool×Int×Int×(List (List ((List Int)×(List ByteArray))))) (table:List Int) (at_:Int):Option (Bool):=
 if s.1=true then
  if inb at_ s.2.2.2 then
   (AB Aa (table,gd s.2.2.2 at_ [],((gd s.2.2.2 at_ []).length:Int),0)).bind λs1=>
    match s1 with
    | .inl s2=>
     some true
    | .inr s3=>
     some s3
  else none
 else none
def Af (rec:(Int×(List Int)×((List (Int×(List Int)))×Int)×(Bool×Int×Int×(List (List ((List Int)×(List ByteArray)))))×(List Int)×Unit)->Option ((List Int)×((List (Int×(List Int)))×Int)×(Bool×Int×Int×(List (List ((List Int)×(List ByteArray)))))×(List Int)×Bool)):Nat->(Int×(List Int)×((List (Int×(List Int)))×Int)×(Bool×Int×Int×(List (List ((List Int)×(List ByteArray)))))×(List Int)×Unit×Int)->Option (((List Int)×((List (Int×(List Int)))×Int)×(Bool×Int×Int×(List (List ((List Int)×(List ByteArray)))))×(List Int)×Unit)⊕((List Int)×((List (Int×(List Int)))×Int)×(Bool×Int×Int×(List (List ((List Int)×(List ByteArray)))))×(List Int)×Unit×Bool))
 |0,_=>none
 |n+1,(at_,t1,t2,t3,t4,t5,x)=>
 if t3.1=true then
 if decide (x<t3.2.1)then
 if inb at_ t4 then
 if decide ((gd t4 at_ 0)≥0)then
 if inb at_ t4 then
 if(gd t4 at_ 0) !=x then
 Af rec n (at_,t1,(t2.1,t2.2),t3,t4,(),w64 (x+1))
 else
 if inb at_ t1 then
 (Am t3 (stt t1 at_ x) at_).bind λr2=>
 if r2 then
 (rec (w64 (at_+1),stt t1 at_ x,(t2.1,t2.2),t3,t4,())).bind λr3=>
 if !r3.2.2.2.2 then
 some (.inr (r3.1,(r3.2.1.1,r3.2.1.2),r3.2.2.1,r3.2.2.2.1,(),false))
 else
 Af rec n (at_,r3.1,(r3.2.1.1,r3.2.1.2),r3.2.2.1,r3.2.2.2.1,(),w64 (x+1))
 else
 Af rec n (at_,stt t1 at_ x,(t2.1,t2.2),t3,t4,(),w64 (x+1))
 else none
 else none
 else
 if inb at_ t1 then
 (Am t3 (stt t1 at_ x) at_).bind λr4=>
 if r4 then
 (rec (w64 (at_+1),stt t1 at_ x,(t2.1,t2.2),t3,t4,())).bind λr5=>
 if !r5.2.2.2.2 then
 some (.inr (r5.1,(r5.2.1.1,r5.2.1.2),r5.2.2.1,r5.2.2.2.1,(),false))
 else
 Af rec n (at_,r5.1,(r5.2.1.1,r5.2.1.2),r5.2.2.1,r5.2.2.2.1,(),w64 (x+1))
 else
 Af rec n (at_,stt t1 at_ x,(t2.1,t2.2),t3,t4,(),w64 (x+1))
 else none
 else none
 else
 some (.inl (t1,(t2.1,t2.2),t3,t4,()))
 else none
def Bb (rec:(Int×(List Int)×((List (Int×(List Int)))×Int)×(Bool×Int×Int×(List (List ((List Int)×(List ByteArray)))))×(List Int)×Unit)->Option ((List Int)×((List (Int×(List Int)))×Int)×(Bool×Int×Int×(List (List ((List Int)×(List ByteArray)))))×(List Int)×Bool)) (at_:Int) (t1:List Int) (t2:(List (Int×(List Int)))×Int) (t3:Bool×Int×Int×(List (List ((List Int)×(List ByteArray))))) (t4:List Int) (t5:Unit):Option ((List Int)×((List (Int×(List Int)))×Int)×(Bool×Int×Int×(List (List ((List Int)×(List ByteArray)))))×(List Int)×Bool):=
 if at_==(t1.length:Int)then
  (Co t1 t2.1 t2.2).bind λr1=>
   some (t1,(r1.1,r1.2.1),t3,t4,r1.2.2)
 else
  (Af rec Aa (at_,t1,(t2.1,t2.2),t3,t4,(),0)).bind λs2=>
   match s2 with
   | .inl s3=>
    some (s3.1,(s3.2.1.1,s3.2.1.2),s3.2.2.1,s3.2.2.2.1,true)
   | .inr s4=>
    some (s4.1,(s4.2.1.1,s4.2.1.2),s4.2.2.1,s4.2.2.2.1,s4.2.2.2.2.2)
def An:Nat->(Int×(List Int)×((List (Int×(List Int)))×Int)×(Bool×Int×Int×(List (List ((List Int)×(List ByteArray)))))×(List Int)×Unit)->Option ((List Int)×((List (Int×(List Int)))×Int)×(Bool×Int×Int×(List (List ((List Int)×(List ByteArray)))))×(List Int)×Bool)
 |0,_=>none
 |d+1,x=>Bb (An d) x.1 x.2.1 x.2.2.1 x.2.2.2.1 x.2.2.2.2.1 x.2.2.2.2.2
def Bt (s:Bool×Int×Int×(List (List ((List Int)×(List ByteArray))))) (given:List Int) (found:(List (Int×(List Int)))×Int):Option (((List (Int×(List Int)))×Int)):=
 if 0<=(given.length:Int)/\(given.length:Int)<=(given.length:Int)/\(given.length:Int)<=lim then
 (An Aa (0,List.replicate (Int.toNat (given.length:Int)) (0:Int),(found.1,found.2),s,given,())).bind λr1=>
 some (r1.2.1.1,r1.2.1.2)
 else none
def CQ (n_:Int) (rels:List (Int×(List (List Int)))) (k:Int) (given:List Int):Option ((List (Int×(List Int)))×Bool):=
 (BL n_ rels k).bind λr1=>
 (Bt r1 given ([],k)).bind λr2=>
 if decide ((r2.1.length:Int)>300)then
 some ([],false)
 else
 some (r2.1,true)
def AQ (n_:Int) (rels:List (Int×(List (List Int)))) (k:Int):Option ((List (Int×(List Int)))×Bool):=
 (CK n_ rels k).bind λr1=>
 if !r1 then
 some ([],false)
 else
 (B4 n_ k).bind λr2=>
 if !r2 then
 some ([],false)
 else
 (Bd n_ k).bind λr3=>
 (CP r3).bind λr4=>
 (CQ n_ rels k r4).bind λr5=>
 some (r5.1,r5.2)
def E6 (f:List Int):Option (Bool):=
 some true
def Cn (table:List Int) (t1:Unit) (t2:Int) (t3:Int×(List Int)) (t4:Bool):Option (Int×(Int×(List Int))×Bool×Bool):=
 (E6 table).bind λr1=>
 if r1 then
 (CY table).bind λr2=>
 some (t2,(t2,r2),true,!true)
 else
 some (t2,(t3.1,t3.2),t4,!t4)
def Ab (rec:(Int×(List Int)×(Unit×(Int×((Int×(List Int))×Bool)))×(Bool×Int×Int×(List (List ((List Int)×(List ByteArray)))))×(List Int)×Unit)->Option ((List Int)×(Unit×(Int×((Int×(List Int))×Bool)))×(Bool×Int×Int×(List (List ((List Int)×(List ByteArray)))))×(List Int)×Bool)):Nat->(Int×(List Int)×(Unit×(Int×((Int×(List Int))×Bool)))×(Bool×Int×Int×(List (List ((List Int)×(List ByteArray)))))×(List Int)×Unit×Int)->Option (((List Int)×(Unit×(Int×((Int×(List Int))×Bool)))×(Bool×Int×Int×(List (List ((List Int)×(List ByteArray)))))×(List Int)×Unit)⊕((List Int)×(Unit×(Int×((Int×(List Int))×Bool)))×(Bool×Int×Int×(List (List ((List Int)×(List ByteArray)))))×(List Int)×Unit×Bool))
 |0,_=>none
 |n+1,(at_,t1,t2,t3,t4,t5,x)=>
 if t3.1=true then
 if decide (x<t3.2.1)then
 if inb at_ t4 then
 if decide ((gd t4 at_ 0)≥0)then
 if inb at_ t4 then
 if(gd t4 at_ 0) !=x then
 Ab rec n (at_,t1,(t2.1,(t2.2.1,((t2.2.2.1.1,t2.2.2.1.2),t2.2.2.2))),t3,t4,(),w64 (x+1))
 else
 if inb at_ t1 then
 (Am t3 (stt t1 at_ x) at_).bind λr2=>
 if r2 then
 (rec (w64 (at_+1),stt t1 at_ x,(t2.1,(t2.2.1,((t2.2.2.1.1,t2.2.2.1.2),t2.2.2.2))),t3,t4,())).bind λr3=>
 if !r3.2.2.2.2 then
 some (.inr (r3.1,(r3.2.1.1,(r3.2.1.2.1,((r3.2.1.2.2.1.1,r3.2.1.2.2.1.2),r3.2.1.2.2.2))),r3.2.2.1,r3.2.2.2.1,(),false))
 else
 Ab rec n (at_,r3.1,(r3.2.1.1,(r3.2.1.2.1,((r3.2.1.2.2.1.1,r3.2.1.2.2.1.2),r3.2.1.2.2.2))),r3.2.2.1,r3.2.2.2.1,(),w64 (x+1))
 else
 Ab rec n (at_,stt t1 at_ x,(t2.1,(t2.2.1,((t2.2.2.1.1,t2.2.2.1.2),t2.2.2.2))),t3,t4,(),w64 (x+1))
 else none
 else none
 else
 if inb at_ t1 then
 (Am t3 (stt t1 at_ x) at_).bind λr4=>
 if r4 then
 (rec (w64 (at_+1),stt t1 at_ x,(t2.1,(t2.2.1,((t2.2.2.1.1,t2.2.2.1.2),t2.2.2.2))),t3,t4,())).bind λr5=>
 if !r5.2.2.2.2 then
 some (.inr (r5.1,(r5.2.1.1,(r5.2.1.2.1,((r5.2.1.2.2.1.1,r5.2.1.2.2.1.2),r5.2.1.2.2.2))),r5.2.2.1,r5.2.2.2.1,(),false))
 else
 Ab rec n (at_,r5.1,(r5.2.1.1,(r5.2.1.2.1,((r5.2.1.2.2.1.1,r5.2.1.2.2.1.2),r5.2.1.2.2.2))),r5.2.2.1,r5.2.2.2.1,(),w64 (x+1))
 else
 Ab rec n (at_,stt t1 at_ x,(t2.1,(t2.2.1,((t2.2.2.1.1,t2.2.2.1.2),t2.2.2.2))),t3,t4,(),w64 (x+1))
 else none
 else none
 else
 some (.inl (t1,(t2.1,(t2.2.1,((t2.2.2.1.1,t2.2.2.1.2),t2.2.2.2))),t3,t4,()))
 else none
def Ay (rec:(Int×(List Int)×(Unit×(Int×((Int×(List Int))×Bool)))×(Bool×Int×Int×(List (List ((List Int)×(List ByteArray)))))×(List Int)×Unit)->Option ((List Int)×(Unit×(Int×((Int×(List Int))×Bool)))×(Bool×Int×Int×(List (List ((List Int)×(List ByteArray)))))×(List Int)×Bool)) (at_:Int) (t1:List Int) (t2:Unit×(Int×((Int×(List Int))×Bool))) (t3:Bool×Int×Int×(List (List ((List Int)×(List ByteArray))))) (t4:List Int) (t5:Unit):Option ((List Int)×(Unit×(Int×((Int×(List Int))×Bool)))×(Bool×Int×Int×(List (List ((List Int)×(List ByteArray)))))×(List Int)×Bool):=
 if at_==(t1.length:Int)then
  (Cn t1 t2.1 t2.2.1 (t2.2.2.1.1,t2.2.2.1.2) t2.2.2.2).bind λr1=>
   some (t1,((),(r1.1,((r1.2.1.1,r1.2.1.2),r1.2.2.1))),t3,t4,r1.2.2.2)
 else
  (Ab rec Aa (at_,t1,(t2.1,(t2.2.1,((t2.2.2.1.1,t2.2.2.1.2),t2.2.2.2))),t3,t4,(),0)).bind λs2=>
   match s2 with
   | .inl s3=>
    some (s3.1,(s3.2.1.1,(s3.2.1.2.1,((s3.2.1.2.2.1.1,s3.2.1.2.2.1.2),s3.2.1.2.2.2))),s3.2.2.1,s3.2.2.2.1,true)
   | .inr s4=>
    some (s4.1,(s4.2.1.1,(s4.2.1.2.1,((s4.2.1.2.2.1.1,s4.2.1.2.2.1.2),s4.2.1.2.2.2))),s4.2.2.1,s4.2.2.2.1,s4.2.2.2.2.2)
def Aj:Nat->(Int×(List Int)×(Unit×(Int×((Int×(List Int))×Bool)))×(Bool×Int×Int×(List (List ((List Int)×(List ByteArray)))))×(List Int)×Unit)->Option ((List Int)×(Unit×(Int×((Int×(List Int))×Bool)))×(Bool×Int×Int×(List (List ((List Int)×(List ByteArray)))))×(List Int)×Bool)
 |0,_=>none
 |d+1,x=>Ay (Aj d) x.1 x.2.1 x.2.2.1 x.2.2.2.1 x.2.2.2.2.1 x.2.2.2.2.2
def AR (s:Bool×Int×Int×(List (List ((List Int)×(List ByteArray))))) (given:List Int) (found:Unit×(Int×((Int×(List Int))×Bool))):Option ((Unit×(Int×((Int×(List Int))×Bool)))):=
 if 0<=(given.length:Int)/\(given.length:Int)<=(given.length:Int)/\(given.length:Int)<=lim then
 (Aj Aa (0,List.replicate (Int.toNat (given.length:Int)) (0:Int),(found.1,(found.2.1,((found.2.2.1.1,found.2.2.1.2),found.2.2.2))),s,given,())).bind λr1=>
 some (r1.2.1.1,(r1.2.1.2.1,((r1.2.1.2.2.1.1,r1.2.1.2.2.1.2),r1.2.1.2.2.2)))
 else none
def Bf (n_:Int) (rels:List (Int×(List (List Int)))) (k:Int) (given:List Int) (good:Unit):Option ((Int×(List Int))×Bool):=
 (BL n_ rels k).bind λr1=>
 (AR r1 given (good,(k,((0,[]),false)))).bind λr2=>
 some ((r2.2.2.1.1,r2.2.2.1.2),r2.2.2.2)
def AP:Nat->(Int×(List (Int×(List (List Int))))×Int×(List Int)×(Int×(List Int))×(List Int)×Int×Int)->Option ((Int×(List (Int×(List (List Int))))×Int×(List Int)×(Int×(List Int)))⊕((Int×(List Int))×Bool))
 |0,_=>none
 |n+1,(n_,rels,k,values,t8,t32,t33,t34)=>
 if decide (t34<t33)then
 if inb t34 t32 then
 if decide ((gd t32 t34 0)<(-1))then
 some (.inr ((0,[]),false))
 else
 if decide ((gd t32 t34 0)≥n_)then
 some (.inr ((0,[]),false))
 else
 AP n (n_,rels,k,values,(t8.1,t8.2),t32,t33,w64 (t34+1))
 else none
 else
 some (.inl (n_,rels,k,values,(t8.1,t8.2)))
def Al (n_:Int) (rels:List (Int×(List (List Int)))) (k:Int) (values:List Int):Option ((Int×(List Int))×Bool):=
 (CK n_ rels k).bind λr1=>
  if !r1 then
   some ((0,[]),false)
  else
   (B4 n_ k).bind λr2=>
    if !r2 then
     some ((0,[]),false)
    else
     (Bd n_ k).bind λr3=>
      if(values.length:Int) !=r3 then
       some ((0,[]),false)
      else
       (AP Aa (n_,rels,k,values,(0,[]),values,(values.length:Int),0)).bind λs4=>
        match s4 with
        | .inl s5=>
         (Bf s5.1 s5.2.1 s5.2.2.1 s5.2.2.2.1 ()).bind λr7=>
          some ((r7.1.1,r7.1.2),r7.2)
        | .inr s6=>
         some ((s6.1.1,s6.1.2),s6.2)
end T
open Go Go.Va
namespace T
theorem IP {a b:Nat} (ha:a<4611686018427387904):w64 (Int.tdiv (a:Int) (b:Int))=((a/b:Nat):Int):=by
 rw[Int.tdiv_eq_ediv_of_nonneg (by omega),←Int.natCast_ediv]
 have:=Nat.div_le_self a b
 generalize a/b=q at this
 exact Ax (by omega) (by omega)
theorem Hh {a b:Nat}:Int.tmod (a:Int) (b:Int)=((a%b:Nat):Int):=by
 rw[Int.tmod_eq_emod_of_nonneg (by omega),←Int.natCast_emod]
section
variable {n:Nat}
end
end T
open Go Go.Va
namespace T
abbrev Ba:=Int×List (List Int)
structure ROk (n m:Nat) (r:Ba):Prop where
 ar:r.1=(m:Int)
 hm:1<=m/\m<=3
 tl: ∀t∈r.2,t.length=m
 tv: ∀t∈r.2,∀x∈t,0<=x/\x<(n:Int)
 many:r.2.length<=64
 inc:CJ r.2=true
theorem Jb {n:Nat} {r:Ba} (hn:1<=n/\n<=4) (h:D3 (n:Int) r=true):ROk n r.1.toNat r:=by
 unfold D3 at h
 simp only[Bool.and_eq_true,decide_eq_true_eq,List.all_eq_true]at h
 obtain⟨⟨h1,h2⟩,h3⟩:=h
 refine⟨by omega,by omega,λt ht=>by have:=(h2 t ht).1;omega,λt ht x hx=>?_,?_,h3⟩
 ·obtain⟨j,hj,rfl⟩:=List.mem_iff_getElem.1 hx
  exact Fj (h2 t ht).2 j hj
 ·rcases FU (n:=(n:Int)) (k:=r.1.toNat) h3 λt ht=>⟨by have:=(h2 t ht).1;omega,(h2 t ht).2⟩with h6|h6
  ·have h7:((n:Int))^r.1.toNat=((n^r.1.toNat:Nat):Int):=by push_cast;rfl
   have h8:=Bv hn.2 (show r.1.toNat<=3 by omega)
   omega
  ·rw[h6];simp
theorem Ib {b:Nat} (hb:b<=64): ∀(m k j:Nat),j+k<=3->k<m->BY m ((b:Int),(k:Int),((b^j:Nat):Int))=some (((b^(j+k):Nat):Int)):=by
 intro m
 induction m with
 |zero=>intro k j _ h;omega
 |succ m ih=>
  intro k j hj hk
  simp only[BY]
  cases k with
  |zero=>simp
  |succ k=>
   have e:w64 (((k+1:Nat):Int)-1)=(k:Int):=by rw[Ax (by omega) (by omega)];omega
   rw[e,GG hb (by omega),if_pos (by simp),ih k (j+1) (by omega) (by omega)]
   congr 3;omega
theorem Cd {b k:Nat} (hb:b<=64) (hk:k<=3):AS (b:Int) (k:Int)=some (((b^k:Nat):Int)):=by
 unfold AS
 have:=Ib hb Aa k 0 (by omega) (by unfold Aa;omega)
 have this:BY Aa ((b:Int),(k:Int),1)=_:=this
 rw[this];simp
theorem HF {l:List Nat} {s:List Nat} {x y:Nat}:(cI (l++x::s)).set l.length (y:Int)=cI (l++y::s):=by
 unfold cI
 rw[List.map_append,List.map_append,List.map_cons,List.map_cons,List.set_append_right _ _ (by simp)]
 simp
theorem Iq {b:Nat} (hb:0<b): ∀(j i f:Nat) (s:List Nat),j<f->i<4611686018427387904->j<=1000->
  Cp f ((i:Int),(b:Int),cI (List.replicate j 0++s),(j:Int)-1)=some (cI (dg b j i++s)):=by
 intro j
 induction j with
 |zero=>
  intro i f s hf hi hj
  obtain⟨f,rfl⟩: ∃z,f=z+1:=⟨f-1,by omega⟩
  simp only[Cp]
  rw[if_neg (by simp)];rfl
 |succ j ih=>
  intro i f s hf hi hj
  obtain⟨f,rfl⟩: ∃z,f=z+1:=⟨f-1,by omega⟩
  have e1:((j+1:Nat):Int)-1=(j:Int):=by omega
  have hz:List.replicate (j+1) 0++s=List.replicate j 0++0::s:=by rw[List.replicate_succ'];simp
  have hlen:j<(cI (List.replicate j 0++0::s)).length:=by rw[Bj];simp
  have hset:=HF (l:=List.replicate j 0) (s:=s) (x:=0) (y:=i%b)
  rw[List.length_replicate]at hset
  have w2:w64 ((j:Int)-1)=(j:Int)-1:=Ax (by omega) (by omega)
  have hle:=Nat.div_le_self i b
  rw[e1,hz]
  simp only[Cp,IP hi,Hh,Ai,hlen,CH,hset,w2]
  rw[if_pos (by simp),if_pos (by omega),if_pos trivial,if_pos (by omega),ih (i/b) f _ (by omega) (by omega) (by omega)]
  simp[dg]
theorem Fv {b k i:Nat} (hb:0<b) (hk:k<=1000) (hi:i<4611686018427387904):D7 (i:Int) (k:Int) (b:Int)=some (cI (dg b k i)):=by
 have h:=Iq hb k i Aa [] (by unfold Aa;omega) hi hk
 have e:cI (List.replicate k 0++ [])=List.replicate (Int.toNat (k:Int)) (0:Int):=by unfold cI;simp
 rw[e,List.append_nil]at h
 unfold D7
 rw[Ax (x:=(k:Int)-1) (by omega) (by omega),h,if_pos (by unfold lim;omega)];rfl
theorem Hs {b:Nat} (hb:0<b): ∀(j i f:Nat) (s:List Nat),j<f->i<4611686018427387904->j<=1000->
  Cu f ((b:Int),(i:Int),cI (List.replicate j 0++s),(j:Int)-1)=some (cI (dg b j i++s)):=by
 intro j
 induction j with
 |zero=>
  intro i f s hf hi hj
  obtain⟨f,rfl⟩: ∃z,f=z+1:=⟨f-1,by omega⟩
  simp only[Cu]
  rw[if_neg (by simp)];rfl
 |succ j ih=>
  intro i f s hf hi hj
  obtain⟨f,rfl⟩: ∃z,f=z+1:=⟨f-1,by omega⟩
  have e1:((j+1:Nat):Int)-1=(j:Int):=by omega
  have hz:List.replicate (j+1) 0++s=List.replicate j 0++0::s:=by rw[List.replicate_succ'];simp
  have hlen:j<(cI (List.replicate j 0++0::s)).length:=by rw[Bj];simp
  have hset:=HF (l:=List.replicate j 0) (s:=s) (x:=0) (y:=i%b)
  rw[List.length_replicate]at hset
  have w2:w64 ((j:Int)-1)=(j:Int)-1:=Ax (by omega) (by omega)
  have hle:=Nat.div_le_self i b
  rw[e1,hz]
  simp only[Cu,IP hi,Hh,Ai,hlen,CH,hset,w2]
  rw[if_pos (by simp),if_pos (by omega),if_pos trivial,if_pos (by omega),ih (i/b) f _ (by omega) (by omega) (by omega)]
  simp[dg]
theorem Du {b k i:Nat} (hb:0<b) (hk:k<=1000) (hi:i<4611686018427387904):Db (b:Int) (k:Int) (i:Int)=some (cI (dg b k i)):=by
 have h:=Hs hb k i Aa [] (by unfold Aa;omega) hi hk
 have e:cI (List.replicate k 0++ [])=List.replicate (Int.toNat (k:Int)) (0:Int):=by unfold cI;simp
 rw[e,List.append_nil]at h
 unfold Db
 rw[Ax (x:=(k:Int)-1) (by omega) (by omega),h,if_pos (by unfold lim;omega)];rfl
def PL (n k:Nat) (r:Ba) (i:Nat):List Nat:=(List.range r.1.toNat).map λj=>atF n r.2 j (dg r.2.length k i)
def Bc (l:List Nat):Nat:=l.foldl max 0
theorem Eb: ∀(l:List Nat) (a:Nat),a<=l.foldl max a/\ ∀x∈l,x<=l.foldl max a
 | [],a=>⟨Nat.le_refl _,λx h=>by simp at h⟩
 |y::l,a=>by
  obtain⟨h1,h2⟩:=Eb l (max a y)
  refine⟨by rw[List.foldl_cons];omega,λx hx=>?_⟩
  rw[List.foldl_cons]
  rcases List.mem_cons.1 hx with rfl|hx
  ·omega
  ·exact h2 x hx
theorem Fy {l:List Nat} {b:Nat} (hb:0<b) (h: ∀x∈l,x<b):Bc l<b:=by
 unfold Bc
 have key: ∀(l:List Nat) (a:Nat),a<b->(∀x∈l,x<b)->l.foldl max a<b:=by
  intro l
  induction l with
  |nil=>intro a ha _;exact ha
  |cons y l ih=>intro a ha hl;rw[List.foldl_cons];exact ih _ (by have:=hl y (by simp);omega) λx hx=>hl x (List.mem_cons_of_mem _ hx)
 exact key l 0 hb h
section
variable {n k m:Nat} {r:Ba}
theorem ROk.vt_lt (h:ROk n m r) {x j:Nat} (hx:x<r.2.length) (hj:j<m):vt r.2 x j<n/\(r.2.getD x []).getD j 0=((vt r.2 x j:Nat):Int)/\j<(r.2.getD x []).length:=by
 have hmem:r.2[x]∈r.2:=List.getElem_mem hx
 have hl:=h.tl _ hmem
 have hj':j<(r.2[x]).length:=by omega
 have hv:=h.tv _ hmem _ (List.getElem_mem hj')
 unfold vt
 rw[Ah hx,Ah hj']
 exact⟨by omega,by omega,by omega⟩
theorem ROk.at_lt (h:ROk n m r) {j:Nat} (hj:j<m) (a:List Nat) (ha: ∀x∈a,x<r.2.length):atF n r.2 j a<n^a.length:=by
 have:=Ff (n:=n) (v:=λx=>vt r.2 x j) a 0 λx hx=>(h.vt_lt (ha x hx) hj).1
 unfold atF;omega
theorem ROk.pl_lt (h:ROk n m r) {i:Nat} (hb:0<r.2.length): ∀x∈PL n k r i,x<n^k:=λx hx=>by
 unfold PL at hx
 obtain⟨j,hj,rfl⟩:=List.mem_map.1 hx
 have:=h.at_lt (j:=j) (by have:=List.mem_range.1 hj;have:=h.ar;omega) (dg r.2.length k i) (EH hb)
 rw[CN]at this
 exact this
theorem ROk.pl_len (h:ROk n m r) {i:Nat}:(PL n k r i).length=m:=by unfold PL;simp;have:=h.ar;omega
end
end T
open Go Go.Va
namespace T
def E5 {α:Type} (X:List (List α)) (p:Nat) (d:α):List (List α):=X.set p (X.getD p []++ [d])
theorem FO {α:Type} {X:List (List α)} {p:Nat} {d:α}:(E5 X p d).length=X.length:=by unfold E5;simp
theorem ET {α:Type} {X:List (List α)} {p q:Nat} {d:α} (hp:p<X.length):(E5 X p d).getD q []=if q=p then X.getD p []++ [d]else X.getD q []:=by
 unfold E5
 by_cases e:q=p
 ·subst e;rw[if_pos rfl,Ah (by simp;exact hp)];simp
 ·rw[if_neg e]
  simp only[List.getD_eq_getElem?_getD]
  rw[List.getElem?_set_ne (by omega)]
abbrev DT:=List (List (List Int×List ByteArray))
def Dj (n k:Nat) (r:Ba) (X:DT×List ByteArray) (i:Nat):DT×List ByteArray:=
 if Xs X.2 (DD (cI (PL n k r i)))then X else(E5 X.1 (Bc (PL n k r i)) (cI (PL n k r i),De r.2),YhI X.2 (DD (cI (PL n k r i))))
def E0 (n k:Nat) (D:DT) (r:Ba):DT:=((List.range (r.2.length^k)).foldl (Dj n k r) (D,[])).1
abbrev NT:=List (List (List Int×Int×List (List Int)))
def Ej (n k:Nat) (r:Ba) (X:NT) (i:Nat):NT:=E5 X (Bc (PL n k r i)) (cI (PL n k r i),r)
def EE (n k:Nat) (X:NT) (r:Ba):NT:=(List.range (r.2.length^k)).foldl (Ej n k r) X
section
variable {n k m:Nat} {r:Ba}
theorem I6 (h:ROk n m r) (hn:1<=n/\n<=4) (hk:k<=3) {args:List Nat} (hl:args.length<=3) (ha: ∀x∈args,x<r.2.length) {j:Nat} (hj:j<m) {o:List Int} (ho:j<o.length) (h0:o.getD j 0=0)
  (p q:Int) (D:DT) (t10 t11:List ByteArray) (t12 t15:Int) (t28:List Ba) (t29 t30 t56:Int):
  AU Aa ((),(n:Int),(k:Int),(p,(q,D)),(r.1,r.2),t10,t11,t12,cI args,o,t15,(j:Int),t28,t29,t30,t56,(j:Int),((cI args).length:Int),0)
   =some ((n:Int),(k:Int),(p,(q,D)),(r.1,r.2),t10,t11,t12,cI args,o.set j ((atF n r.2 j args:Nat):Int),t15,(j:Int),t28,t29,t30,t56,(j:Int)):=by
 have:=CX args.length (λf o i=>AU f ((),(n:Int),(k:Int),(p,(q,D)),(r.1,r.2),t10,t11,t12,cI args,o,t15,(j:Int),t28,t29,t30,t56,(j:Int),((cI args).length:Int),i)) (λz=>o.set j ((atF n r.2 j (args.take z):Nat):Int))
  (r:=some ((n:Int),(k:Int),(p,(q,D)),(r.1,r.2),t10,t11,t12,cI args,o.set j ((atF n r.2 j args:Nat):Int),t15,(j:Int),t28,t29,t30,t56,(j:Int))) (λf z hz=>?_) (λf=>?_) (n:=Aa) (by unfold Aa;omega)
 ·have e:o.set j ((atF n r.2 j (args.take 0):Nat):Int)=o:=by
   have:((atF n r.2 j (args.take 0):Nat):Int)=o[j]:=by rw[Ah ho]at h0;rw[h0];rfl
   rw[this,List.set_getElem_self]
  rw[e]at this
  exact this
 ·have hzc:z<(cI args).length:=by rw[Bj];exact hz
  have hx:=ha _ (List.getElem_mem hz)
  have hg:(cI args).getD z 0=((args[z]:Nat):Int):=by rw[Ah hzc];simp[cI]
  obtain⟨v1,v2,v3⟩:=h.vt_lt hx hj
  have hlt:=h.at_lt hj (args.take z) λx hx=>ha x (List.mem_of_mem_take hx)
  have hp:=Bv (n:=n) (k:=(args.take z).length) hn.2 (by rw[List.length_take];omega)
  have hstep:=FI (n:=n) hn.2 (x:=atF n r.2 j (args.take z)) (v:=vt r.2 args[z] j) (by omega) v1
  have htk:args.take (z+1)=args.take z++ [args[z]]:=List.take_succ_eq_append_getElem hz
  have hos:j<(o.set j ((atF n r.2 j (args.take z):Nat):Int)).length:=by simp;exact ho
  have hog:(o.set j ((atF n r.2 j (args.take z):Nat):Int)).getD j 0=((atF n r.2 j (args.take z):Nat):Int):=by rw[Ah hos];simp
  have hoo: ∀y:Int,(o.set j ((atF n r.2 j (args.take z):Nat):Int)).set j y=o.set j y:=λy=>by simp
  simp only[AU,Ai,hzc,Es,hg,hos,hog,hx,v3,v2,hstep,CH,hoo,htk,DN,Ag (show z<4611686018427387904 by omega),if_true]
  rw[if_pos (by simp;rw[Bj];exact hz)]
 ·simp only[AU,List.take_length]
  rw[if_neg (by rw[Bj];simp)]
theorem F8 {i j:Nat} (hj:j<(PL n k r i).length):(PL n k r i)[j]=atF n r.2 j (dg r.2.length k i):=by simp[PL]
theorem Fz {l:List Nat} {j:Nat} (hj:j<l.length):Bc (l.take (j+1))=max (Bc (l.take j)) l[j]:=by
 unfold Bc;rw[List.take_succ_eq_append_getElem hj,List.foldl_append];rfl
theorem H3 (a b:Nat):Yiv (a:Int) (b:Int)=((max a b:Nat):Int):=by
 unfold Yiv
 by_cases h:b>a
 ·rw[if_pos (by omega)];omega
 ·rw[if_neg (by omega)];omega
theorem I5 (h:ROk n m r) (hn:1<=n/\n<=4) (hk:k<=3) (hb:0<r.2.length) (i:Nat) (p q:Int) (D:DT) (t10 t11:List ByteArray) (t12:Int) (t28:List Ba) (t29 t30:Int):
  AT Aa ((n:Int),(k:Int),(p,(q,D)),(r.1,r.2),t10,t11,t12,cI (dg r.2.length k i),List.replicate (Int.toNat r.1) (0:Int),0,t28,t29,t30,((List.replicate (Int.toNat r.1) (0:Int)).length:Int),0)
   =some ((n:Int),(k:Int),(p,(q,D)),(r.1,r.2),t10,t11,t12,cI (PL n k r i),((Bc (PL n k r i):Nat):Int),t28,t29,t30):=by
 have hm:=h.hm
 have har:=h.ar
 have hpl:=h.pl_len (k:=k) (i:=i)
 have hrep:List.replicate (Int.toNat r.1) (0:Int)=List.replicate m 0:=by rw[har];simp
 rw[hrep]
 have:=CX m (λf (s:List Int×Int) j=>AT f ((n:Int),(k:Int),(p,(q,D)),(r.1,r.2),t10,t11,t12,cI (dg r.2.length k i),s.1,s.2,t28,t29,t30,((List.replicate m (0:Int)).length:Int),j))
  (λj=>(cI ((PL n k r i).take j)++List.replicate (m-j) 0,((Bc ((PL n k r i).take j):Nat):Int)))
  (r:=some ((n:Int),(k:Int),(p,(q,D)),(r.1,r.2),t10,t11,t12,cI (PL n k r i),((Bc (PL n k r i):Nat):Int),t28,t29,t30)) (λf j hj=>?_) (λf=>?_) (n:=Aa) (by unfold Aa;omega)
 ·exact this
 ·have hjl:j<(PL n k r i).length:=by omega
  have htl:((PL n k r i).take j).length=j:=by rw[List.length_take];omega
  have hol:j<(cI ((PL n k r i).take j)++List.replicate (m-j) 0).length:=by rw[List.length_append,Bj,htl];simp;omega
  have hog:(cI ((PL n k r i).take j)++List.replicate (m-j) 0).getD j 0=0:=by
   rw[Ah hol,List.getElem_append_right (by rw[Bj];omega)];simp
  have h17:=I6 h hn hk (args:=dg r.2.length k i) (by rw[CN];exact hk) (EH hb) hj hol hog p q D t10 t11 t12 ((Bc ((PL n k r i).take j):Nat):Int) t28 t29 t30 ((List.replicate m (0:Int)).length:Int)
  have hset:(cI ((PL n k r i).take j)++List.replicate (m-j) 0).set j ((atF n r.2 j (dg r.2.length k i):Nat):Int)=cI ((PL n k r i).take (j+1))++List.replicate (m-(j+1)) 0:=by
   rw[List.take_succ_eq_append_getElem hjl,F8 hjl,FP,show m-j=(m-(j+1))+1 by omega,List.replicate_succ,List.set_append_right _ _ (by rw[Bj];omega),Bj,htl]
   simp[cI]
  have hol':j<(cI ((PL n k r i).take (j+1))++List.replicate (m-(j+1)) 0).length:=by rw[←hset];simpa using hol
  have hog':(cI ((PL n k r i).take (j+1))++List.replicate (m-(j+1)) 0).getD j 0=(((PL n k r i)[j]:Nat):Int):=by
   rw[←hset,Ah (by rw[List.length_set];exact hol),F8 hjl];simp
  rw[hset]at h17
  simp only[AT,h17,Option.bind_some,Ai,hol',Es,hog',H3,Fz hjl,Ag (show j<4611686018427387904 by omega),if_true]
  rw[if_pos (by simp;omega)]
 ·have e:(PL n k r i).take m=PL n k r i:=List.take_of_length_le (by omega)
  simp only[AT,e]
  rw[if_neg (by simp)];simp
theorem Hz (X:DT×List ByteArray) (i:Nat):(Dj n k r X i).1.length=X.1.length:=by unfold Dj;split<;>simp[FO]
theorem Ek: ∀(l:List Nat) (X:DT×List ByteArray),(l.foldl (Dj n k r) X).1.length=X.1.length
 | [],X=>rfl
 |i::l,X=>by rw[List.foldl_cons,Ek l];exact Hz X i
theorem GH (D:DT):(E0 n k D r).length=D.length:=Ek _ _
def Dy {α:Type} (X:List (List α)) (B:Nat):Prop:= ∀p,(X.getD p []).length<=B
theorem Fi {α:Type} {X:List (List α)} {B:Nat} (h:Dy X B) {p:Nat} {d:α}:Dy (E5 X p d) (B+1):=λq=>by
 rcases Nat.lt_or_ge p X.length with hp|hp
 ·rw[ET hp]
  have h1:=h p
  have h2:=h q
  split
  ·rw[List.length_append,List.length_singleton];omega
  ·omega
 ·unfold E5;rw[List.set_eq_of_length_le hp];have:=h q;omega
theorem G3 {X:DT×List ByteArray} {B:Nat} (h:Dy X.1 B) (i:Nat):Dy (Dj n k r X i).1 (B+1):=by
 unfold Dj
 split
 ·intro p;have:=h p;omega
 ·exact Fi h
theorem Ey: ∀(l:List Nat) (X:DT×List ByteArray) (B:Nat),Dy X.1 B->Dy (l.foldl (Dj n k r) X).1 (B+l.length)
 | [],X,B,h=>h
 |i::l,X,B,h=>by
  have:=Ey l _ _ (G3 (n:=n) (k:=k) (r:=r) h i)
  rw[List.foldl_cons,List.length_cons,show B+(l.length+1)=B+1+l.length by omega]
  exact this
theorem DU {α:Type} {f:α->Nat->α} {a:α} {i:Nat}:(List.range (i+1)).foldl f a=f ((List.range i).foldl f a) i:=by rw[List.range_succ,List.foldl_append];rfl
theorem FB (h:ROk n m r) (hn:1<=n/\n<=4) (hk:k<=3) (hb:0<r.2.length) (i:Nat): ∀x∈cI (PL n k r i),0<=x/\x<256:=λx hx=>by
 unfold cI at hx
 obtain⟨y,hy,rfl⟩:=List.mem_map.1 hx
 have:=h.pl_lt hb y hy
 have:=Bv hn.2 hk
 omega
theorem Jv (h:ROk n m r) (hn:1<=n/\n<=4) (hk:k<=3) (hk1:0<k) {D:DT} (hD:D.length=n^k) {B:Nat} (hroom:Dy D B) (hB:B<=100000000) (p q:Int) (t28:List Ba) (t29 t30:Int):
  AM Aa ((n:Int),(k:Int),(p,(q,D)),(r.1,r.2),De r.2,[],0,t28,t29,t30)
   =some ((n:Int),(k:Int),(p,(q,E0 n k D r)),t28,t29,t30):=by
 have hm:=h.hm
 have har:=h.ar
 have hN:=GF h.many hk
 have hmany:=h.many
 have:=CX (r.2.length^k) (λf (s:DT×List ByteArray) i=>AM f ((n:Int),(k:Int),(p,(q,s.1)),(r.1,r.2),De r.2,s.2,i,t28,t29,t30)) (λi=>(List.range i).foldl (Dj n k r) (D,[]))
  (r:=some ((n:Int),(k:Int),(p,(q,E0 n k D r)),t28,t29,t30)) (λf i hi=>?_) (λf=>?_) (n:=Aa) (by unfold Aa;omega)
 ·exact this
 ·have hb:0<r.2.length:=by
   rcases Nat.eq_zero_or_pos r.2.length with e2|e2
   ·rw[e2,Nat.zero_pow hk1]at hi;omega
   ·exact e2
  have hlen:((List.range i).foldl (Dj n k r) (D,[])).1.length=n^k:=by rw[Ek];exact hD
  have hro:=Ey (n:=n) (k:=k) (r:=r) (List.range i) (D,[]) B hroom
  rw[List.length_range]at hro
  generalize hX:(List.range i).foldl (Dj n k r) (D,[])=X at hlen hro
  have hlast:Bc (PL n k r i)<X.1.length:=by
   rw[hlen];exact Fy (Nat.pow_pos (by omega)) (h.pl_lt hb)
  have hkey:=C1 (l:=cI (PL n k r i)) (by rw[Bj,h.pl_len];omega) (FB h hn hk hb i)
  have h14:=I5 h hn hk hb i p q X.1 (De r.2) X.2 (i:Int) t28 t29 t30
  have hlim:=hro (Bc (PL n k r i))
  rw[DU,hX]
  simp only[AM,Cb hmany hk,Fv (k:=k) hb (by omega) (show i<4611686018427387904 by omega),Option.bind_some,h14,hkey,Ai,hlast,Es,CH,Ag (show i<4611686018427387904 by omega)]
  rw[if_pos (decide_eq_true (show(i:Int)<((r.2.length^k:Nat):Int) from Int.ofNat_lt.2 hi)),if_pos (by unfold lim;omega)]
  unfold Dj
  cases Xs X.2 (DD (cI (PL n k r i)))with
  |true=>simp
  |false=>
   simp only[Bool.not_false,if_true,Bool.false_eq_true,if_false]
   rw[if_pos (by rw[List.length_singleton];unfold lim;omega)]
   rfl
 ·simp only[AM,Cb hmany hk,Option.bind_some]
  rw[if_neg (by simp)];rfl
end
end T
open Go Go.Va
namespace T
structure RelsOk (n k:Nat) (rels:List Ba):Prop where
 hn:1<=n/\n<=4
 hk:1<=k/\k<=3
 len:rels.length<=8
 ok: ∀r∈rels,ROk n r.1.toNat r
def C7 (n k:Nat) (rels:List Ba):DT:=rels.foldl (E0 n k) (List.replicate (n^k) [])
def Dl (n k:Nat) (rels:List Ba):NT:=rels.foldl (EE n k) (List.replicate (n^k) [])
section
variable {n k m:Nat} {r:Ba} {rels:List Ba}
theorem RelsOk.cnt (h:RelsOk n k rels) (hr:r∈rels):r.2.length^k<=262144:=GF (h.ok r hr).many h.hk.2
theorem Gr (h:RelsOk n k rels) (t:Nat) (ht:t<=rels.length):((rels.take t).foldl (E0 n k) (List.replicate (n^k) [])).length=n^k/\Dy ((rels.take t).foldl (E0 n k) (List.replicate (n^k) [])) (262144*t):=by
 induction t with
 |zero=>exact⟨by simp,λp=>by simp[List.getD_eq_getElem?_getD,List.getElem?_replicate];split<;>simp⟩
 |succ t ih=>
  obtain⟨h1,h2⟩:=ih (by omega)
  have htl:t<rels.length:=by omega
  rw[List.take_succ_eq_append_getElem htl,List.foldl_append]
  simp only[List.foldl_cons,List.foldl_nil]
  refine⟨by rw[GH];exact h1,λp=>?_⟩
  have h3:=h.cnt (List.getElem_mem htl)
  have:=Ey (n:=n) (k:=k) (r:=rels[t]) (List.range (rels[t].2.length^k)) (_,[]) _ h2 p
  rw[List.length_range]at this
  exact Nat.le_trans this (by omega)
theorem Cm (h:RelsOk n k rels):BL (n:Int) rels (k:Int)=some (true,(n:Int),(k:Int),C7 n k rels):=by
 have hk:=h.hk
 have hn:=h.hn
 have hl:=h.len
 have hp:=Bv (n:=n) (k:=k) hn.2 hk.2
 unfold BL
 rw[Cb (by omega) hk.2]
 simp only[Option.bind_some]
 have:=CX rels.length (λf (s:DT) i=>A8 f ((n:Int),(k:Int),((n:Int),((k:Int),s)),rels,(rels.length:Int),i)) (λt=>(rels.take t).foldl (E0 n k) (List.replicate (n^k) []))
  (r:=some ((n:Int),((k:Int),C7 n k rels))) (λf t ht=>?_) (λf=>?_) (n:=Aa) (by unfold Aa;omega)
 ·have e:((rels.take 0).foldl (E0 n k) (List.replicate (n^k) []))=List.replicate (Int.toNat ((n^k:Nat):Int)) ([]:List (List Int×List ByteArray)):=by rw[Int.toNat_natCast];rfl
  rw[e]at this
  have this:A8 Aa ((n:Int),(k:Int),((n:Int),((k:Int),List.replicate (Int.toNat ((n^k:Nat):Int)) ([]:List (List Int×List ByteArray)))),rels,(rels.length:Int),0)=_:=this
  rw[this,if_pos (by unfold lim;omega)];rfl
 ·have hr:=h.ok _ (List.getElem_mem ht)
  obtain⟨h1,h2⟩:=Gr h t (by omega)
  have hm:=hr.hm
  have h8:=Jv hr hn hk.2 (by omega) h1 h2 (by omega) (n:Int) (k:Int) rels (rels.length:Int) (t:Int)
  have hts:=DJ (r:=rels[t]) (by have:=hr.many;omega) (λu hu=>⟨by have:=hr.tl u hu;omega,λx hx=>by have:=hr.tv u hu x hx;omega⟩)
  have hts:Ch (rels[t].1,rels[t].2)=_:=hts
  have htk:(rels.take (t+1)).foldl (E0 n k) (List.replicate (n^k) [])=E0 n k ((rels.take t).foldl (E0 n k) (List.replicate (n^k) [])) rels[t]:=by
   rw[List.take_succ_eq_append_getElem ht,List.foldl_append];rfl
  simp only[A8,Ai,ht,Ap ht,hts,Option.bind_some,h8,htk,Ag (show t<4611686018427387904 by omega)]
  rw[if_pos (by simp;omega)];rfl
 ·simp only[A8,List.take_length]
  rw[if_neg (by simp)];rfl
theorem I4 (h:ROk n m r) (hn:1<=n/\n<=4) {t:Nat} (ht:t<rels.length) (er:rels[t]=r) {args:List Nat} (hl:args.length<=3) (ha: ∀x∈args,x<r.2.length) {j:Nat} (hj:j<m)
  (t7:NT) (t10 t11:Int) (t13:List Int×Int×List (List Int)) (t14:Int):
  By Aa ((n:Int),rels,(args.length:Int),t7,(t:Int),t10,t11,cI args,(t13.1,(t13.2.1,t13.2.2)),t14,(j:Int),0,0)
   =some ((n:Int),rels,(args.length:Int),t7,(t:Int),t10,t11,cI args,(t13.1,(t13.2.1,t13.2.2)),t14,(j:Int),((atF n r.2 j args:Nat):Int)):=by
 have:=CX args.length (λf (s:Int) i=>By f ((n:Int),rels,(args.length:Int),t7,(t:Int),t10,t11,cI args,(t13.1,(t13.2.1,t13.2.2)),t14,(j:Int),s,i)) (λz=>((atF n r.2 j (args.take z):Nat):Int))
  (r:=some ((n:Int),rels,(args.length:Int),t7,(t:Int),t10,t11,cI args,(t13.1,(t13.2.1,t13.2.2)),t14,(j:Int),((atF n r.2 j args:Nat):Int))) (λf z hz=>?_) (λf=>?_) (n:=Aa) (by unfold Aa;omega)
 ·exact this
 ·have hzc:z<(cI args).length:=by rw[Bj];exact hz
  have hx:=ha _ (List.getElem_mem hz)
  have hg:(cI args).getD z 0=((args[z]:Nat):Int):=by rw[Ah hzc];simp[cI]
  obtain⟨v1,v2,v3⟩:=h.vt_lt hx hj
  have hlt:=h.at_lt hj (args.take z) λx hx=>ha x (List.mem_of_mem_take hx)
  have hp:=Bv (n:=n) (k:=(args.take z).length) hn.2 (by rw[List.length_take];omega)
  have hstep:=FI (n:=n) hn.2 (x:=atF n r.2 j (args.take z)) (v:=vt r.2 args[z] j) (by omega) v1
  have htk:args.take (z+1)=args.take z++ [args[z]]:=List.take_succ_eq_append_getElem hz
  simp only[By,Ai,ht,Ap ht,er,hzc,Es,hg,hx,v3,v2,hstep,htk,DN,Ag (show z<4611686018427387904 by omega),if_true]
  rw[if_pos (by simp;omega)]
 ·simp only[By,List.take_length]
  rw[if_neg (by simp)]
theorem Fb (a b:Nat):CL (a:Int) (b:Int)=some ((max a b:Nat):Int):=by
 unfold CL
 by_cases h:(a:Int)>(b:Int)
 ·rw[if_pos (by simpa using h)];congr 2;omega
 ·rw[if_neg (by simpa using h)];congr 2;omega
theorem I3 (h:ROk n m r) (hn:1<=n/\n<=4) (hk:k<=3) (hb:0<r.2.length) {t:Nat} (ht:t<rels.length) (er:rels[t]=r) (i:Nat) (t7:NT) (t10 t11:Int) (q:Int×List (List Int)):
  Bx Aa ((n:Int),rels,(k:Int),t7,(t:Int),t10,t11,cI (dg r.2.length k i),([],(q.1,q.2)),0,0)
   =some ((n:Int),rels,(k:Int),t7,(t:Int),t10,t11,(cI (PL n k r i),(q.1,q.2)),((Bc (PL n k r i):Nat):Int)):=by
 have hm:=h.hm
 have har:=h.ar
 have hpl:=h.pl_len (k:=k) (i:=i)
 have:=CX m (λf (s:List Int×Int) j=>Bx f ((n:Int),rels,(k:Int),t7,(t:Int),t10,t11,cI (dg r.2.length k i),(s.1,(q.1,q.2)),s.2,j))
  (λj=>(cI ((PL n k r i).take j),((Bc ((PL n k r i).take j):Nat):Int)))
  (r:=some ((n:Int),rels,(k:Int),t7,(t:Int),t10,t11,(cI (PL n k r i),(q.1,q.2)),((Bc (PL n k r i):Nat):Int))) (λf j hj=>?_) (λf=>?_) (n:=Aa) (by unfold Aa;omega)
 ·exact this
 ·have hjl:j<(PL n k r i).length:=by omega
  have htl:((PL n k r i).take j).length=j:=by rw[List.length_take];omega
  have h21:=I4 h hn ht er (args:=dg r.2.length k i) (by rw[CN];exact hk) (EH hb) hj t7 t10 t11 (cI ((PL n k r i).take j),(q.1,q.2)) ((Bc ((PL n k r i).take j):Nat):Int)
  rw[CN]at h21
  have e1:cI ((PL n k r i).take (j+1))=cI ((PL n k r i).take j)++ [((atF n r.2 j (dg r.2.length k i):Nat):Int)]:=by
   rw[List.take_succ_eq_append_getElem hjl,F8 hjl,FP];rfl
  have e2:Bc ((PL n k r i).take (j+1))=max (Bc ((PL n k r i).take j)) (atF n r.2 j (dg r.2.length k i)):=by rw[Fz hjl,F8 hjl]
  simp only[Bx,Ai,ht,Ap ht,er,har,h21,Option.bind_some,Fb,e1,e2,Ag (show j<4611686018427387904 by omega),if_true]
  rw[if_pos (by simp;omega),if_pos (by rw[Bj,htl,List.length_singleton];unfold lim;omega)]
 ·have e:(PL n k r i).take m=PL n k r i:=List.take_of_length_le (by omega)
  simp only[Bx,Ai,ht,Ap ht,er,har,e,if_true]
  rw[if_neg (by simp)]
theorem HA (X:NT) (i:Nat):(Ej n k r X i).length=X.length:=FO
theorem DI: ∀(l:List Nat) (X:NT),(l.foldl (Ej n k r) X).length=X.length
 | [],X=>rfl
 |i::l,X=>by rw[List.foldl_cons,DI l];exact HA X i
theorem Ez: ∀(l:List Nat) (X:NT) (B:Nat),Dy X B->Dy (l.foldl (Ej n k r) X) (B+l.length)
 | [],X,B,h=>h
 |i::l,X,B,h=>by
  have:=Ez l _ _ (Fi (p:=Bc (PL n k r i)) (d:=(cI (PL n k r i),r)) h)
  rw[List.foldl_cons,List.length_cons,show B+(l.length+1)=B+1+l.length by omega]
  exact this
theorem I2 (h:ROk n m r) (hn:1<=n/\n<=4) (hk:k<=3) (hk1:0<k) {t:Nat} (ht:t<rels.length) (er:rels[t]=r) {X:NT} (hX:X.length=n^k) {B:Nat} (hroom:Dy X B) (hB:B<=100000000):
  Bw Aa ((n:Int),rels,(k:Int),X,(t:Int),(r.2.length:Int),0)=some ((n:Int),rels,(k:Int),EE n k X r,(t:Int)):=by
 have hm:=h.hm
 have hN:=GF h.many hk
 have hmany:=h.many
 have:=CX (r.2.length^k) (λf (s:NT) i=>Bw f ((n:Int),rels,(k:Int),s,(t:Int),(r.2.length:Int),i)) (λi=>(List.range i).foldl (Ej n k r) X)
  (r:=some ((n:Int),rels,(k:Int),EE n k X r,(t:Int))) (λf i hi=>?_) (λf=>?_) (n:=Aa) (by unfold Aa;omega)
 ·exact this
 ·have hb:0<r.2.length:=by
   rcases Nat.eq_zero_or_pos r.2.length with e2|e2
   ·rw[e2,Nat.zero_pow hk1]at hi;omega
   ·exact e2
  have hlen:((List.range i).foldl (Ej n k r) X).length=n^k:=by rw[DI];exact hX
  have hro:=Ez (n:=n) (k:=k) (r:=r) (List.range i) X B hroom
  rw[List.length_range]at hro
  generalize hY:(List.range i).foldl (Ej n k r) X=Y at hlen hro
  have hlast:Bc (PL n k r i)<Y.length:=by
   rw[hlen];exact Fy (Nat.pow_pos (by omega)) (h.pl_lt hb)
  have h17:=I3 h hn hk hb ht er i Y (r.2.length:Int) (i:Int) r
  have hlim:=hro (Bc (PL n k r i))
  rw[DU,hY]
  simp only[Bw,Cd hmany hk,Du (k:=k) hb (by omega) (show i<4611686018427387904 by omega),Option.bind_some,Ai,ht,Ap ht,er,h17,hlast,Es,CH,Ag (show i<4611686018427387904 by omega),if_true]
  rw[if_pos (decide_eq_true (show(i:Int)<((r.2.length^k:Nat):Int) from Int.ofNat_lt.2 hi)),if_pos (by rw[List.length_singleton];unfold lim;omega)]
  rfl
 ·simp only[Bw,Cd hmany hk,Option.bind_some]
  rw[if_neg (by simp)];rfl
theorem Gt (h:RelsOk n k rels) (t:Nat) (ht:t<=rels.length):((rels.take t).foldl (EE n k) (List.replicate (n^k) [])).length=n^k/\Dy ((rels.take t).foldl (EE n k) (List.replicate (n^k) [])) (262144*t):=by
 induction t with
 |zero=>exact⟨by simp,λp=>by simp[List.getD_eq_getElem?_getD,List.getElem?_replicate];split<;>simp⟩
 |succ t ih=>
  obtain⟨h1,h2⟩:=ih (by omega)
  have htl:t<rels.length:=by omega
  rw[List.take_succ_eq_append_getElem htl,List.foldl_append]
  simp only[List.foldl_cons,List.foldl_nil]
  refine⟨by unfold EE;rw[DI];exact h1,λp=>?_⟩
  have h3:=h.cnt (List.getElem_mem htl)
  have:=Ez (n:=n) (k:=k) (r:=rels[t]) (List.range (rels[t].2.length^k)) _ _ h2 p
  rw[List.length_range]at this
  exact Nat.le_trans this (by omega)
theorem E4 (h:RelsOk n k rels):DE (n:Int) rels (k:Int)=some (Dl n k rels):=by
 have hk:=h.hk
 have hn:=h.hn
 have hl:=h.len
 have hp:=Bv (n:=n) (k:=k) hn.2 hk.2
 unfold DE
 have h3:=CX (n^k) (λf (s:NT) i=>BF f ((n:Int),rels,(k:Int),s,i)) (λt=>List.replicate t []) (r:=some ((n:Int),rels,(k:Int),List.replicate (n^k) [])) (λf t ht=>?_) (λf=>?_) (n:=Aa) (by unfold Aa;omega)
 ·have h3:BF Aa ((n:Int),rels,(k:Int),[],0)=_:=h3
  simp only[h3,Option.bind_some]
  have:=CX rels.length (λf (s:NT) i=>BG f ((n:Int),rels,(k:Int),s,i)) (λt=>(rels.take t).foldl (EE n k) (List.replicate (n^k) [])) (r:=some (Dl n k rels)) (λf t ht=>?_) (λf=>?_) (n:=Aa) (by unfold Aa;omega)
  ·have e:((rels.take 0).foldl (EE n k) (List.replicate (n^k) []))=List.replicate (n^k) []:=by simp
   rw[e]at this
   have this:BG Aa ((n:Int),rels,(k:Int),List.replicate (n^k) [],0)=_:=this
   rw[this];rfl
  ·have hr:=h.ok _ (List.getElem_mem ht)
   obtain⟨h1,h2⟩:=Gt h t (by omega)
   have h11:=I2 hr hn hk.2 (by omega) ht rfl h1 h2 (by omega)
   have htk:(rels.take (t+1)).foldl (EE n k) (List.replicate (n^k) [])=EE n k ((rels.take t).foldl (EE n k) (List.replicate (n^k) [])) rels[t]:=by
    rw[List.take_succ_eq_append_getElem ht,List.foldl_append];rfl
   simp only[BG,Ai,ht,Ap ht,Option.bind_some,h11,htk,Ag (show t<4611686018427387904 by omega)]
   rw[if_pos (by simp;omega)];rfl
  ·simp only[BG,List.take_length]
   rw[if_neg (by simp)];rfl
 ·simp only[BF,Cd (show n<=64 by omega) hk.2,Option.bind_some,List.replicate_succ',Ag (show t<4611686018427387904 by omega)]
  rw[if_pos (decide_eq_true (show(t:Int)<((n^k:Nat):Int) from Int.ofNat_lt.2 ht)),if_pos (by simp;unfold lim;omega)]
 ·simp only[BF,Cd (show n<=64 by omega) hk.2,Option.bind_some]
  rw[if_neg (by simp)]
end
end T
open Go Go.Va
namespace T
section
variable {n k m:Nat} {r:Ba} {rels:List Ba}
theorem Gd (h:ROk n m r) (hn:1<=n/\n<=4) (hk1:0<k) {i:Nat} (hi:i<r.2.length^k):Bc (PL n k r i)<n^k:=by
 have hb:0<r.2.length:=by
  rcases Nat.eq_zero_or_pos r.2.length with e2|e2
  ·rw[e2,Nat.zero_pow hk1]at hi;omega
  ·exact e2
 exact Fy (Nat.pow_pos (by omega)) (h.pl_lt hb)
theorem Hm (h:ROk n m r) (hn:1<=n/\n<=4) (hk1:0<k) {X:NT} (hX:X.length=n^k): ∀(i:Nat),i<=r.2.length^k-> ∀at' d,d∈((List.range i).foldl (Ej n k r) X).getD at' []↔d∈X.getD at' []∨ ∃j,j<i/\Bc (PL n k r j)=at'/\d=(cI (PL n k r j),r):=by
 intro i
 induction i with
 |zero=>intro _ a d;simp
 |succ i ih=>
  intro hi a d
  have hlen:((List.range i).foldl (Ej n k r) X).length=n^k:=by rw[DI];exact hX
  have hl:=Gd h hn hk1 (i:=i) (by omega)
  have ih:=ih (by omega)
  rw[DU]
  generalize (List.range i).foldl (Ej n k r) X=Y at ih hlen
  unfold Ej
  rw[ET (by rw[hlen];exact hl)]
  by_cases e:a=Bc (PL n k r i)
  ·rw[if_pos e,List.mem_append,←e,ih,List.mem_singleton]
   constructor
   ·rintro ((h1|⟨j,h1,h2⟩)|h1)
    ·exact .inl h1
    ·exact .inr ⟨j,by omega,h2⟩
    ·exact .inr ⟨i,by omega,e.symm,h1⟩
   ·rintro (h1|⟨j,h1,h2,h3⟩)
    ·exact .inl (.inl h1)
    ·by_cases e2:j=i
     ·subst e2;exact .inr h3
     ·exact .inl (.inr ⟨j,by omega,h2,h3⟩)
  ·rw[if_neg e,ih]
   constructor
   ·rintro (h1|⟨j,h1,h2⟩)
    ·exact .inl h1
    ·exact .inr ⟨j,by omega,h2⟩
   ·rintro (h1|⟨j,h1,h2,h3⟩)
    ·exact .inl h1
    ·by_cases e2:j=i
     ·subst e2;exact absurd h2.symm e
     ·exact .inr ⟨j,by omega,h2,h3⟩
theorem Ih {X:NT}:(EE n k X r).length=X.length:=by unfold EE;rw[DI]
theorem Fl (hn:1<=n/\n<=4) (hk1:0<k): ∀(l:List Ba) (X:NT),X.length=n^k->(∀r∈l,ROk n r.1.toNat r)-> ∀at' d,d∈(l.foldl (EE n k) X).getD at' []↔d∈X.getD at' []∨ ∃r∈l,∃j,j<r.2.length^k/\Bc (PL n k r j)=at'/\d=(cI (PL n k r j),r)
 | [],X,_,_,a,d=>by simp
 |r::l,X,hX,hl,a,d=>by
  rw[List.foldl_cons,Fl hn hk1 l _ (by rw[Ih];exact hX) (λr hr=>hl r (List.mem_cons_of_mem _ hr))]
  unfold EE
  rw[Hm (hl r (by simp)) hn hk1 hX _ (Nat.le_refl _)]
  constructor
  ·rintro ((h1|⟨j,h1⟩)|⟨q,h1,h2⟩)
   ·exact .inl h1
   ·exact .inr ⟨r,by simp,j,h1⟩
   ·exact .inr ⟨q,by simp[h1],h2⟩
  ·rintro (h1|⟨q,h1,h2⟩)
   ·exact .inl (.inl h1)
   ·rcases List.mem_cons.1 h1 with rfl|h1
    ·exact .inl (.inr h2)
    ·exact .inr ⟨q,h1,h2⟩
theorem GJ {α:Type} {N a:Nat} {d:α}: ¬d∈(List.replicate N ([]:List α)).getD a []:=by
 simp[List.getD_eq_getElem?_getD,List.getElem?_replicate];split<;>simp
theorem Gv (h:RelsOk n k rels) (at':Nat) (d):d∈(Dl n k rels).getD at' []↔ ∃r∈rels,∃j,j<r.2.length^k/\Bc (PL n k r j)=at'/\d=(cI (PL n k r j),r):=by
 unfold Dl
 rw[Fl h.hn h.hk.1 rels _ (by simp) h.ok]
 constructor
 ·rintro (h1|h1)
  ·exact absurd h1 GJ
  ·exact h1
 ·exact .inr
theorem IR {a b:List Nat} (h:cI a=cI b):a=b:=by
 unfold cI at h
 exact List.map_inj_right (λx y e=>by exact Int.ofNat_inj.1 e)|>.1 h
theorem Hl (h:ROk n m r) (hn:1<=n/\n<=4) (hk:k<=3) (hk1:0<k) {X:DT} (hX:X.length=n^k): ∀(i:Nat),i<=r.2.length^k->
  (∀at' d,d∈((List.range i).foldl (Dj n k r) (X,[])).1.getD at' []↔d∈X.getD at' []∨ ∃j,j<i/\Bc (PL n k r j)=at'/\d=(cI (PL n k r j),De r.2))/\
  (∀s,s∈((List.range i).foldl (Dj n k r) (X,[])).2↔ ∃j,j<i/\s=DD (cI (PL n k r j))):=by
 intro i
 induction i with
 |zero=>intro _;exact⟨λa d=>by simp,λs=>by simp⟩
 |succ i ih=>
  intro hi
  obtain⟨ih1,ih2⟩:=ih (by omega)
  have hlen:((List.range i).foldl (Dj n k r) (X,[])).1.length=n^k:=by rw[Ek];exact hX
  have hl:=Gd h hn hk1 (i:=i) (by omega)
  have hb:0<r.2.length:=by
   rcases Nat.eq_zero_or_pos r.2.length with e2|e2
   ·rw[e2,Nat.zero_pow hk1]at hi;omega
   ·exact e2
  rw[DU]
  generalize (List.range i).foldl (Dj n k r) (X,[])=Y at ih1 ih2 hlen
  unfold Dj
  by_cases hc:Xs Y.2 (DD (cI (PL n k r i)))=true
  ·rw[if_pos hc]
   obtain⟨j0,hj0,e0⟩:=(ih2 _).1 (FA.1 hc)
   have e1:=GD (FB h hn hk hb i) (FB h hn hk hb j0) e0
   have e2:=IR e1
   refine⟨λa d=>?_,λs=>?_⟩
   ·rw[ih1]
    constructor
    ·rintro (h1|⟨j,h1,h2⟩)
     ·exact .inl h1
     ·exact .inr ⟨j,by omega,h2⟩
    ·rintro (h1|⟨j,h1,h2,h3⟩)
     ·exact .inl h1
     ·by_cases e3:j=i
      ·subst e3;exact .inr ⟨j0,hj0,by rw[←e2];exact h2,by rw[←e2];exact h3⟩
      ·exact .inr ⟨j,by omega,h2,h3⟩
   ·rw[ih2]
    constructor
    ·rintro ⟨j,h1,h2⟩;exact⟨j,by omega,h2⟩
    ·rintro ⟨j,h1,h2⟩
     by_cases e3:j=i
     ·subst e3;exact⟨j0,hj0,by rw[←e2];exact h2⟩
     ·exact⟨j,by omega,h2⟩
  ·rw[if_neg hc]
   refine⟨λa d=>?_,λs=>?_⟩
   ·rw[ET (by rw[hlen];exact hl)]
    by_cases e:a=Bc (PL n k r i)
    ·rw[if_pos e,List.mem_append,←e,ih1,List.mem_singleton]
     constructor
     ·rintro ((h1|⟨j,h1,h2⟩)|h1)
      ·exact .inl h1
      ·exact .inr ⟨j,by omega,h2⟩
      ·exact .inr ⟨i,by omega,e.symm,h1⟩
     ·rintro (h1|⟨j,h1,h2,h3⟩)
      ·exact .inl (.inl h1)
      ·by_cases e2:j=i
       ·subst e2;exact .inr h3
       ·exact .inl (.inr ⟨j,by omega,h2,h3⟩)
    ·rw[if_neg e,ih1]
     constructor
     ·rintro (h1|⟨j,h1,h2⟩)
      ·exact .inl h1
      ·exact .inr ⟨j,by omega,h2⟩
     ·rintro (h1|⟨j,h1,h2,h3⟩)
      ·exact .inl h1
      ·by_cases e2:j=i
       ·subst e2;exact absurd h2.symm e
       ·exact .inr ⟨j,by omega,h2,h3⟩
   ·rw[GE,ih2]
    constructor
    ·rintro (⟨j,h1,h2⟩|h1)
     ·exact⟨j,by omega,h2⟩
     ·exact⟨i,by omega,h1⟩
    ·rintro ⟨j,h1,h2⟩
     by_cases e2:j=i
     ·subst e2;exact .inr h2
     ·exact .inl ⟨j,by omega,h2⟩
theorem Fk (hn:1<=n/\n<=4) (hk:k<=3) (hk1:0<k): ∀(l:List Ba) (X:DT),X.length=n^k->(∀r∈l,ROk n r.1.toNat r)-> ∀at' d,d∈(l.foldl (E0 n k) X).getD at' []↔d∈X.getD at' []∨ ∃r∈l,∃j,j<r.2.length^k/\Bc (PL n k r j)=at'/\d=(cI (PL n k r j),De r.2)
 | [],X,_,_,a,d=>by simp
 |r::l,X,hX,hl,a,d=>by
  rw[List.foldl_cons,Fk hn hk hk1 l _ (by rw[GH];exact hX) (λr hr=>hl r (List.mem_cons_of_mem _ hr))]
  unfold E0
  rw[(Hl (hl r (by simp)) hn hk hk1 hX _ (Nat.le_refl _)).1]
  constructor
  ·rintro ((h1|⟨j,h1⟩)|⟨q,h1,h2⟩)
   ·exact .inl h1
   ·exact .inr ⟨r,by simp,j,h1⟩
   ·exact .inr ⟨q,by simp[h1],h2⟩
  ·rintro (h1|⟨q,h1,h2⟩)
   ·exact .inl (.inl h1)
   ·rcases List.mem_cons.1 h1 with rfl|h1
    ·exact .inl (.inr h2)
    ·exact .inr ⟨q,h1,h2⟩
theorem Gs (h:RelsOk n k rels) (at':Nat) (d):d∈(C7 n k rels).getD at' []↔ ∃r∈rels,∃j,j<r.2.length^k/\Bc (PL n k r j)=at'/\d=(cI (PL n k r j),De r.2):=by
 unfold C7
 rw[Fk h.hn h.hk.2 h.hk.1 rels _ (by simp) h.ok]
 constructor
 ·rintro (h1|h1)
  ·exact absurd h1 GJ
  ·exact h1
 ·exact .inr
def EX (n k:Nat) (rels:List Ba) (at':Nat) (tab:List Int):Bool:=
 rels.all λr=>(List.range (r.2.length^k)).all λj=>!decide (Bc (PL n k r j)=at')||decide ((cI (PL n k r j)).map (BZ tab)∈r.2)
theorem HB {t:List Int} {x q:Nat} (h:x<q):BZ (t.take q) (x:Int)=BZ t (x:Int):=by
 simp[BZ,List.getD_eq_getElem?_getD,List.getElem?_take,h]
theorem FY {at':Nat} {tab:List Int}:EX n k rels at' (tab.take (at'+1))=EX n k rels at' tab:=by
 unfold EX
 congr 1;funext r;congr 1;funext j
 by_cases e:Bc (PL n k r j)=at'
 ·have:(cI (PL n k r j)).map (BZ (tab.take (at'+1)))=(cI (PL n k r j)).map (BZ tab):=by
   refine List.map_congr_left λx hx=>?_
   unfold cI at hx
   obtain⟨y,hy,rfl⟩:=List.mem_map.1 hx
   have:=(Eb (PL n k r j) 0).2 y hy
   unfold Bc at e
   exact HB (by omega)
  rw[this]
 ·simp[e]
theorem Iv (h:RelsOk n k rels):(C7 n k rels).length=n^k/\Dy (C7 n k rels) 2097152:=by
 have:=Gr h rels.length (Nat.le_refl _)
 rw[List.take_length]at this
 have hl:=h.len
 exact⟨this.1,λp=>by have:=this.2 p;unfold C7;omega⟩
theorem Gu (h:RelsOk n k rels):(Dl n k rels).length=n^k/\Dy (Dl n k rels) 2097152:=by
 have:=Gt h rels.length (Nat.le_refl _)
 rw[List.take_length]at this
 have hl:=h.len
 exact⟨this.1,λp=>by have:=this.2 p;unfold Dl;omega⟩
theorem Iz (h:RelsOk n k rels) {tab:List Int} (ht:tab.length=n^k) (hv: ∀x∈tab,0<=x/\x<256) {at':Nat} (ha:at'<n^k):
  Am (true,(n:Int),(k:Int),C7 n k rels) tab (at':Int)=some (EX n k rels at' tab):=by
 obtain⟨hlen,hroom⟩:=Iv h
 have hp:=Bv h.hn.2 h.hk.2
 have hkey: ∀d∈(C7 n k rels).getD at' [],∃r∈rels,∃j,j<r.2.length^k/\Bc (PL n k r j)=at'/\d=(cI (PL n k r j),De r.2)/\CO d.1 tab=some (d.1.map (BZ tab))/\Cr (d.1.map (BZ tab))=some (DD (d.1.map (BZ tab)))/\Xs d.2 (DD (d.1.map (BZ tab)))=decide (d.1.map (BZ tab)∈r.2):=λd hd=>by
  obtain⟨r,hr,j,hj,hla,rfl⟩:=(Gs h at' d).1 hd
  have hrk:=h.ok r hr
  have hm:=hrk.hm
  have hpl: ∀v∈cI (PL n k r j),0<=v/\v<tab.length:=λv hv=>by
   unfold cI at hv
   obtain⟨y,hy,rfl⟩:=List.mem_map.1 hv
   have:=(Eb (PL n k r j) 0).2 y hy
   unfold Bc at hla
   omega
  have hval: ∀x∈(cI (PL n k r j)).map (BZ tab),0<=x/\x<256:=λx hx=>by
   obtain⟨v,hvv,rfl⟩:=List.mem_map.1 hx
   obtain⟨h1,h2⟩:=hpl v hvv
   have:v.toNat<tab.length:=by omega
   unfold BZ
   rw[Ah this]
   exact hv _ (List.getElem_mem this)
  refine⟨r,hr,j,hj,hla,rfl,E9 (by rw[Bj,hrk.pl_len];omega) hpl,C1 (by rw[List.length_map,Bj,hrk.pl_len];omega) hval,?_⟩
  exact EY (λu hu x hx=>by have:=hrk.tv u hu x hx;have:=h.hn;omega) hval
 have e:EX n k rels at' tab=((C7 n k rels).getD at' []).all λd=>Xs d.2 (DD (d.1.map (BZ tab))):=by
  rw[Bool.eq_iff_iff,List.all_eq_true]
  unfold EX
  simp only[List.all_eq_true,Bool.or_eq_true,Bool.not_eq_true',decide_eq_false_iff_not,decide_eq_true_eq,List.mem_range]
  constructor
  ·intro h1 d hd
   obtain⟨r,hr,j,hj,hla,e1,_,_,h2⟩:=hkey d hd
   rw[h2,decide_eq_true_eq,e1]
   rcases h1 r hr j hj with h3|h3
   ·exact absurd hla h3
   ·exact h3
  ·intro h1 r hr j hj
   by_cases hla:Bc (PL n k r j)=at'
   ·right
    have hd:=(Gs h at' (cI (PL n k r j),De r.2)).2 ⟨r,hr,j,hj,hla,rfl⟩
    have h2:=h1 _ hd
    have hrk:=h.ok r hr
    rw[EY (λu hu x hx=>by have:=hrk.tv u hu x hx;have:=h.hn;omega) (λx hx=>by
     obtain⟨v,hvv,rfl⟩:=List.mem_map.1 hx
     unfold cI at hvv
     obtain⟨y,hy,rfl⟩:=List.mem_map.1 hvv
     have:=(Eb (PL n k r j) 0).2 y hy
     unfold Bc at hla
     have hyt:y<tab.length:=by omega
     unfold BZ
     rw[Ah (by simpa using hyt)]
     exact hv _ (List.getElem_mem _)),decide_eq_true_eq]at h2
    exact h2
   ·exact .inl hla
 have hgd:gd (C7 n k rels) (at':Int) []=(C7 n k rels).getD at' []:=rfl
 unfold Am
 simp only[if_true,Ai,hlen,ha,hgd]
 have hro:=hroom at'
 generalize (C7 n k rels).getD at' []=l at hkey e hro
 rw[e]
 have:=EU l (λf i=>AB f (tab,l,(l.length:Int),i)) (λd=>Xs d.2 (DD (d.1.map (BZ tab)))) (.inr false) (.inl ()) (λf i hi=>?_) (λf=>?_) (n:=Aa) (by unfold Aa;omega)
 ·have this:AB Aa (tab,l,(l.length:Int),0)=_:=this
  rw[this]
  cases l.all λd=>Xs d.2 (DD (d.1.map (BZ tab)))<;>rfl
 ·obtain⟨r,hr,j,hj,hla,e1,h1,h2,_⟩:=hkey _ (List.getElem_mem hi)
  simp only[AB,Ai,hi,Ap hi,h1,h2,Option.bind_some,Ag (show i<4611686018427387904 by omega)]
  rw[if_pos (by simp;omega)]
  cases Xs l[i].2 (DD (l[i].1.map (BZ tab)))<;>simp
 ·simp[AB]
end
end T
open Go Go.Va
namespace T
abbrev PS:=Bool×Int×Int×DT
abbrev SIn (σ:Type):=Int×List Int×σ×PS×List Int×Unit
abbrev HC (σ:Type):=List Int×σ×PS×List Int×Bool
def gL {σ:Type} (rec:SIn σ->Option (HC σ)):Nat->(Int×List Int×σ×PS×List Int×Unit×Int)->Option ((List Int×σ×PS×List Int×Unit)⊕(List Int×σ×PS×List Int×Unit×Bool))
 |0,_=>none
 |n+1,(at_,t1,t2,t3,t4,t5,x)=>
 if t3.1=true then
 if decide (x<t3.2.1)then
 if inb at_ t4 then
 if decide ((gd t4 at_ 0)≥0)then
 if inb at_ t4 then
 if(gd t4 at_ 0) !=x then
 gL rec n (at_,t1,t2,t3,t4,(),w64 (x+1))
 else
 if inb at_ t1 then
 (Am t3 (stt t1 at_ x) at_).bind λr2=>
 if r2 then
 (rec (w64 (at_+1),stt t1 at_ x,t2,t3,t4,())).bind λr3=>
 if !r3.2.2.2.2 then
 some (.inr (r3.1,r3.2.1,r3.2.2.1,r3.2.2.2.1,(),false))
 else
 gL rec n (at_,r3.1,r3.2.1,r3.2.2.1,r3.2.2.2.1,(),w64 (x+1))
 else
 gL rec n (at_,stt t1 at_ x,t2,t3,t4,(),w64 (x+1))
 else none
 else none
 else
 if inb at_ t1 then
 (Am t3 (stt t1 at_ x) at_).bind λr4=>
 if r4 then
 (rec (w64 (at_+1),stt t1 at_ x,t2,t3,t4,())).bind λr5=>
 if !r5.2.2.2.2 then
 some (.inr (r5.1,r5.2.1,r5.2.2.1,r5.2.2.2.1,(),false))
 else
 gL rec n (at_,r5.1,r5.2.1,r5.2.2.1,r5.2.2.2.1,(),w64 (x+1))
 else
 gL rec n (at_,stt t1 at_ x,t2,t3,t4,(),w64 (x+1))
 else none
 else none
 else
 some (.inl (t1,t2,t3,t4,()))
 else none
def FR {σ:Type} (cb:List Int->σ->Option (σ×Bool)) (rec:SIn σ->Option (HC σ)) (x:SIn σ):Option (HC σ):=
 if x.1==(x.2.1.length:Int)then
  (cb x.2.1 x.2.2.1).bind λr1=>some (x.2.1,r1.1,x.2.2.2.1,x.2.2.2.2.1,r1.2)
 else
  (gL rec Aa (x.1,x.2.1,x.2.2.1,x.2.2.2.1,x.2.2.2.2.1,(),0)).bind λs2=>
   match s2 with
   | .inl s3=>some (s3.1,s3.2.1,s3.2.2.1,s3.2.2.2.1,true)
   | .inr s4=>some (s4.1,s4.2.1,s4.2.2.1,s4.2.2.2.1,s4.2.2.2.2.2)
def gF {σ:Type} (cb:List Int->σ->Option (σ×Bool)):Nat->SIn σ->Option (HC σ)
 |0,_=>none
 |d+1,x=>FR cb (gF cb d) x
def Bs {σ:Type} (cb:List Int->σ->Option (σ×Bool)):List (List Int)->σ->Option (σ×Bool)
 | [],s=>some (s,true)
 |t::l,s=>match cb t s with|some (s',true)=>Bs cb l s'|some (s',false)=>some (s',false)|none=>none
theorem DP {σ:Type} {cb:List Int->σ->Option (σ×Bool)}: ∀(l l':List (List Int)) (s:σ),Bs cb (l++l') s=match Bs cb l s with|some (s',true)=>Bs cb l' s'|some (s',false)=>some (s',false)|none=>none
 | [],l',s=>rfl
 |t::l,l',s=>by
  simp only[List.cons_append,Bs]
  cases hc:cb t s with
  |none=>rfl
  |some q=>
   obtain⟨s',b⟩:=q
   cases b with
   |false=>rfl
   |true=>exact DP l l' s'
def Dq (given:List Int) (at' x:Nat):Bool:=!(decide (given.getD at' 0≥0)&&given.getD at' 0 !=(x:Int))
def C8 (n:Nat) (given:List Int) (ok:List Int->Bool):Nat->List Int->List (List Int)
 |0,pre=> [pre]
 |m+1,pre=>(List.range n).flatMap λx=>if Dq given pre.length x&&ok (pre++ [(x:Int)])then C8 n given ok m (pre++ [(x:Int)])else []
section
variable {n k:Nat} {rels:List Ba} {given:List Int}
def okB (n k:Nat) (rels:List Ba) (pre:List Int):Bool:=EX n k rels (pre.length-1) pre
theorem Jr (h:RelsOk n k rels) (hg:given.length=n^k) {σ:Type} (cb:List Int->σ->Option (σ×Bool)): ∀(m d at':Nat) (tab:List Int) (s:σ),at'+m=n^k->m<d->tab.length=n^k->(∀x∈tab,0<=x/\x<256)->
    ∀s' b,Bs cb (C8 n given (okB n k rels) m (tab.take at')) s=some (s',b)->
    ∃tab':List Int,tab'.length=n^k/\(∀x∈tab',0<=x/\x<256)/\tab'.take at'=tab.take at'/\gF cb d ((at':Int),tab,s,(true,(n:Int),(k:Int),C7 n k rels),given,())=some (tab',s',(true,(n:Int),(k:Int),C7 n k rels),given,b):=by
  have hn:=h.hn
  have hp:=Bv (n:=n) (k:=k) hn.2 h.hk.2
  intro m
  induction m with
  |zero=>
    intro d a tab s ha hd ht hv s' b hf
    obtain⟨d,rfl⟩: ∃z,d=z+1:=⟨d-1,by omega⟩
    have e:tab.take a=tab:=List.take_of_length_le (by omega)
    rw[e]at hf
    simp only[C8,Bs]at hf
    refine⟨tab,ht,hv,rfl,?_⟩
    simp only[gF,FR]
    rw[if_pos (by simp;omega)]
    cases hc:cb tab s with
    |none=>rw[hc]at hf;exact absurd hf (by simp)
    |some q=>
      obtain⟨s1,b1⟩:=q
      rw[hc]at hf
      have:s1=s'/\b1=b:=by cases b1<;>simpa using hf
      obtain⟨rfl,rfl⟩:=this
      rfl
  |succ m ih=>
    intro d a tab s ha hd ht hv s' b hf
    obtain⟨d,rfl⟩: ∃z,d=z+1:=⟨d-1,by omega⟩
    have hat:a<n^k:=by omega
    have key: ∀(c x f:Nat) (tab1:List Int) (s1:σ),x+c=n->c<f->tab1.length=n^k->(∀x∈tab1,0<=x/\x<256)->tab1.take a=tab.take a-> ∀s' b,
        Bs cb ((List.range' x c).flatMap λx=>if Dq given (tab.take a).length x&&okB n k rels (tab.take a++ [(x:Int)])then C8 n given (okB n k rels) m (tab.take a++ [(x:Int)])else []) s1=some (s',b)->
        ∃tab':List Int,tab'.length=n^k/\(∀x∈tab',0<=x/\x<256)/\tab'.take a=tab.take a/\gL (gF cb d) f ((a:Int),tab1,s1,(true,(n:Int),(k:Int),C7 n k rels),given,(),(x:Int))=some (if b then .inl (tab',s',(true,(n:Int),(k:Int),C7 n k rels),given,())else .inr (tab',s',(true,(n:Int),(k:Int),C7 n k rels),given,(),false)):=by
      intro c
      induction c with
      |zero=>
        intro x f tab1 s1 hx hf1 ht1 hv1 htk s' b hf2
        obtain⟨f,rfl⟩: ∃z,f=z+1:=⟨f-1,by omega⟩
        have:s1=s'/\true=b:=by simpa[Bs]using hf2
        obtain⟨rfl,rfl⟩:=this
        refine⟨tab1,ht1,hv1,htk,?_⟩
        simp only[gL]
        rw[if_pos trivial,if_neg (by simp;omega)];rfl
      |succ c ihc=>
        intro x f tab1 s1 hx hf1 ht1 hv1 htk s' b hf2
        obtain⟨f,rfl⟩: ∃z,f=z+1:=⟨f-1,by omega⟩
        have hlen:(tab.take a).length=a:=by rw[List.length_take];omega
        have hag:a<given.length:=by omega
        have hat1:a<tab1.length:=by omega
        rw[List.range'_succ,List.flatMap_cons,DP,hlen]at hf2
        rw[hlen]at ihc
        have hset:(tab1.set a (x:Int)).take (a+1)=tab.take a++ [(x:Int)]:=by
          rw[List.take_succ_eq_append_getElem (by simp;omega),List.take_set_of_le (Nat.le_refl _),List.getElem_set_self,htk]
        have hsl:(tab1.set a (x:Int)).length=n^k:=by simp[ht1]
        have hsv: ∀y∈tab1.set a (x:Int),0<=y/\y<256:=λy hy=>by
          rcases List.mem_or_eq_of_mem_set hy with h1|h1
          · exact hv1 y h1
          · subst h1;omega
        have hst:(tab1.set a (x:Int)).take a=tab.take a:=by rw[List.take_set_of_le (Nat.le_refl _),htk]
        have hfit:=Iz h hsl hsv hat
        have hokB:okB n k rels (tab.take a++ [(x:Int)])=EX n k rels a (tab1.set a (x:Int)):=by
          unfold okB
          rw[List.length_append,hlen,List.length_singleton,Nat.add_sub_cancel,←hset,FY]
        have hw:w64 ((x:Int)+1)=((x+1:Nat):Int):=Ag (by omega)
        have hwa:w64 ((a:Int)+1)=((a+1:Nat):Int):=Ag (by omega)
        have step : Dq given a x = true → ∀ R, R = (Am (true, (n : Int), (k : Int), C7 n k rels) (tab1.set a (x : Int)) (a : Int)).bind (fun r4 =>
                if r4 then
                  (gF cb d (w64 ((a:Int)+1),tab1.set a (x:Int),s1,(true,(n:Int),(k:Int),C7 n k rels),given,())).bind λr5=>
                    if !r5.2.2.2.2 then
                      some (.inr (r5.1,r5.2.1,r5.2.2.1,r5.2.2.2.1,(),false))
                    else
                      gL (gF cb d) f ((a:Int),r5.1,r5.2.1,r5.2.2.1,r5.2.2.2.1,(),w64 ((x:Int)+1))
                else
                  gL (gF cb d) f ((a:Int),tab1.set a (x:Int),s1,(true,(n:Int),(k:Int),C7 n k rels),given,(),w64 ((x:Int)+1)))->
            ∃tab':List Int,tab'.length=n^k/\(∀x∈tab',0<=x/\x<256)/\tab'.take a=tab.take a/\R=some (if b then .inl (tab',s',(true,(n:Int),(k:Int),C7 n k rels),given,())else .inr (tab',s',(true,(n:Int),(k:Int),C7 n k rels),given,(),false)):=by
          intro hm R hR
          rw[hfit]at hR
          simp only[Option.bind_some]at hR
          rw[hm,hokB]at hf2
          cases hfi:EX n k rels a (tab1.set a (x:Int))with
          |false=>
            rw[hfi]at hf2 hR
            simp only[Bool.and_false,Bool.false_eq_true,if_false,Bs]at hf2 hR
            rw[hw]at hR
            rw[hR]
            exact ihc (x+1) f _ s1 (by omega) (by omega) hsl hsv hst s' b hf2
          |true=>
            rw[hfi]at hf2 hR
            simp only[Bool.and_true,if_true]at hf2 hR
            rw[hwa]at hR
            cases hq:Bs cb (C8 n given (okB n k rels) m (tab.take a++ [(x:Int)])) s1 with
            |none=>rw[hq]at hf2;exact absurd hf2 (by simp)
            |some q=>
              obtain⟨s2,b2⟩:=q
              rw[hq]at hf2
              rw[←hset]at hq
              obtain⟨tab2,h1,h2,h3,h4⟩:=ih d (a+1) _ s1 (by omega) (by omega) hsl hsv s2 b2 hq
              have h3':tab2.take a=tab.take a:=by
                have:=congrArg (List.take a) h3
                rw[List.take_take,List.take_take,Nat.min_eq_left (by omega)]at this
                rw[this,hst]
              rw[h4]at hR
              simp only[Option.bind_some]at hR
              cases b2 with
              |false=>
                have:s2=s'/\false=b:=by simpa using hf2
                obtain⟨rfl,rfl⟩:=this
                refine⟨tab2,h1,h2,h3',?_⟩
                rw[hR];rfl
              |true=>
                simp only[Bool.not_true,Bool.false_eq_true,if_false,hw]at hR
                rw[hR]
                exact ihc (x+1) f tab2 s2 (by omega) (by omega) h1 h2 h3' s' b hf2
        simp only[gL,CH,Ai,hag,hat1,if_true]
        rw[if_pos (by simp;omega)]
        by_cases hc1:gd given (a:Int) 0≥0
        · rw[if_pos (decide_eq_true hc1)]
          by_cases hc2:gd given (a:Int) 0=(x:Int)
          · rw[if_neg (by simpa using hc2)]
            exact step (by unfold Dq;rw[show given.getD a 0=(x:Int) from hc2];simp) _ rfl
          · rw[if_pos (by simpa using hc2),hw]
            have hm:Dq given a x=false:=by
              unfold Dq
              rw[decide_eq_true (show given.getD a 0≥0 from hc1)]
              simp only[Bool.true_and,Bool.not_eq_false',bne_iff_ne];exact hc2
            rw[hm]at hf2
            simp only[Bool.false_and,Bool.false_eq_true,if_false,Bs]at hf2
            exact ihc (x+1) f tab1 s1 (by omega) (by omega) ht1 hv1 htk s' b hf2
        · rw[if_neg (by simpa using hc1)]
          exact step (by unfold Dq;rw[decide_eq_false (show¬given.getD a 0≥0 from hc1)];rfl) _ rfl
    simp only[C8]at hf
    rw[List.range_eq_range']at hf
    obtain⟨tab',h1,h2,h3,h4⟩:=key n 0 Aa tab s (by omega) (by unfold Aa;omega) ht hv rfl s' b hf
    refine⟨tab',h1,h2,h3,?_⟩
    simp only[gF,FR]
    rw[if_neg (by simp;omega)]
    have h4:gL (gF cb d) Aa ((a:Int),tab,s,(true,(n:Int),(k:Int),C7 n k rels),given,(),0)=_:=h4
    rw[h4]
    cases b<;>rfl
end
end T
open Go Go.Va
namespace T
section
variable {n k:Nat} {rels:List Ba} {given:List Int}
theorem FE {m:Nat} {r:Ba} (h:ROk n m r) {t:List Int} (ht:t.length=m):BU r t=some (decide (t∈r.2)):=by
 have hm:=h.hm
 have har:=h.ar
 have hmany:=h.many
 unfold BU
 obtain⟨q,h3,_⟩:=CV (list:=r.2) (t:=t) (k:=m) (by omega) (by omega) h.tl ht h.inc
 rw[if_neg (by simp;omega),h3];rfl
theorem HR (h:RelsOk n k rels) {tab:List Int} {at':Nat} (ht:tab.length=at'+1):CD ((Dl n k rels).getD at' []) tab=some (okB n k rels tab):=by
 obtain⟨hlen,hroom⟩:=Gu h
 have hkey: ∀d∈(Dl n k rels).getD at' [],∃r∈rels,∃j,j<r.2.length^k/\Bc (PL n k r j)=at'/\d=(cI (PL n k r j),r)/\(∀v∈d.1,0<=v/\v<tab.length)/\d.1.length<=3/\BU d.2 (d.1.map (BZ tab))=some (decide (d.1.map (BZ tab)∈d.2.2)):=λd hd=>by
  obtain⟨r,hr,j,hj,hla,rfl⟩:=(Gv h at' d).1 hd
  have hrk:=h.ok r hr
  have hm:=hrk.hm
  have hpl: ∀v∈cI (PL n k r j),0<=v/\v<tab.length:=λv hv=>by
   unfold cI at hv
   obtain⟨y,hy,rfl⟩:=List.mem_map.1 hv
   have:=(Eb (PL n k r j) 0).2 y hy
   unfold Bc at hla
   omega
  refine⟨r,hr,j,hj,hla,rfl,hpl,by rw[Bj,hrk.pl_len];omega,FE hrk (by rw[List.length_map,Bj,hrk.pl_len])⟩
 have e:okB n k rels tab=((Dl n k rels).getD at' []).all λd=>decide (d.1.map (BZ tab)∈d.2.2):=by
  rw[Bool.eq_iff_iff,List.all_eq_true]
  unfold okB EX
  rw[show tab.length-1=at' by omega]
  simp only[List.all_eq_true,Bool.or_eq_true,Bool.not_eq_true',decide_eq_false_iff_not,decide_eq_true_eq,List.mem_range]
  constructor
  ·intro h1 d hd
   obtain⟨r,hr,j,hj,hla,e1,_⟩:=hkey d hd
   rw[e1]
   rcases h1 r hr j hj with h3|h3
   ·exact absurd hla h3
   ·exact h3
  ·intro h1 r hr j hj
   by_cases hla:Bc (PL n k r j)=at'
   ·right
    exact h1 _ ((Gv h at' (cI (PL n k r j),r)).2 ⟨r,hr,j,hj,hla,rfl⟩)
   ·exact .inl hla
 have hro:=hroom at'
 rw[e]
 generalize (Dl n k rels).getD at' []=l at hkey hro
 unfold CD
 have:=EU l (λf i=>BD f (l,tab,i)) (λd=>decide (d.1.map (BZ tab)∈d.2.2)) (.inr false) (.inl ()) (λf i hi=>?_) (λf=>?_) (n:=Aa) (by unfold Aa;omega)
 ·have this:BD Aa (l,tab,0)=_:=this
  rw[this]
  cases l.all λd=>decide (d.1.map (BZ tab)∈d.2.2)<;>rfl
 ·obtain⟨r,hr,j,hj,hla,e1,h1,h2,h3⟩:=hkey _ (List.getElem_mem hi)
  have h6:=CX l[i].1.length (λf (o:List Int) q=>BE f (l,tab,(i:Int),o,q)) (λq=>(l[i].1.take q).map (BZ tab)) (r:=some (l,tab,(i:Int),l[i].1.map (BZ tab))) (λf q hq=>?_) (λf=>?_) (n:=Aa) (by unfold Aa;omega)
  ·have h6:BE Aa (l,tab,(i:Int),[],0)=_:=h6
   simp only[BD,h6,Option.bind_some,Ai,hi,Ap hi,h3,Ag (show i<4611686018427387904 by omega),if_true]
   rw[if_pos (by simp;omega)]
   by_cases hc:l[i].1.map (BZ tab)∈l[i].2.2
   ·rw[decide_eq_true hc];simp
   ·rw[decide_eq_false hc];simp
  ·obtain⟨hv0,hv1⟩:=h1 _ (List.getElem_mem hq)
   have hin:inb l[i].1[q] tab:=⟨hv0,hv1⟩
   have hval:gd tab l[i].1[q] 0=BZ tab l[i].1[q]:=rfl
   have htk:(l[i].1.take (q+1)).map (BZ tab)=(l[i].1.take q).map (BZ tab)++ [BZ tab l[i].1[q]]:=by
    rw[List.take_succ_eq_append_getElem hq,List.map_append];rfl
   simp only[BE,Ai,hi,Ap hi,hq,Ap hq,hin,hval,htk,if_true,Ag (show q<4611686018427387904 by omega)]
   rw[if_pos (by simp;omega),if_pos (by simp;unfold lim;omega)]
  ·simp only[BE,Ai,hi,Ap hi,List.take_length,if_true]
   rw[if_neg (by simp)]
 ·simp[BD]
abbrev SS:=List (List Int)×Int×Int
def Dk (s:SS):Bool:=s.2.2==1&&decide (s.2.1>0)
def sCb (t:List Int) (s:SS):Option (SS×Bool):=
 let s':SS:=(if decide ((s.1.length:Int)<s.2.2)then s.1++ [t]else s.1,s.2.1+1,s.2.2)
 some (s',!Dk s')
theorem FQ: ∀(l:List (List Int)) (s s':SS) (b:Bool),Bs sCb l s=some (s',b)->s.2.1<=s'.2.1/\s'.2.1<=s.2.1+l.length/\s'.1.length<=s.1.length+l.length/\s'.2.2=s.2.2/\(Dk s=false->b=!Dk s')
 | [],s,s',b,h=>by
  have:s=s'/\true=b:=by simpa[Bs]using h
  obtain⟨rfl,rfl⟩:=this
  exact⟨by omega,by simp,by simp,rfl,λh=>by simp[h]⟩
 |t::l,s,s',b,h=>by
  simp only[Bs,sCb]at h
  generalize hs1:((if decide ((s.1.length:Int)<s.2.2)then s.1++ [t]else s.1,s.2.1+1,s.2.2):SS)=s1 at h
  have h1:s1.2.1=s.2.1+1:=by rw[←hs1]
  have h2:s1.1.length<=s.1.length+1:=by
   rw[←hs1]
   show(if decide ((s.1.length:Int)<s.2.2)then s.1++ [t]else s.1).length<=_
   split<;>simp
  have h3:s1.2.2=s.2.2:=by rw[←hs1]
  cases hb:Dk s1 with
  |true=>
   rw[hb]at h
   have:s1=s'/\false=b:=by simpa using h
   obtain⟨rfl,rfl⟩:=this
   rw[List.length_cons]
   exact⟨by omega,by omega,by omega,h3,λ_=>by rw[hb];rfl⟩
  |false=>
   rw[hb]at h
   obtain⟨g1,g2,g3,g4,g5⟩:=FQ l s1 s' b h
   rw[List.length_cons]
   exact⟨by omega,by push_cast;omega,by omega,by omega,λ_=>g5 hb⟩
theorem EV: ∀(l:List (List Int)) (s:SS),∃q,Bs sCb l s=some q
 | [],s=>⟨_,rfl⟩
 |t::l,s=>by
  simp only[Bs,sCb]
  generalize ((if decide ((s.1.length:Int)<s.2.2)then s.1++ [t]else s.1,s.2.1+1,s.2.2):SS)=s1
  cases hb:Dk s1 with
  |true=>exact⟨_,rfl⟩
  |false=>exact EV l s1
theorem Js (h:RelsOk n k rels) (hg:given.length=n^k): ∀(m d:Nat) (pre:List Int) (s:SS),pre.length+m=n^k->m<d->Dk s=false->0<=s.2.1->s.2.2<=1000000->s.2.1+(C8 n given (okB n k rels) m pre).length<=4611686018427387904->
    ∀s' b,Bs sCb (C8 n given (okB n k rels) m pre) s=some (s',b)->Bp d ((n:Int),Dl n k rels,given,pre,s)=some s':=by
  have hn:=h.hn
  have hp:=Bv (n:=n) (k:=k) hn.2 h.hk.2
  obtain⟨hlenN,_⟩:=Gu h
  intro m
  induction m with
  |zero=>
    intro d pre s hpre hd hst h0 hr1 hr2 s' b hf
    obtain⟨d,rfl⟩: ∃z,d=z+1:=⟨d-1,by omega⟩
    simp only[C8,Bs,sCb]at hf
    simp only[Bp,Df]
    simp only[C8,List.length_singleton]at hr2
    have hs':s'=(if decide ((s.1.length:Int)<s.2.2)then s.1++ [pre]else s.1,s.2.1+1,s.2.2):=by
      cases hb:Dk ((if decide ((s.1.length:Int)<s.2.2)then s.1++ [pre]else s.1,s.2.1+1,s.2.2):SS)<;>rw[hb]at hf<;>simp at hf<;>rw[←hf.1]<;>simp
    have hw:w64 (s.2.1+1)=s.2.1+1:=Ax (by omega) (by omega)
    rw[if_pos (by simp;omega),hs',hw,Ck (by omega)]
    by_cases hc:(s.1.length:Int)<s.2.2
    · rw[if_pos (decide_eq_true hc),if_pos (decide_eq_true hc)]
      simp only[Option.bind_some]
      rw[if_pos (by rw[List.length_singleton];unfold lim;omega)]
    · rw[if_neg (by simpa using hc),if_neg (by simpa using hc)]
  |succ m ih=>
    intro d pre s hpre hd hst h0 hr1 hr2 s' b hf
    obtain⟨d,rfl⟩: ∃z,d=z+1:=⟨d-1,by omega⟩
    have hat:pre.length<n^k:=by omega
    have key: ∀(c x f:Nat) (s1:SS),x+c=n->c<f->Dk s1=false->0<=s1.2.1->
        s1.2.2<=1000000->
        s1.2.1+((List.range' x c).flatMap λx=>if Dq given pre.length x&&okB n k rels (pre++ [(x:Int)])then C8 n given (okB n k rels) m (pre++ [(x:Int)])else []).length<=4611686018427387904-> ∀s' b,
        Bs sCb ((List.range' x c).flatMap λx=>if Dq given pre.length x&&okB n k rels (pre++ [(x:Int)])then C8 n given (okB n k rels) m (pre++ [(x:Int)])else []) s1=some (s',b)->
        Ao (Bp d) f ((n:Int),Dl n k rels,given,pre,s1,([],(0,0)),(pre.length:Int),(x:Int))=some (if b then .inl (s',([],(0,0)))else .inr s'):=by
      intro c
      induction c with
      |zero=>
        intro x f s1 hx hf1 hst1 h01 hr1 hr2 s' b hf2
        obtain⟨f,rfl⟩: ∃z,f=z+1:=⟨f-1,by omega⟩
        have:s1=s'/\true=b:=by simpa[Bs]using hf2
        obtain⟨rfl,rfl⟩:=this
        simp only[Ao]
        rw[if_neg (by simp;omega)];rfl
      |succ c ihc=>
        intro x f s1 hx hf1 hst1 h01 hr1 hr2 s' b hf2
        obtain⟨f,rfl⟩: ∃z,f=z+1:=⟨f-1,by omega⟩
        have hag:pre.length<given.length:=by omega
        have haN:pre.length<(Dl n k rels).length:=by omega
        rw[List.range'_succ,List.flatMap_cons,DP]at hf2
        rw[List.range'_succ,List.flatMap_cons,List.length_append]at hr2
        have hol:=HR h (tab:=pre++ [(x:Int)]) (at':=pre.length) (by simp)
        have hw:w64 ((x:Int)+1)=((x+1:Nat):Int):=Ag (by omega)
        have step : Dq given pre.length x = true → ∀ R, R = (CD (gd (Dl n k rels) (pre.length : Int) []) (pre ++ [(x : Int)])).bind (fun r6 =>
                  if r6 then
                    (Bp d ((n:Int),Dl n k rels,given,pre++ [(x:Int)],(s1.1,(s1.2.1,s1.2.2)))).bind λr7=>
                      if r7.2.2==1 then
                        if decide (r7.2.1>0)then
                          some (.inr (r7.1,(r7.2.1,r7.2.2)))
                        else
                          Ao (Bp d) f ((n:Int),Dl n k rels,given,pre,(r7.1,(r7.2.1,r7.2.2)),([],(0,0)),(pre.length:Int),w64 ((x:Int)+1))
                      else
                        Ao (Bp d) f ((n:Int),Dl n k rels,given,pre,(r7.1,(r7.2.1,r7.2.2)),([],(0,0)),(pre.length:Int),w64 ((x:Int)+1))
                  else
                    if s1.2.2==1 then
                      if decide (s1.2.1>0)then
                        some (.inr (s1.1,(s1.2.1,s1.2.2)))
                      else
                        Ao (Bp d) f ((n:Int),Dl n k rels,given,pre,(s1.1,(s1.2.1,s1.2.2)),([],(0,0)),(pre.length:Int),w64 ((x:Int)+1))
                    else
                      Ao (Bp d) f ((n:Int),Dl n k rels,given,pre,(s1.1,(s1.2.1,s1.2.2)),([],(0,0)),(pre.length:Int),w64 ((x:Int)+1)))->
            R=some (if b then .inl (s',([],(0,0)))else .inr s'):=by
          intro hm R hR
          have hgd:gd (Dl n k rels) (pre.length:Int) []=(Dl n k rels).getD pre.length []:=rfl
          rw[hgd,hol]at hR
          simp only[Option.bind_some,hw]at hR
          rw[hm]at hf2 hr2
          have hnst: ∀(z:SS) {γ:Type} (A B:γ),Dk z=false->(if z.2.2==1 then if decide (z.2.1>0)then A else B else B)=B:=λz γ A B hz=>by
            unfold Dk at hz
            by_cases h1:z.2.2=1
            · rw[if_pos (by simpa using h1),if_neg (by simp[h1]at hz;simpa using hz)]
            · rw[if_neg (by simpa using h1)]
          have hyst: ∀(z:SS) {γ:Type} (A B:γ),Dk z=true->(if z.2.2==1 then if decide (z.2.1>0)then A else B else B)=A:=λz γ A B hz=>by
            unfold Dk at hz
            simp only[Bool.and_eq_true]at hz
            rw[if_pos hz.1,if_pos hz.2]
          cases hfi:okB n k rels (pre++ [(x:Int)])with
          |false=>
            rw[hfi]at hf2 hr2 hR
            simp only[Bool.and_false,Bool.false_eq_true,if_false,Bs,List.length_nil,Nat.zero_add]at hf2 hr2 hR
            rw[hnst s1 _ _ hst1]at hR
            rw[hR]
            exact ihc (x+1) f s1 (by omega) (by omega) hst1 h01 hr1 hr2 s' b hf2
          |true=>
            rw[hfi]at hf2 hr2 hR
            simp only[Bool.and_true,if_true]at hf2 hr2 hR
            obtain⟨⟨s2,b2⟩,hq⟩:=EV (C8 n given (okB n k rels) m (pre++ [(x:Int)])) s1
            obtain⟨g1,g2,g3,g4,g5⟩:=FQ _ _ _ _ hq
            have g5:=g5 hst1
            rw[hq]at hf2
            have hrec:=ih d (pre++ [(x:Int)]) s1 (by simp;omega) (by omega) hst1 h01 (by omega) (by push_cast at hr2;omega) s2 b2 hq
            have hrec:Bp d ((n:Int),Dl n k rels,given,pre++ [(x:Int)],(s1.1,(s1.2.1,s1.2.2)))=some s2:=hrec
            rw[hrec]at hR
            simp only[Option.bind_some]at hR
            cases hb2:Dk s2 with
            |true=>
              rw[hb2]at g5
              subst g5
              have:s2=s'/\false=b:=by simpa using hf2
              obtain⟨rfl,rfl⟩:=this
              rw[hyst s2 _ _ hb2]at hR
              rw[hR];rfl
            |false=>
              rw[hb2]at g5
              subst g5
              rw[hnst s2 _ _ hb2]at hR
              rw[hR]
              exact ihc (x+1) f s2 (by omega) (by omega) hb2 (by omega) (by push_cast at hr2;omega) (by push_cast at hr2;omega) s' b hf2
        simp only[Ao,Ai,hag,haN,if_true,Ck (show pre.length<=1099511627775 by omega),Option.bind_some]
        rw[if_pos (by simp;omega)]
        have hlim:pre.length+ [(x:Int)].length<=lim:=by rw[List.length_singleton];unfold lim;omega
        rw[if_pos hlim]
        by_cases hc1:gd given (pre.length:Int) 0≥0
        · rw[if_pos (decide_eq_true hc1)]
          by_cases hc2:gd given (pre.length:Int) 0=(x:Int)
          · rw[if_neg (by simpa using hc2)]
            exact step (by unfold Dq;rw[show given.getD pre.length 0=(x:Int) from hc2];simp) _ rfl
          · rw[if_pos (by simpa using hc2),hw]
            have hm:Dq given pre.length x=false:=by
              unfold Dq
              rw[decide_eq_true (show given.getD pre.length 0≥0 from hc1)]
              simp only[Bool.true_and,Bool.not_eq_false',bne_iff_ne];exact hc2
            rw[hm]at hf2 hr2
            simp only[Bool.false_and,Bool.false_eq_true,if_false,Bs,List.length_nil,Nat.zero_add]at hf2 hr2
            exact ihc (x+1) f s1 (by omega) (by omega) hst1 h01 hr1 hr2 s' b hf2
        · rw[if_neg (by simpa using hc1)]
          exact step (by unfold Dq;rw[decide_eq_false (show¬given.getD pre.length 0≥0 from hc1)];rfl) _ rfl
    simp only[C8]at hf hr2
    rw[List.range_eq_range']at hf hr2
    have h4:=key n 0 Aa s (by omega) (by unfold Aa;omega) hst h0 hr1 hr2 s' b hf
    simp only[Bp,Df]
    rw[if_neg (by simp;omega)]
    have h4:Ao (Bp d) Aa ((n:Int),Dl n k rels,given,pre,(s.1,(s.2.1,s.2.2)),([],(0,0)),(pre.length:Int),0)=_:=h4
    rw[h4]
    cases b<;>rfl
end
end T
