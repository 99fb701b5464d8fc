/- Plain lemmas on the typed functions of the program, the first part; no conditions. -/
import Derived.Test.YtbfbcfnbcbdgjabGreatV1
import Derived.Test.YtbfbcfnbcbdgjabGreatV5
import Derived.KernelRfl
set_option linter.all false
namespace Go.Va
theorem Ga (x:Int):w64 x=(x+9223372036854775808)%18446744073709551616-9223372036854775808:=by
 simp[w64,IntKind.wrap,IntKind.bits,IntKind.signed]
 split<;>omega
theorem AE {x:Int} (h1: -9223372036854775808<=x) (h2:x<=9223372036854775807):w64 x=x:=by
 rw[Ga];omega
theorem Ac {k:Nat} (h:k<4611686018427387904):w64 ((k:Int)+1)=((k+1:Nat):Int):=by
 rw[AE (by omega) (by omega)];rfl
theorem Jh {k:Nat} (h:k<4611686018427387904):w64 ((k:Int)+1)=(k:Int)+1:=AE (by omega) (by omega)
theorem Ae {α:Type} {k:Nat} {xs:List α}:inb (k:Int) xs↔k<xs.length:=by
 unfold inb;omega
theorem Af {α:Type} {k:Nat} {xs:List α} {d:α} (h:k<xs.length):gd xs (k:Int) d=xs[k]:=by
 unfold gd;simp[h]
theorem CY {α:Type} {k:Nat} {xs:List α} {x:α}:stt xs (k:Int) x=xs.set k x:=by
 unfold stt;simp
def Kp {α σ β:Type} (step:σ->α->Option (σ⊕β)) (fin:σ->Option β):List α->σ->Option β
 | [],s=>fin s
 |a::l,s=>match step s a with|some (.inl s')=>Kp step fin l s'|some (.inr r)=>some r|none=>none
theorem NH {α σ β:Type} (xs:List α) (L:Nat->σ->Int->Option β) (step:σ->α->Option (σ⊕β)) (fin:σ->Option β)
  (hs: ∀n s (k:Nat) (hk:k<xs.length),L (n+1) s k=match step s xs[k]with|some (.inl s')=>L n s' ((k+1:Nat):Int)|some (.inr r)=>some r|none=>none)
  (he: ∀n s,L (n+1) s (xs.length:Nat)=fin s): ∀(n k:Nat) (s:σ),k<=xs.length->xs.length-k<n->L n s k=Kp step fin (xs.drop k) s:=by
 intro n
 induction n with
 |zero=>intro k s _ h;omega
 |succ n ih=>
  intro k s hk hn
  rcases Nat.lt_or_ge k xs.length with hlt|hge
  ·rw[hs n s k hlt,List.drop_eq_getElem_cons hlt]
   simp only[Kp]
   cases step s xs[k]with
   |none=>rfl
   |some q=>
    cases q with
    |inl s'=>exact ih (k+1) s' hlt (by omega)
    |inr r=>rfl
  ·have:k=xs.length:=by omega
   subst this
   rw[he,List.drop_length];rfl
theorem LQ {α σ β:Type} (xs:List α) (L:Nat->σ->Int->Option β) (step:σ->α->Option (σ⊕β)) (fin:σ->Option β)
  (hs: ∀n s (k:Nat) (hk:k<xs.length),L (n+1) s k=match step s xs[k]with|some (.inl s')=>L n s' ((k+1:Nat):Int)|some (.inr r)=>some r|none=>none)
  (he: ∀n s,L (n+1) s (xs.length:Nat)=fin s) {n:Nat} (hn:xs.length<n) (s:σ):L n s 0=Kp step fin xs s:=by
 have:=NH xs L step fin hs he n 0 s (Nat.zero_le _) (by omega)
 simpa using this
theorem J4 {α β:Type} {p:α->Bool} {step:Unit->α->Option (Unit⊕β)} {fin:Unit->Option β} {r:β}: ∀ {l:List α},(∀a∈l,step () a=if p a then some (.inl ())else some (.inr r))->Kp step fin l ()=if l.all p then fin ()else some r
 | [],_=>rfl
 |a::l,h=>by
  simp only[Kp]
  rw[h a (by simp)]
  cases hp:p a with
  |true=>simp only[if_true,List.all_cons,hp,Bool.true_and];exact J4 λb hb=>h b (List.mem_cons_of_mem _ hb)
  |false=>simp[List.all_cons,hp]
theorem Nz {α β γ:Type} (xs:List α) (L:Nat->List β->Int->Option γ) (g:α->β) (fin:List β->Option γ)
  (hs: ∀n (out:List β) (k:Nat) (hk:k<xs.length),out.length=xs.length->L (n+1) out k=L n (out.set k (g xs[k])) ((k+1:Nat):Int))
  (he: ∀n out,out.length=xs.length->L (n+1) out (xs.length:Nat)=fin out): ∀(n k:Nat) (out:List β),out.length=xs.length->k<=xs.length->xs.length-k<n->L n out k=fin (out.take k++(xs.drop k).map g):=by
 intro n
 induction n with
 |zero=>intro k out _ _ h;omega
 |succ n ih=>
  intro k out hl hk hn
  rcases Nat.lt_or_ge k xs.length with hlt|hge
  ·have:(out.set k (g xs[k])).take (k+1)=out.take k++ [g xs[k]]:=by
    rw[List.take_succ_eq_append_getElem (by simp;omega),List.take_set_of_le (Nat.le_refl _),List.getElem_set_self]
   rw[hs n out k hlt hl,ih (k+1) _ (by simpa using hl) hlt (by omega),List.drop_eq_getElem_cons hlt,this,List.map_cons,List.append_assoc,List.singleton_append]
  ·have:k=xs.length:=by omega
   subst this
   rw[he _ _ hl,List.drop_length,List.take_of_length_le (by omega)];simp
theorem Nc {α β γ:Type} (xs:List α) (L:Nat->List β->Int->Option γ) (g:α->β) (fin:List β->Option γ)
  (hs: ∀n (out:List β) (k:Nat) (hk:k<xs.length),out.length=xs.length->L (n+1) out k=L n (out.set k (g xs[k])) ((k+1:Nat):Int))
  (he: ∀n out,out.length=xs.length->L (n+1) out (xs.length:Nat)=fin out) {n:Nat} {out:List β} (hl:out.length=xs.length) (hn:xs.length<n):L n out 0=fin (xs.map g):=by
 have:=Nz xs L g fin hs he n 0 out hl (Nat.zero_le _) (by omega)
 simpa using this
theorem eqX {α:Type} [DecidableEq α] (a b:List α) (hl:a.length=b.length) (L:Nat->Int->Option (Unit⊕Bool))
  (hs: ∀n (k:Nat) (h1:k<a.length) (h2:k<b.length),L (n+1) k=if a[k]=b[k]then L n ((k+1:Nat):Int)else some (.inr false)) (he: ∀n,L (n+1) (a.length:Nat)=some (.inl ())) {n:Nat} (hn:a.length<n):
  L n 0=some (if a=b then .inl ()else .inr false):=by
 have key: ∀(n k:Nat),k<=a.length->a.length-k<n->L n k=some (if a.drop k=b.drop k then .inl ()else .inr false):=by
  intro n
  induction n with
  |zero=>intro k _ h;omega
  |succ n ih=>
   intro k hk hn
   rcases Nat.lt_or_ge k a.length with hlt|hge
   ·have h2:k<b.length:=by omega
    have e:(a.drop k=b.drop k)↔(a[k]=b[k]/\a.drop (k+1)=b.drop (k+1)):=by
     rw[List.drop_eq_getElem_cons hlt,List.drop_eq_getElem_cons h2];exact List.cons_eq_cons
    rw[hs n k hlt h2]
    by_cases h:a[k]=b[k]
    ·rw[if_pos h,ih (k+1) hlt (by omega)]
     by_cases h3:a.drop (k+1)=b.drop (k+1)
     ·rw[if_pos h3,if_pos (e.2 ⟨h,h3⟩)]
     ·rw[if_neg h3,if_neg λh'=>h3 (e.1 h').2]
    ·rw[if_neg h,if_neg λh'=>h (e.1 h').1]
   ·have:k=a.length:=by omega
    subst this
    rw[he,List.drop_length,hl,List.drop_length];rfl
 have:=key n 0 (Nat.zero_le _) (by omega)
 simpa using this
theorem FR {α β:Type} (xs:List α) (L:Nat->Int->Option β) (p:α->Bool) (r e:β)
  (hs: ∀n (k:Nat) (hk:k<xs.length),L (n+1) k=if p xs[k]then L n ((k+1:Nat):Int)else some r) (he: ∀n,L (n+1) (xs.length:Nat)=some e) {n:Nat} (hn:xs.length<n):
  L n 0=some (if xs.all p then e else r):=by
 have:=LQ xs (λn (_:Unit) i=>L n i) (λ_ a=>if p a then some (.inl ())else some (.inr r)) (λ_=>some e) (λn s k hk=>by rw[hs n k hk];cases p xs[k]<;>simp) (λn s=>he n) hn ()
 rw[this,J4 (p:=p) (r:=r) λa _=>by cases p a<;>simp]
 cases xs.all p<;>simp
theorem Ca {σ β:Type} (N:Nat) (L:Nat->σ->Int->Option β) (S:Nat->σ) {r:Option β}
  (hs: ∀n (k:Nat),k<N->L (n+1) (S k) k=L n (S (k+1)) ((k+1:Nat):Int)) (he: ∀n,L (n+1) (S N) (N:Nat)=r) {n:Nat} (hn:N<n):L n (S 0) 0=r:=by
 have key: ∀(n k:Nat),k<=N->N-k<n->L n (S k) k=r:=by
  intro n
  induction n with
  |zero=>intro k _ h;omega
  |succ n ih=>
   intro k hk hn
   rcases Nat.lt_or_ge k N with hlt|hge
   ·rw[hs n k hlt];exact ih (k+1) hlt (by omega)
   ·have:k=N:=by omega
    subst this;exact he n
 exact key n 0 (Nat.zero_le _) (by omega)
theorem FN {σ β:Type} (N:Nat) (L:Nat->σ->Int->Option β) (S:Nat->σ) (p:Nat->Bool) {r e:Option β}
  (hs: ∀n (k:Nat),k<N->L (n+1) (S k) k=if p k then L n (S (k+1)) ((k+1:Nat):Int)else r) (he: ∀n,L (n+1) (S N) (N:Nat)=e) {n:Nat} (hn:N<n):
  L n (S 0) 0=if(List.range N).all p then e else r:=by
 have key: ∀(n k:Nat),k<=N->N-k<n->L n (S k) k=if(List.range' k (N-k)).all p then e else r:=by
  intro n
  induction n with
  |zero=>intro k _ h;omega
  |succ n ih=>
   intro k hk hn
   rcases Nat.lt_or_ge k N with hlt|hge
   ·rw[hs n k hlt,show N-k=(N-(k+1))+1 by omega,List.range'_succ,List.all_cons]
    cases hp:p k with
    |false=>simp
    |true=>simp only[if_true,Bool.true_and];exact ih (k+1) hlt (by omega)
   ·have:k=N:=by omega
    subst this;rw[he];simp
 have:=key n 0 (Nat.zero_le _) (by omega)
 rw[List.range_eq_range']
 simpa using this
theorem NR {σ β:Type} (N:Nat) (L:Nat->σ->Int->Option β) (S:Nat->σ) (p:Nat->Bool) {r e:Option β}
  (hs: ∀n (k:Nat),k<N->(∀j,j<k->p j=true)->L (n+1) (S k) k=if p k then L n (S (k+1)) ((k+1:Nat):Int)else r) (he: ∀n,(∀j,j<N->p j=true)->L (n+1) (S N) (N:Nat)=e) {n:Nat} (hn:N<n):
  L n (S 0) 0=if(List.range N).all p then e else r:=by
 have key: ∀(n k:Nat),k<=N->N-k<n->(∀j,j<k->p j=true)->L n (S k) k=if(List.range' k (N-k)).all p then e else r:=by
  intro n
  induction n with
  |zero=>intro k _ h;omega
  |succ n ih=>
   intro k hk hn hb
   rcases Nat.lt_or_ge k N with hlt|hge
   ·rw[hs n k hlt hb,show N-k=(N-(k+1))+1 by omega,List.range'_succ,List.all_cons]
    cases hp:p k with
    |false=>simp
    |true=>
     simp only[if_true,Bool.true_and]
     refine ih (k+1) hlt (by omega) λj hj=>?_
     rcases Nat.lt_or_ge j k with h|h
     ·exact hb j h
     ·have:j=k:=by omega
      rw[this];exact hp
   ·have:k=N:=by omega
    subst this;rw[he n hb];simp
 have:=key n 0 (Nat.zero_le _) (by omega) (λj h=>by omega)
 rw[List.range_eq_range']
 simpa using this
end Go.Va
set_option linter.unusedVariables false
open Go Go.Va
namespace T
def Aa:Nat:=1099511627776
def Ch (x:Int) (a:Int) (b:Int):Option (Bool):=
 if decide (x≥a)then
 some (decide (x<=b))
 else
 some false
def Cy:Nat->(Int×(List Int)×Int)->Option ((Unit)⊕(Bool))
 |0,_=>none
 |n+1,(n_,list,i)=>
 if decide (i<(list.length:Int))then
 if inb i list then
 (Ch (gd list i 0) 0 (w64 (n_-1))).bind λr1=>
 if !r1 then
 some (.inr false)
 else
 Cy n (n_,list,w64 (i+1))
 else none
 else
 some (.inl ())
def Do (n_:Int) (list:List Int):Option (Bool):=
 (Cy Aa (n_,list,0)).bind λs1=>
  match s1 with
  | .inl s2=>
   some true
  | .inr s3=>
   some s3
def F9 (n_:Int) (k:Int) (t:List Int):Option (Bool):=
 if(t.length:Int)==k then
 (Do n_ t).bind λr1=>
 some r1
 else
 some false
def DD:Nat->(Int×(List Int)×Int×Int)->Option ((Unit)⊕(Bool))
 |0,_=>none
 |n+1,(n_,t7,t8,t9)=>
 if decide (t9<t8)then
 if inb t9 t7 then
 if decide ((gd t7 t9 0)<0)then
 some (.inr false)
 else
 if decide ((gd t7 t9 0)≥n_)then
 some (.inr false)
 else
 DD n (n_,t7,t8,w64 (t9+1))
 else none
 else
 some (.inl ())
def Ej (list:List Int) (n_:Int):Option (Bool):=
 (DD Aa (n_,list,(list.length:Int),0)).bind λs1=>
  match s1 with
  | .inl s2=>
   some true
  | .inr s3=>
   some s3
def GK (n_:Int):Option (Bool):=
 (Ch n_ 1 8).bind λr1=>
 some r1
def CT:Nat->(Int×Int×Int)->Option (Int)
 |0,_=>none
 |n+1,(n_,k,out)=>
 if decide (k>0)then
 CT n (n_,w64 (k-1),w64 (out*n_))
 else
 some out
def Cz (n_:Int) (k:Int):Option (Int):=
 (CT Aa (n_,k,1)).bind λs1=>
 some s1
def DL:Nat->((List Int)×(List Int)×Int)->Option ((Unit)⊕(Bool))
 |0,_=>none
 |n+1,(a,b,i)=>
 if decide (i<(a.length:Int))then
 if inb i a then
 if inb i b then
 if(gd a i 0) !=(gd b i 0)then
 if inb i a then
 if inb i b then
 some (.inr (decide ((gd a i 0)<(gd b i 0))))
 else none
 else none
 else
 DL n (a,b,w64 (i+1))
 else none
 else none
 else
 some (.inl ())
def GI (a:List Int) (b:List Int):Option (Bool):=
 (DL Aa (a,b,0)).bind λs1=>
  match s1 with
  | .inl s2=>
   some false
  | .inr s3=>
   some s3
def DJ:Nat->((List Int)×(List Int)×Int)->Option ((Unit)⊕(Bool))
 |0,_=>none
 |n+1,(a,b,i)=>
 if decide (i<(a.length:Int))then
 if inb i a then
 if inb i b then
 if(gd a i 0) !=(gd b i 0)then
 some (.inr false)
 else
 DJ n (a,b,w64 (i+1))
 else none
 else none
 else
 some (.inl ())
def GF (a:List Int) (b:List Int):Option (Bool):=
 if(a.length:Int) !=(b.length:Int)then
  some false
 else
  (DJ Aa (a,b,0)).bind λs1=>
   match s1 with
   | .inl s2=>
    some true
   | .inr s3=>
    some s3
def Da:Nat->((List (List Int))×(List Int)×Int×Int)->Option ((List (List Int))×(List Int)×Int)
 |0,_=>none
 |n+1,(list,t,from_,to)=>
 if decide (from_<to)then
 if(2:Int)≠0 then
 if inb (w64 (Int.tdiv (w64 (from_+to)) 2)) list then
 (GI (gd list (w64 (Int.tdiv (w64 (from_+to)) 2)) []) t).bind λr1=>
 if r1 then
 Da n (list,t,w64 ((w64 (Int.tdiv (w64 (from_+to)) 2))+1),to)
 else
 Da n (list,t,from_,w64 (Int.tdiv (w64 (from_+to)) 2))
 else none
 else none
 else
 some (list,t,from_)
def EV (list:List (List Int)) (t:List Int):Option (Int×Bool):=
 (Da Aa (list,t,0,(list.length:Int))).bind λs1=>
 if decide (s1.2.2<(s1.1.length:Int))then
 if inb s1.2.2 s1.1 then
 (GF (gd s1.1 s1.2.2 []) s1.2.1).bind λr2=>
 some (s1.2.2,r2)
 else none
 else
 some (s1.2.2,false)
def BN:Nat->((List Int)×(List Int)×Int)->Option (((List Int)×(List Int))⊕(Int))
 |0,_=>none
 |n+1,(s,t,i)=>
 if decide (i<(s.length:Int))then
 if decide (i<(t.length:Int))then
 if inb i s then
 if inb i t then
 if(gd s i 0) !=(gd t i 0)then
 if inb i s then
 if inb i t then
 if decide ((gd s i 0)<(gd t i 0))then
 some (.inr (-1))
 else
 some (.inr 1)
 else none
 else none
 else
 BN n (s,t,w64 (i+1))
 else none
 else none
 else
 some (.inl (s,t))
 else
 some (.inl (s,t))
def Fv (s:List Int) (t:List Int):Option (Int):=
 (BN Aa (s,t,0)).bind λs1=>
  match s1 with
  | .inl s2=>
   if decide ((s2.1.length:Int)<(s2.2.length:Int))then
    some (-1)
   else
    if decide ((s2.1.length:Int)>(s2.2.length:Int))then
     some 1
    else
     some 0
  | .inr s3=>
   some s3
def CS:Nat->(Int×Int×Int)->Option (Int)
 |0,_=>none
 |n+1,(n_,k,p)=>
 if decide (k>0)then
 CS n (n_,w64 (k-1),w64 (p*n_))
 else
 some p
def Dd (n_:Int) (k:Int):Option (Int):=
 (CS Aa (n_,k,1)).bind λs1=>
 some s1
end T
open Go Go.Va
namespace T
abbrev Lin:=Int×Int×List (List Int)
theorem Bt (x a b:Int):Ch x a b=some (decide (a<=x/\x<=b)):=by
 unfold Ch
 by_cases h:a<=x<;>simp[h]
def BK (n:Int) (l:List Int):Bool:=l.all λx=>decide (0<=x/\x<n)
theorem Er {l:List Int} (n:Int) (hl:l.length<=1099511627775):Ej l n=some (BK n l):=by
 unfold Ej
 rw[FR l (λm i=>DD m (n,l,(l.length:Int),i)) (λx=>decide (0<=x/\x<n)) (.inr false) (.inl ()) ?_ ?_ (by unfold Aa;omega)]
 ·unfold BK;cases l.all (λx=>decide (0<=x/\x<n))<;>simp
 ·intro m k hk
  simp only[DD,Ae,Af hk,Ac (show k<4611686018427387904 by omega)]
  by_cases h1:l[k]<0
  ·simp[hk,h1,show¬0<=l[k] by omega]
  ·by_cases h2:n<=l[k]
   ·simp[hk,h1,h2,show¬l[k]<n by omega]
   ·simp[hk,h1,h2,show 0<=l[k]/\l[k]<n by omega]
 ·intro m
  simp[DD]
theorem Ei {l:List Int} {n:Int} (hn: -9223372036854775808<n) (hn':n<=9223372036854775807) (hl:l.length<=1099511627775):Do n l=some (BK n l):=by
 unfold Do
 rw[FR l (λm i=>Cy m (n,l,i)) (λx=>decide (0<=x/\x<n)) (.inr false) (.inl ()) ?_ ?_ (by unfold Aa;omega)]
 ·unfold BK;cases l.all (λx=>decide (0<=x/\x<n))<;>simp
 ·intro m k hk
  simp only[Cy,Ae,Af hk,Ac (show k<4611686018427387904 by omega),Bt,AE (show-9223372036854775808<=n-1 by omega) (show n-1<=9223372036854775807 by omega)]
  by_cases h1:0<=l[k]/\l[k]<n
  ·simp[hk,h1,show l[k]<=n-1 by omega]
  ·have: ¬(0<=l[k]/\l[k]<=n-1):=by omega
   simp[hk,h1,this]
 ·intro m
  simp[Cy]
theorem HX {l:List Int} {n:Int} (k:Int) (hn: -9223372036854775808<n) (hn':n<=9223372036854775807) (hl:l.length<=1099511627775):F9 n k l=some (decide ((l.length:Int)=k)&&BK n l):=by
 unfold F9
 rw[Ei hn hn' hl]
 by_cases h:(l.length:Int)=k<;>simp[h]
end T
open Go Go.Va
namespace T
theorem FT {n:Int} {l:List Int} (h:BK n l=true) (k:Nat) (hk:k<l.length):0<=l[k]/\l[k]<n:=by
 have:=(List.all_eq_true.1 h) l[k] (List.getElem_mem hk)
 simpa using this
section
variable {p v:Int} {rows:List (List Int)} {y:List Int}
end
end T
open Go Go.Va
namespace T
def cmpL:List Int->List Int->Int
 | [],[]=>0
 | [],_::_=> -1
 |_::_,[]=>1
 |a::s,b::t=>if a=b then cmpL s t else if a<b then-1 else 1
theorem Kc {s t:List Int} (hs:s.length<=1099511627775): ∀(n k:Nat),k<=s.length->k<=t.length->s.length-k<n->
  (BN n (s,t,(k:Int))).bind (λs1=>match s1 with
   | .inl s2=>if decide ((s2.1.length:Int)<(s2.2.length:Int))then some (-1)else if decide ((s2.1.length:Int)>(s2.2.length:Int))then some 1 else some 0
   | .inr s3=>some s3)=some (cmpL (s.drop k) (t.drop k)):=by
 intro n
 induction n with
 |zero=>intro k _ _ h;omega
 |succ n ih=>
  intro k h1 h2 hn
  by_cases k1:k<s.length
  ·by_cases k2:k<t.length
   ·rw[List.drop_eq_getElem_cons k1,List.drop_eq_getElem_cons k2]
    simp only[BN,Ae,Af k1,Af k2,Ac (show k<4611686018427387904 by omega),cmpL]
    by_cases he:s[k]=t[k]
    ·have:=ih (k+1) k1 k2 (by omega)
     simp[k1,k2,he]
     simpa using this
    ·by_cases hl:s[k]<t[k]<;>simp[k1,k2,he,hl]
   ·rw[List.drop_eq_getElem_cons k1,List.drop_of_length_le (show t.length<=k by omega)]
    have e:k=t.length:=by omega
    simp only[BN,cmpL]
    simp[k1,k2,show¬s.length<t.length by omega,show t.length<s.length by omega]
  ·rw[List.drop_of_length_le (show s.length<=k by omega)]
   simp only[BN]
   by_cases k2:k<t.length
   ·rw[List.drop_eq_getElem_cons k2]
    simp[k1,cmpL,show s.length<t.length by omega]
   ·rw[List.drop_of_length_le (show t.length<=k by omega)]
    simp[k1,cmpL,show¬s.length<t.length by omega,show¬t.length<s.length by omega]
theorem Gs {s t:List Int} (hs:s.length<=1099511627775):Fv s t=some (cmpL s t):=by
 have:=Kc (t:=t) hs Aa 0 (Nat.zero_le _) (Nat.zero_le _) (by unfold Aa;omega)
 rw[List.drop_zero,List.drop_zero]at this
 exact this
theorem GJ {s t:List Int} (hs:s.length<=1099511627775) (hl:s.length=t.length):GI s t=some (decide (cmpL s t<0)):=by
 have key: ∀(n k:Nat),k<=s.length->s.length-k<n->(DL n (s,t,(k:Int))).bind (λs1=>match s1 with| .inl _=>some false| .inr s3=>some s3)=some (decide (cmpL (s.drop k) (t.drop k)<0)):=by
  intro n
  induction n with
  |zero=>intro k _ h;omega
  |succ n ih=>
   intro k h1 hn
   by_cases k1:k<s.length
   ·have k2:k<t.length:=by omega
    rw[List.drop_eq_getElem_cons k1,List.drop_eq_getElem_cons k2]
    simp only[DL,Ae,Af k1,Af k2,Ac (show k<4611686018427387904 by omega),cmpL]
    by_cases he:s[k]=t[k]
    ·have:=ih (k+1) k1 (by omega)
     simp[k1,k2,he]
     simpa using this
    ·by_cases hl:s[k]<t[k]<;>simp[k1,k2,he,hl]
   ·rw[List.drop_of_length_le (show s.length<=k by omega),List.drop_of_length_le (show t.length<=k by omega)]
    simp[DL,k1,cmpL]
 have:=key Aa 0 (Nat.zero_le _) (by unfold Aa;omega)
 rw[List.drop_zero,List.drop_zero]at this
 exact this
theorem ID {a b:List Int} (ha:a.length<=1099511627775):GF a b=some (decide (a=b)):=by
 unfold GF
 by_cases hl:a.length=b.length
 ·rw[if_neg (by simp[hl]),eqX a b hl (λn i=>DJ n (a,b,i)) ?_ ?_ (by unfold Aa;omega)]
  ·by_cases h:a=b<;>simp[h]
  ·intro n k h1 h2
   simp only[DJ,Ae,Af h1,Af h2,Ac (show k<4611686018427387904 by omega)]
   by_cases h:a[k]=b[k]<;>simp[h1,h2,h]
  ·intro n
   simp[DJ]
 ·rw[if_pos (by simp;omega),decide_eq_false (λe=>hl (by rw[e]))]
theorem cmpL_refl: ∀s,cmpL s s=0
 | []=>rfl
 |a::s=>by simp[cmpL,cmpL_refl s]
theorem cmpL_eq: ∀ {s t},cmpL s t=0↔s=t
 | [],[]=>by simp[cmpL]
 | [],_::_=>by simp[cmpL]
 |_::_,[]=>by simp[cmpL]
 |a::s,b::t=>by
  simp only[cmpL]
  by_cases h:a=b
  ·rw[if_pos h,cmpL_eq];simp[h]
  ·rw[if_neg h];split<;>simp[h]
theorem cmpL_symm: ∀s t,cmpL t s= -cmpL s t
 | [],[]=>by simp[cmpL]
 | [],_::_=>by simp[cmpL]
 |_::_,[]=>by simp[cmpL]
 |a::s,b::t=>by
  simp only[cmpL]
  by_cases h:a=b
  ·rw[if_pos h,if_pos h.symm,cmpL_symm s t]
  ·rw[if_neg h,if_neg (Ne.symm h)]
   by_cases h2:a<b
   ·rw[if_pos h2,if_neg (by omega)];rfl
   ·rw[if_neg h2,if_pos (by omega)]
theorem cmpL_trans: ∀ {s t u},cmpL s t<0->cmpL t u<0->cmpL s u<0
 | [],[],_,h,_=>by simp[cmpL]at h
 | [],_::_,[],_,h=>by simp[cmpL]at h
 | [],_::_,_::_,_,_=>by simp[cmpL]
 |_::_,[],_,h,_=>by simp[cmpL]at h
 |_::_,_::_,[],_,h=>by simp[cmpL]at h
 |a::s,b::t,c::u,h1,h2=>by
  simp only[cmpL]at*
  by_cases e1:a=b
  ·rw[if_pos e1]at h1
   by_cases e2:b=c
   ·rw[if_pos e2]at h2;rw[if_pos (e1.trans e2)];exact cmpL_trans h1 h2
   ·rw[if_neg e2]at h2;rw[e1,if_neg e2];exact h2
  ·rw[if_neg e1]at h1
   have l1:a<b:=by
    by_cases h:a<b
    ·exact h
    ·rw[if_neg h]at h1;omega
   by_cases e2:b=c
   ·rw[←e2,if_neg e1,if_pos l1];omega
   ·rw[if_neg e2]at h2
    have l2:b<c:=by
     by_cases h:b<c
     ·exact h
     ·rw[if_neg h]at h2;omega
    rw[if_neg (by omega),if_pos (by omega)];omega
def Ef:List (List Int)->Bool
 |a::b::l=>decide (cmpL a b<0)&&Ef (b::l)
 |_=>true
theorem K9 {a:List Int} {l:List (List Int)} (h:Ef (a::l)=true):Ef l=true:=by
 cases l with
 |nil=>rfl
 |cons b l=>simp only[Ef,Bool.and_eq_true]at h;exact h.2
theorem I6: ∀ {a:List Int} {l:List (List Int)},Ef (a::l)=true-> ∀b∈l,cmpL a b<0
 |a,[],_,b,hb=>by cases hb
 |a,c::l,h,b,hb=>by
  simp only[Ef,Bool.and_eq_true,decide_eq_true_eq]at h
  rcases List.mem_cons.1 hb with rfl|hb
  ·exact h.1
  ·exact cmpL_trans h.1 (I6 h.2 b hb)
theorem FW: ∀ {l:List (List Int)},Ef l=true-> ∀(i j:Nat) (hi:i<j) (hj:j<l.length),cmpL (l[i]'(by omega)) l[j]<0
 | [],_,i,j,_,hj=>by simp at hj
 |a::l,h,0,j+1,_,hj=>by
  simp only[List.getElem_cons_zero,List.getElem_cons_succ]
  exact I6 h _ (List.getElem_mem _)
 |a::l,h,i+1,j+1,hi,hj=>by
  simp only[List.getElem_cons_succ]
  exact FW (K9 h) i j (by omega) (by simpa using hj)
theorem JR {l:List (List Int)}:Ef l=true↔ ∀(i:Nat) (hi:i+1<l.length),cmpL (l[i]'(by omega)) l[i+1]<0:=by
 constructor
 ·exact λh i hi=>FW h i (i+1) (by omega) hi
 ·induction l with
  |nil=>intro _;rfl
  |cons a l ih=>
   intro h
   cases l with
   |nil=>rfl
   |cons b l=>
    simp only[Ef,Bool.and_eq_true,decide_eq_true_eq]
    exact⟨h 0 (by simp),ih λi hi=>by have:=h (i+1) (by simpa using hi);simpa using this⟩
end T
open Go Go.Va
namespace T
theorem Jc {n:Int} (h0:0<=n) (h8:n<=8): ∀k:Nat,0<=n^k/\n^k<=8^k
 |0=>by simp
 |k+1=>by
  obtain⟨h1,h2⟩:=Jc h0 h8 k
  rw[Int.pow_succ,Int.pow_succ]
  exact⟨Int.mul_nonneg h1 h0,Int.mul_le_mul h2 h8 h0 (by have:(0:Int)<=8^k:=Int.le_trans h1 h2;exact this)⟩
theorem MJ: ∀k:Nat,k<=20->(8:Int)^k<=8^20:=by
 intro k hk
 have:((8^k:Nat):Int)<=((8^20:Nat):Int):=Int.ofNat_le.2 (Nat.pow_le_pow_right (by omega) hk)
 simpa using this
theorem Kk {n:Int} (h0:0<=n) (h8:n<=8) {k:Nat} (hk:k<=20):0<=n^k/\n^k<=1152921504606846976:=by
  obtain⟨h1,h2⟩:=Jc h0 h8 k
  have:=MJ k hk
  exact ⟨h1, by have e : (8 : Int) ^ 20 = 1152921504606846976 := by decide
                omega⟩
theorem LZ {n:Int} (h0:0<=n) (h8:n<=8): ∀(m k j:Nat),j+k<=20->k<m->CS m (n,(k:Int),n^j)=some (n^(j+k)):=by
 intro m
 induction m with
 |zero=>intro k j _ h;omega
 |succ m ih=>
  intro k j hj hk
  simp only[CS]
  cases k with
  |zero=>simp
  |succ k=>
   have e:w64 (((k+1:Nat):Int)-1)=(k:Int):=by rw[AE (by omega) (by omega)];omega
   have hb:=Kk h0 h8 (k:=j+1) (by omega)
   rw[Int.pow_succ]at hb
   rw[e,AE (by omega) (by omega),←Int.pow_succ,if_pos (by simp),ih k (j+1) (by omega) (by omega)]
   congr 2<;>omega
theorem IP {n:Int} (h0:0<=n) (h8:n<=8) {k:Nat} (hk:k<=20):Dd n (k:Int)=some (n^k):=by
 unfold Dd
 have:=LZ h0 h8 Aa k 0 (by omega) (by unfold Aa;omega)
 rw[Int.pow_zero]at this
 rw[this];simp
theorem LP {n:Int} (h0:0<=n) (h8:n<=8): ∀(m k j:Nat),j+k<=20->k<m->CT m (n,(k:Int),n^j)=some (n^(j+k)):=by
 intro m
 induction m with
 |zero=>intro k j _ h;omega
 |succ m ih=>
  intro k j hj hk
  simp only[CT]
  cases k with
  |zero=>simp
  |succ k=>
   have e:w64 (((k+1:Nat):Int)-1)=(k:Int):=by rw[AE (by omega) (by omega)];omega
   have hb:=Kk h0 h8 (k:=j+1) (by omega)
   rw[Int.pow_succ]at hb
   rw[e,AE (by omega) (by omega),←Int.pow_succ,if_pos (by simp),ih k (j+1) (by omega) (by omega)]
   congr 2<;>omega
theorem FK {n:Int} (h0:0<=n) (h8:n<=8) {k:Nat} (hk:k<=20):Cz n (k:Int)=some (n^k):=by
 unfold Cz
 have:=LP h0 h8 Aa k 0 (by omega) (by unfold Aa;omega)
 rw[Int.pow_zero]at this
 rw[this];simp
def Jn (n:Int):Int->List Int->Int
 |i,[]=>i
 |i,a::l=>Jn n (i*n+a) l
def idx (n:Int) (l:List Int):Int:=Jn n 0 l
theorem Jo (n:Int): ∀(l:List Int) (i:Int),Jn n i l=i*n^l.length+Jn n 0 l
 | [],i=>by simp[Jn]
 |a::l,i=>by
  simp only[Jn,List.length_cons]
  rw[Jo n l (i*n+a),Jo n l (0*n+a),Int.pow_succ]
  simp only[Int.zero_mul,Int.zero_add]
  rw[Int.add_mul,Int.mul_assoc,Int.mul_comm n (n^l.length)]
  omega
theorem Ih (n a:Int) (l:List Int):idx n (a::l)=a*n^l.length+idx n l:=by
 unfold idx
 simp only[Jn]
 rw[Jo];simp
theorem Gi {n a:Int} {l:List Int}:BK n (a::l)=true↔(0<=a/\a<n)/\BK n l=true:=by
 unfold BK;simp[List.all_cons]
theorem Ig {n:Int}: ∀ {l:List Int},BK n l=true->0<=idx n l/\idx n l<n^l.length
 | [],_=>by simp[idx,Jn]
 |a::l,h=>by
  obtain⟨h1,h2⟩:=Gi.1 h
  obtain⟨h3,h4⟩:=Ig h2
  rw[Ih,List.length_cons,Int.pow_succ]
  have hp:0<=n^l.length:=by omega
  have k1:=Int.mul_nonneg h1.1 hp
  have k2:=Int.mul_le_mul_of_nonneg_right (show a+1<=n by omega) hp
  rw[Int.add_mul,Int.one_mul,Int.mul_comm n]at k2
  exact⟨by omega,by omega⟩
theorem KG {n:Int}: ∀ {s t:List Int},BK n s=true->BK n t=true->s.length=t.length->(cmpL s t<0↔idx n s<idx n t)/\(cmpL s t=0↔idx n s=idx n t)
 | [],[],_,_,_=>by simp[cmpL,idx,Jn]
 | [],_::_,_,_,h=>by simp at h
 |_::_,[],_,_,h=>by simp at h
 |a::s,b::t,hs,ht,hl=>by
  obtain⟨s1,s2⟩:=Gi.1 hs
  obtain⟨t1,t2⟩:=Gi.1 ht
  have hl':s.length=t.length:=by simpa using hl
  have ih:=KG s2 t2 hl'
  obtain⟨b1,b2⟩:=Ig s2
  obtain⟨c1,c2⟩:=Ig t2
  rw[Ih,Ih,hl']
  rw[hl']at b2
  simp only[cmpL]
  have hp:0<=n^t.length:=by omega
  rcases Int.lt_trichotomy a b with h|h|h
  ·have:=Int.mul_le_mul_of_nonneg_right (show a+1<=b by omega) hp
   rw[Int.add_mul,Int.one_mul]at this
   rw[if_neg (by omega),if_pos h]
   exact⟨by constructor<;>intro<;>omega,by constructor<;>intro<;>omega⟩
  ·subst h
   rw[if_pos rfl]
   exact⟨by rw[ih.1];constructor<;>intro<;>omega,by rw[ih.2];constructor<;>intro<;>omega⟩
  ·have:=Int.mul_le_mul_of_nonneg_right (show b+1<=a by omega) hp
   rw[Int.add_mul,Int.one_mul]at this
   rw[if_neg (by omega),if_neg (by omega)]
   exact⟨by constructor<;>intro<;>omega,by constructor<;>intro<;>omega⟩
theorem HC {n:Int} {k:Nat} {l:List (List Int)} (hi:Ef l=true) (hv: ∀t∈l,t.length=k/\BK n t=true):(l.length:Int)<=n^k∨l= []:=by
 have key: ∀(i:Nat) (h:i<l.length),(i:Int)<=idx n l[i]:=by
  intro i
  induction i with
  |zero=>intro h;exact(Ig (hv _ (List.getElem_mem h)).2).1
  |succ i ih=>
   intro h
   have h1:=ih (by omega)
   obtain⟨l1,b1⟩:=hv _ (List.getElem_mem (show i<l.length by omega))
   obtain⟨l2,b2⟩:=hv _ (List.getElem_mem h)
   have:=(KG b1 b2 (l1.trans l2.symm)).1.1 (FW hi i (i+1) (by omega) h)
   omega
 cases hn:l.length with
 |zero=>exact .inr (List.length_eq_zero_iff.1 hn)
 |succ m=>
  left
  have h:=key m (by omega)
  obtain⟨l1,b1⟩:=hv _ (List.getElem_mem (show m<l.length by omega))
  have:=(Ig b1).2
  rw[l1]at this
  omega
theorem Mr {list:List (List Int)} {t:List Int} {k:Nat} (hl:list.length<=1099511627775) (hk:k<=1099511627775) (hv: ∀u∈list,u.length=k) (ht:t.length=k) (hi:Ef list=true): ∀(m a b:Nat),a<=b->b<=list.length->b-a<m->
  (∀i (h:i<list.length),i<a->cmpL list[i] t<0)->(∀i (h:i<list.length),b<=i-> ¬cmpL list[i] t<0)->
  ∃c:Nat,Da m (list,t,(a:Int),(b:Int))=some (list,t,(c:Int))/\c<=list.length/\(∀i (h:i<list.length),i<c->cmpL list[i] t<0)/\(∀i (h:i<list.length),c<=i-> ¬cmpL list[i] t<0):=by
 intro m
 induction m with
 |zero=>intro a b _ _ h;omega
 |succ m ih=>
  intro a b hab hb hm h1 h2
  simp only[Da]
  by_cases hlt:a<b
  ·have emid:w64 (Int.tdiv (w64 ((a:Int)+b)) 2)=(((a+b)/2:Nat):Int):=by
    rw[AE (x:=(a:Int)+b) (by omega) (by omega),Int.tdiv_eq_ediv_of_nonneg (by omega),AE (by omega) (by omega)];omega
   have hmid:(a+b)/2<list.length:=by omega
   rw[emid]
   have hless:=GJ (s:=list[(a+b)/2]) (t:=t) (by rw[hv _ (List.getElem_mem hmid)];omega) (by rw[hv _ (List.getElem_mem hmid),ht])
   simp only[Ae,Af hmid,hless,Option.bind_some,Ac (show(a+b)/2<4611686018427387904 by omega)]
   by_cases hc:cmpL list[(a+b)/2] t<0
   ·obtain⟨c,e,k1,k2,k3⟩:=ih ((a+b)/2+1) b (by omega) hb (by omega) (λi h hi'=>by
     rcases Nat.lt_or_ge i ((a+b)/2)with h'|h'
     ·exact cmpL_trans (FW hi i ((a+b)/2) h' hmid) hc
     ·have:i=(a+b)/2:=by omega
      subst this;exact hc) h2
    exact⟨c,by simpa[hlt,hmid,hc]using e,k1,k2,k3⟩
   ·obtain⟨c,e,k1,k2,k3⟩:=ih a ((a+b)/2) (by omega) (by omega) (by omega) h1 (λi h hi' hneg=>by
     rcases Nat.lt_or_ge ((a+b)/2) i with h'|h'
     ·exact hc (cmpL_trans (FW hi ((a+b)/2) i h' h) hneg)
     ·have:i=(a+b)/2:=by omega
      subst this;exact hc hneg)
    exact⟨c,by simpa[hlt,hmid,hc]using e,k1,k2,k3⟩
  ·have:a=b:=by omega
   subst this
   exact⟨a,by simp,hb,h1,h2⟩
theorem Ft {list:List (List Int)} {t:List Int} {k:Nat} (hl:list.length<=1099511627774) (hk:k<=1099511627775) (hv: ∀u∈list,u.length=k) (ht:t.length=k) (hi:Ef list=true):
  ∃c:Nat,EV list t=some ((c:Int),decide (t∈list))/\c<=list.length/\(∀i (h:i<list.length),i<c->cmpL list[i] t<0)/\(∀i (h:i<list.length),c<=i-> ¬cmpL list[i] t<0):=by
 obtain⟨c,e,k1,k2,k3⟩:=Mr (by omega) hk hv ht hi Aa 0 list.length (Nat.zero_le _) (Nat.le_refl _) (by unfold Aa;omega) (λi _ h=>by omega) (λi h h'=>by omega)
 refine⟨c,?_,k1,k2,k3⟩
 unfold EV
 have e':Da Aa (list,t,0,(list.length:Int))=some (list,t,(c:Int)):=e
 rw[e']
 simp only[Option.bind_some]
 by_cases hc:c<list.length
 ·have hs:=ID (a:=list[c]) (b:=t) (by rw[hv _ (List.getElem_mem hc)];omega)
  simp only[Ae,Af hc,hs,Option.bind_some]
  have:decide (list[c]=t)=decide (t∈list):=by
   by_cases h:list[c]=t
   ·rw[decide_eq_true h,decide_eq_true (h▸List.getElem_mem hc)]
   ·rw[decide_eq_false h]
    symm;rw[decide_eq_false_iff_not]
    intro hm
    obtain⟨j,hj,rfl⟩:=List.mem_iff_getElem.1 hm
    have hne:j≠c:=λe=>h (by subst e;rfl)
    rcases Nat.lt_or_ge j c with hlt|hge
    ·have:=k2 j hj hlt;rw[cmpL_refl]at this;omega
    ·exact k3 c hc (Nat.le_refl _) (FW hi c j (by omega) hj)
  simp[hc,this]
 ·have:decide (t∈list)=false:=by
   rw[decide_eq_false_iff_not]
   intro hm
   obtain⟨j,hj,rfl⟩:=List.mem_iff_getElem.1 hm
   have:=k2 j hj (by omega);rw[cmpL_refl]at this;omega
  rw[if_neg (by simp;omega),this]
end T
open Go Go.Va
namespace T
def KR (n:Int):Bool:=decide (1<=n/\n<=8)
theorem IE (n:Int):GK n=some (KR n):=by
 unfold GK KR
 rw[Bt];simp
end T
set_option linter.unusedVariables false
open Go Go.Va
namespace T
def CG:Nat->(Int×(Int×(List (List Int)))×Int)->Option ((Unit)⊕(Bool))
 |0,_=>none
 |n+1,(n_,r,i)=>
 if decide (i<(r.2.length:Int))then
 if inb i r.2 then
 (F9 n_ r.1 (gd r.2 i [])).bind λr3=>
 if !r3 then
 some (.inr false)
 else
 if decide (i>0)then
 if inb (w64 (i-1)) r.2 then
 if inb i r.2 then
 (GI (gd r.2 (w64 (i-1)) []) (gd r.2 i [])).bind λr4=>
 if !r4 then
 some (.inr false)
 else
 CG n (n_,(r.1,r.2),w64 (i+1))
 else none
 else none
 else
 CG n (n_,(r.1,r.2),w64 (i+1))
 else none
 else
 some (.inl ())
def Fa (n_:Int) (r:Int×(List (List Int))):Option (Bool):=
 (Ch r.1 1 3).bind λr1=>
  if !r1 then
   some false
  else
   (Cz n_ r.1).bind λr2=>
    if decide ((r.2.length:Int)>r2)then
     some false
    else
     (CG Aa (n_,(r.1,r.2),0)).bind λs3=>
      match s3 with
      | .inl s4=>
       some true
      | .inr s5=>
       some s5
def Ha (vars:Int) (size:Int) (c:(List Int)×Int×(List (List Int))):Option (Bool):=
 (Fa size (c.2.1,c.2.2)).bind λr1=>
 if r1 then
 if(c.1.length:Int)==c.2.1 then
 (Do vars c.1).bind λr2=>
 some r2
 else
 some false
 else
 some false
def Dk:Nat->((Int×Int×(List ((List Int)×Int×(List (List Int)))))×Int)->Option ((Unit)⊕(Bool))
 |0,_=>none
 |n+1,(net,i)=>
 if decide (i<(net.2.2.length:Int))then
 if inb i net.2.2 then
 (Ha net.1 net.2.1 (gd net.2.2 i ([],(0,[])))).bind λr3=>
 if !r3 then
 some (.inr false)
 else
 Dk n ((net.1,(net.2.1,net.2.2)),w64 (i+1))
 else none
 else
 some (.inl ())
def CP (net:Int×Int×(List ((List Int)×Int×(List (List Int))))):Option (Bool):=
 (Ch net.1 0 9).bind λr1=>
  if !r1 then
   some false
  else
   (Ch net.2.1 1 4).bind λr2=>
    if !r2 then
     some false
    else
     if decide ((net.2.2.length:Int)>40)then
      some false
     else
      (Dk Aa ((net.1,(net.2.1,net.2.2)),0)).bind λs3=>
       match s3 with
       | .inl s4=>
        some true
       | .inr s5=>
        some s5
def DI (l:List Int):Option ((List Int)):=
 if([]:List Int).length+l.length<=lim then
 some ([]++l)
 else none
def CU (n_:Int):Option (Bool):=
 if decide (n_≥1)then
 some (decide (n_<=4))
 else
 some false
def B2:Nat->(Int×(Int×(List (List Int)))×(List (List Int))×Int×Int)->Option ((Unit)⊕(Bool))
 |0,_=>none
 |n+1,(n_,r,t16,t17,t18)=>
 if decide (t18<t17)then
 if inb t18 t16 then
 if((gd t16 t18 []).length:Int) !=r.1 then
 some (.inr false)
 else
 (Ej (gd t16 t18 []) n_).bind λr1=>
 if !r1 then
 some (.inr false)
 else
 if decide (t18>0)then
 if inb (w64 (t18-1)) r.2 then
 (Fv (gd r.2 (w64 (t18-1)) []) (gd t16 t18 [])).bind λr2=>
 if decide (r2≥0)then
 some (.inr false)
 else
 B2 n (n_,(r.1,r.2),t16,t17,w64 (t18+1))
 else none
 else
 B2 n (n_,(r.1,r.2),t16,t17,w64 (t18+1))
 else none
 else
 some (.inl ())
def D2 (n_:Int) (r:Int×(List (List Int))):Option (Bool):=
 if decide (r.1<1)then
  some false
 else
  if decide (r.1>3)then
   some false
  else
   (B2 Aa (n_,(r.1,r.2),r.2,(r.2.length:Int),0)).bind λs1=>
    match s1 with
    | .inl s2=>
     some true
    | .inr s3=>
     some s3
def Es (vars:Int) (size:Int) (c:(List Int)×Int×(List (List Int))):Option (Bool):=
 (D2 size (c.2.1,c.2.2)).bind λr1=>
 if r1 then
 if(c.1.length:Int)==c.2.1 then
 (Ej c.1 vars).bind λr2=>
 some r2
 else
 some false
 else
 some false
def CM:Nat->((Int×Int×(List ((List Int)×Int×(List (List Int)))))×(List ((List Int)×Int×(List (List Int))))×Int×Int)->Option ((Unit)⊕(Bool))
 |0,_=>none
 |n+1,(net,t26,t27,t28)=>
 if decide (t28<t27)then
 if inb t28 t26 then
 (Es net.1 net.2.1 ((gd t26 t28 ([],(0,[]))).1,(((gd t26 t28 ([],(0,[]))).2).1,((gd t26 t28 ([],(0,[]))).2).2))).bind λr2=>
 if !r2 then
 some (.inr false)
 else
 CM n ((net.1,(net.2.1,net.2.2)),t26,t27,w64 (t28+1))
 else none
 else
 some (.inl ())
def BT (net:Int×Int×(List ((List Int)×Int×(List (List Int))))):Option (Bool):=
 if decide (net.1<0)then
  some false
 else
  if decide (net.1>9)then
   some false
  else
   (CU net.2.1).bind λr1=>
    if !r1 then
     some false
    else
     if decide ((net.2.2.length:Int)>40)then
      some false
     else
      (CM Aa ((net.1,(net.2.1,net.2.2)),net.2.2,(net.2.2.length:Int),0)).bind λs2=>
       match s2 with
       | .inl s3=>
        some true
       | .inr s4=>
        some s4
def C0:Nat->((List Int)×(List Int)×Int×Int×(List Int)×Int×Int×(List Int)×Int×Int)->Option (((List Int)×(List Int)×(List Int)×Int×Int)⊕(Bool))
 |0,_=>none
 |n+1,(scope,t,i,v,t9,t10,t11,t18,t19,t20)=>
 if decide (t20<t19)then
 if inb t20 t18 then
 if v==(gd t18 t20 0)then
 if inb i t then
 if inb t20 t then
 if(gd t i 0) !=(gd t t20 0)then
 some (.inr false)
 else
 C0 n (scope,t,i,v,t9,t10,t11,t18,t19,w64 (t20+1))
 else none
 else none
 else
 C0 n (scope,t,i,v,t9,t10,t11,t18,t19,w64 (t20+1))
 else none
 else
 some (.inl (scope,t,t9,t10,t11))
def DA:Nat->((List Int)×(List Int)×(List Int)×Int×Int)->Option ((Unit)⊕(Bool))
 |0,_=>none
 |n+1,(scope,t,t9,t10,t11)=>
  if decide (t11<t10)then
   if inb t11 t9 then
    if(0:Int)<=0/\0<=t11/\t11<=(scope.length:Int)then
     (C0 Aa (scope,t,t11,gd t9 t11 0,t9,t10,t11,(scope.take (Int.toNat t11)).drop (Int.toNat 0),(((scope.take (Int.toNat t11)).drop (Int.toNat 0)).length:Int),0)).bind λs1=>
      match s1 with
      | .inl s2=>
       DA n (s2.1,s2.2.1,s2.2.2.1,s2.2.2.2.1,w64 (s2.2.2.2.2+1))
      | .inr s3=>
       some (.inr s3)
    else none
   else none
  else
   some (.inl ())
def Gm (scope:List Int) (t:List Int):Option (Bool):=
 (DA Aa (scope,t,scope,(scope.length:Int),0)).bind λs1=>
  match s1 with
  | .inl s2=>
   some true
  | .inr s3=>
   some s3
def CA:Nat->(Int×(List Int)×Int)->Option ((List Int))
 |0,_=>none
 |n+1,(n_,out,x)=>
 if decide (x<n_)then
 if out.length+ [x].length<=lim then
 CA n (n_,out++ [x],w64 (x+1))
 else none
 else
 some out
def D7 (n_:Int):Option ((List Int)):=
 (CA Aa (n_,[],0)).bind λs1=>
 some s1
def Dn:Nat->((Int×Int×(List ((List Int)×Int×(List (List Int)))))×(List (List Int))×Int)->Option ((List (List Int)))
 |0,_=>none
 |n+1,(net,out,v)=>
 if decide (v<net.1)then
 (D7 net.2.1).bind λr1=>
 if out.length+ [r1].length<=lim then
 Dn n ((net.1,(net.2.1,net.2.2)),out++ [r1],w64 (v+1))
 else none
 else
 some out
def Fb (net:Int×Int×(List ((List Int)×Int×(List (List Int))))):Option ((List (List Int))):=
 (Dn Aa ((net.1,(net.2.1,net.2.2)),[],0)).bind λs1=>
 some s1
def DY:Nat->((List Int)×Int×Int)->Option ((Unit)⊕(Bool))
 |0,_=>none
 |n+1,(l,n_,i)=>
 if decide (i<(l.length:Int))then
 if inb i l then
 if(gd l i 0)==n_ then
 some (.inr true)
 else
 DY n (l,n_,w64 (i+1))
 else none
 else
 some (.inl ())
def F5 (l:List Int) (n_:Int):Option (Bool):=
 (DY Aa (l,n_,0)).bind λs1=>
  match s1 with
  | .inl s2=>
   some false
  | .inr s3=>
   some s3
def Ck:Nat->((List Int)×(List (List Int))×((List Int)×Int×(List (List Int)))×Int×Int)->Option (((List Int)×(List (List Int))×((List Int)×Int×(List (List Int)))×Int)⊕(Bool))
 |0,_=>none
 |n+1,(t,domains,c,i,k)=>
 if decide (k<i)then
 if inb k c.1 then
 if inb i c.1 then
 if(gd c.1 k 0)==(gd c.1 i 0)then
 if inb k t then
 if inb i t then
 if(gd t k 0) !=(gd t i 0)then
 some (.inr false)
 else
 Ck n (t,domains,(c.1,(c.2.1,c.2.2)),i,w64 (k+1))
 else none
 else none
 else
 Ck n (t,domains,(c.1,(c.2.1,c.2.2)),i,w64 (k+1))
 else none
 else none
 else
 some (.inl (t,domains,(c.1,(c.2.1,c.2.2)),i))
def Dm:Nat->((List Int)×(List (List Int))×((List Int)×Int×(List (List Int)))×Int)->Option ((Unit)⊕(Bool))
 |0,_=>none
 |n+1,(t,domains,c,i)=>
  if decide (i<(t.length:Int))then
   if inb i c.1 then
    if inb (gd c.1 i 0) domains then
     if inb i t then
      (F5 (gd domains (gd c.1 i 0) []) (gd t i 0)).bind λr1=>
       if !r1 then
        some (.inr false)
       else
        (Ck Aa (t,domains,(c.1,(c.2.1,c.2.2)),i,0)).bind λs2=>
         match s2 with
         | .inl s3=>
          Dm n (s3.1,s3.2.1,(s3.2.2.1.1,(s3.2.2.1.2.1,s3.2.2.1.2.2)),w64 (s3.2.2.2+1))
         | .inr s4=>
          some (.inr s4)
     else none
    else none
   else none
  else
   some (.inl ())
def F6 (c:(List Int)×Int×(List (List Int))) (t:List Int) (domains:List (List Int)):Option (Bool):=
 (Dm Aa (t,domains,(c.1,(c.2.1,c.2.2)),0)).bind λs1=>
  match s1 with
  | .inl s2=>
   some true
  | .inr s3=>
   some s3
def B5:Nat->(Int×Int×(List (List Int))×((List Int)×Int×(List (List Int)))×Int)->Option ((Unit)⊕(Bool))
 |0,_=>none
 |n+1,(place,value,domains,c,i)=>
 if decide (i<(c.2.2.length:Int))then
 if inb i c.2.2 then
 if inb place (gd c.2.2 i [])then
 if(gd (gd c.2.2 i []) place 0)==value then
 if inb i c.2.2 then
 (F6 (c.1,(c.2.1,c.2.2)) (gd c.2.2 i []) domains).bind λr1=>
 if r1 then
 some (.inr true)
 else
 B5 n (place,value,domains,(c.1,(c.2.1,c.2.2)),w64 (i+1))
 else none
 else
 B5 n (place,value,domains,(c.1,(c.2.1,c.2.2)),w64 (i+1))
 else none
 else none
 else
 some (.inl ())
def E0 (c:(List Int)×Int×(List (List Int))) (place:Int) (value:Int) (domains:List (List Int)):Option (Bool):=
 (B5 Aa (place,value,domains,(c.1,(c.2.1,c.2.2)),0)).bind λs1=>
  match s1 with
  | .inl s2=>
   some false
  | .inr s3=>
   some s3
def B6:Nat->((List Int)×Int×(List Int)×Int)->Option ((List Int))
 |0,_=>none
 |n+1,(list,x,out,i)=>
 if decide (i<(list.length:Int))then
 if inb i list then
 if(gd list i 0) !=x then
 if inb i list then
 if out.length+ [gd list i 0].length<=lim then
 B6 n (list,x,out++ [gd list i 0],w64 (i+1))
 else none
 else none
 else
 B6 n (list,x,out,w64 (i+1))
 else none
 else
 some out
def E1 (list:List Int) (x:Int):Option ((List Int)):=
 (B6 Aa (list,x,[],0)).bind λs1=>
 some s1
def BQ:Nat->((Int×Int×(List ((List Int)×Int×(List (List Int)))))×(List (List Bool))×Int×Int×Int×Int×Int)->Option ((Int×Int×(List ((List Int)×Int×(List (List Int)))))×(List (List Bool))×Int×Int)
 |0,_=>none
 |n+1,(net,d,v,t10,t11,t24,t25)=>
 if decide (t25<t24)then
 if inb v d then
 if inb t25 (gd d v [])then
 BQ n ((net.1,(net.2.1,net.2.2)),stt d v (stt (gd d v []) t25 true),v,t10,t11,t24,w64 (t25+1))
 else none
 else none
 else
 some ((net.1,(net.2.1,net.2.2)),d,t10,t11)
def B7:Nat->((Int×Int×(List ((List Int)×Int×(List (List Int)))))×(List (List Bool))×Int×Int)->Option ((List (List Bool)))
 |0,_=>none
 |n+1,(net,d,t10,t11)=>
 if decide (t11<t10)then
 if 0<=net.2.1/\net.2.1<=net.2.1/\net.2.1<=lim then
 if inb t11 d then
 if inb t11 (stt d t11 (List.replicate (Int.toNat net.2.1) (false:Bool)))then
 (BQ Aa ((net.1,(net.2.1,net.2.2)),stt d t11 (List.replicate (Int.toNat net.2.1) (false:Bool)),t11,t10,t11,((gd (stt d t11 (List.replicate (Int.toNat net.2.1) (false:Bool))) t11 []).length:Int),0)).bind λs1=>
 B7 n ((s1.1.1,(s1.1.2.1,s1.1.2.2)),s1.2.1,s1.2.2.1,w64 (s1.2.2.2+1))
 else none
 else none
 else none
 else
 some d
def Ew (net:Int×Int×(List ((List Int)×Int×(List (List Int))))):Option ((List (List Bool))):=
 if 0<=net.1/\net.1<=net.1/\net.1<=lim then
 (B7 Aa ((net.1,(net.2.1,net.2.2)),List.replicate (Int.toNat net.1) ([]:List Bool),((List.replicate (Int.toNat net.1) ([]:List Bool)).length:Int),0)).bind λs1=>
 some s1
 else none
def AH:Nat->((List (List Bool))×Int×Int×((List Int)×Int×(List (List Int)))×Bool×(List (List Int))×Int×Int×(List Int)×Int×Int)->Option ((List (List Bool))×Int×Int×((List Int)×Int×(List (List Int)))×Bool×(List (List Int))×Int×Int)
 |0,_=>none
 |n+1,(d,place,value,c,in_,t16,t17,t18,t35,t36,t37)=>
 if decide (t37<t36)then
 if inb t37 t35 then
 if in_ then
 if inb t37 c.1 then
 if inb (gd c.1 t37 0) d then
 if inb (gd t35 t37 0) (gd d (gd c.1 t37 0) [])then
 AH n (d,place,value,(c.1,(c.2.1,c.2.2)),gd (gd d (gd c.1 t37 0) []) (gd t35 t37 0) false,t16,t17,t18,t35,t36,w64 (t37+1))
 else none
 else none
 else none
 else
 AH n (d,place,value,(c.1,(c.2.1,c.2.2)),false,t16,t17,t18,t35,t36,w64 (t37+1))
 else none
 else
 some (d,place,value,(c.1,(c.2.1,c.2.2)),in_,t16,t17,t18)
def AG:Nat->((List (List Bool))×Int×Int×((List Int)×Int×(List (List Int)))×(List (List Int))×Int×Int)->Option ((Unit)⊕(Bool))
 |0,_=>none
 |n+1,(d,place,value,c,t16,t17,t18)=>
 if decide (t18<t17)then
 if inb t18 t16 then
 if inb place (gd t16 t18 [])then
 if(gd (gd t16 t18 []) place 0) !=value then
 AG n (d,place,value,(c.1,(c.2.1,c.2.2)),t16,t17,w64 (t18+1))
 else
 (Gm c.1 (gd t16 t18 [])).bind λr1=>
 if !r1 then
 AG n (d,place,value,(c.1,(c.2.1,c.2.2)),t16,t17,w64 (t18+1))
 else
 (AH Aa (d,place,value,(c.1,(c.2.1,c.2.2)),true,t16,t17,t18,gd t16 t18 [],((gd t16 t18 []).length:Int),0)).bind λs2=>
 if s2.2.2.2.2.1 then
 some (.inr true)
 else
 AG n (s2.1,s2.2.1,s2.2.2.1,(s2.2.2.2.1.1,(s2.2.2.2.1.2.1,s2.2.2.2.1.2.2)),s2.2.2.2.2.2.1,s2.2.2.2.2.2.2.1,w64 (s2.2.2.2.2.2.2.2+1))
 else none
 else none
 else
 some (.inl ())
def Dv (d:List (List Bool)) (c:(List Int)×Int×(List (List Int))) (place:Int) (value:Int):Option (Bool):=
 (AG Aa (d,place,value,(c.1,(c.2.1,c.2.2)),c.2.2,(c.2.2.length:Int),0)).bind λs1=>
  match s1 with
  | .inl s2=>
   some false
  | .inr s3=>
   some s3
def Cj:Nat->((Int×Int×(List ((List Int)×Int×(List (List Int)))))×(List (Int×Int×Int))×(List (List Int))×Int×Int×((List Int)×Int×(List (List Int)))×Int×(List Int)×Int)->Option ((Int×Int×(List ((List Int)×Int×(List (List Int)))))×(List (Int×Int×Int))×(List (List Int))×Int×Int×((List Int)×Int×(List (List Int)))×Int)
 |0,_=>none
 |n+1,(t2,t6,t7,t8,t9,t10,t11,t12,t13)=>
 if decide (t13<(t12.length:Int))then
 if inb t13 t12 then
 (E0 (t10.1,(t10.2.1,t10.2.2)) t11 (gd t12 t13 0) t7).bind λr1=>
 if !r1 then
 if inb t11 t10.1 then
 if inb t11 t10.1 then
 if inb (gd t10.1 t11 0) t7 then
 if inb t13 t12 then
 (E1 (gd t7 (gd t10.1 t11 0) []) (gd t12 t13 0)).bind λr2=>
 if inb (gd t10.1 t11 0) t7 then
 if inb t13 t12 then
 if t6.length+ [(t9,(t11,gd t12 t13 0))].length<=lim then
 Cj n ((t2.1,(t2.2.1,t2.2.2)),t6++ [(t9,(t11,gd t12 t13 0))],stt t7 (gd t10.1 t11 0) r2,t8,t9,(t10.1,(t10.2.1,t10.2.2)),t11,t12,w64 (t13+1))
 else none
 else none
 else none
 else none
 else none
 else none
 else none
 else
 Cj n ((t2.1,(t2.2.1,t2.2.2)),t6,t7,t8,t9,(t10.1,(t10.2.1,t10.2.2)),t11,t12,w64 (t13+1))
 else none
 else
 some ((t2.1,(t2.2.1,t2.2.2)),t6,t7,t8,t9,(t10.1,(t10.2.1,t10.2.2)),t11)
def CL:Nat->((Int×Int×(List ((List Int)×Int×(List (List Int)))))×(List (Int×Int×Int))×(List (List Int))×Int×Int×((List Int)×Int×(List (List Int)))×Int)->Option ((Int×Int×(List ((List Int)×Int×(List (List Int)))))×(List (Int×Int×Int))×(List (List Int))×Int×Int)
 |0,_=>none
 |n+1,(t2,t6,t7,t8,t9,t10,t11)=>
 if decide (t11<(t10.1.length:Int))then
 if inb t11 t10.1 then
 if inb (gd t10.1 t11 0) t7 then
 (Cj Aa ((t2.1,(t2.2.1,t2.2.2)),t6,t7,t8,t9,(t10.1,(t10.2.1,t10.2.2)),t11,gd t7 (gd t10.1 t11 0) [],0)).bind λs1=>
 CL n ((s1.1.1,(s1.1.2.1,s1.1.2.2)),s1.2.1,s1.2.2.1,s1.2.2.2.1,s1.2.2.2.2.1,(s1.2.2.2.2.2.1.1,(s1.2.2.2.2.2.1.2.1,s1.2.2.2.2.2.1.2.2)),w64 (s1.2.2.2.2.2.2+1))
 else none
 else none
 else
 some ((t2.1,(t2.2.1,t2.2.2)),t6,t7,t8,t9)
def C8:Nat->((Int×Int×(List ((List Int)×Int×(List (List Int)))))×(List (Int×Int×Int))×(List (List Int))×Int×Int)->Option ((Int×Int×(List ((List Int)×Int×(List (List Int)))))×(List (Int×Int×Int))×(List (List Int))×Int)
 |0,_=>none
 |n+1,(t2,t6,t7,t8,t9)=>
 if decide (t9<(t2.2.2.length:Int))then
 if inb t9 t2.2.2 then
 (CL Aa ((t2.1,(t2.2.1,t2.2.2)),t6,t7,t8,t9,((gd t2.2.2 t9 ([],(0,[]))).1,(((gd t2.2.2 t9 ([],(0,[]))).2).1,((gd t2.2.2 t9 ([],(0,[]))).2).2)),0)).bind λs1=>
 C8 n ((s1.1.1,(s1.1.2.1,s1.1.2.2)),s1.2.1,s1.2.2.1,s1.2.2.2.1,w64 (s1.2.2.2.2+1))
 else none
 else
 some ((t2.1,(t2.2.1,t2.2.2)),t6,t7,t8)
def EA:Nat->((Int×Int×(List ((List Int)×Int×(List (List Int)))))×(List (Int×Int×Int))×(List (List Int))×Int)->Option (((List (Int×Int×Int))×(List (List Int)))⊕((List (List Int))×(List (Int×Int×Int))))
 |0,_=>none
 |n+1,(t2,t6,t7,t8)=>
 if decide (t8<(t6.length:Int))then
 (C8 Aa ((t2.1,(t2.2.1,t2.2.2)),t6,t7,(t6.length:Int),0)).bind λs1=>
 if s1.2.2.2==(s1.2.1.length:Int)then
 some (.inr (s1.2.2.1,s1.2.1))
 else
 EA n ((s1.1.1,(s1.1.2.1,s1.1.2.2)),s1.2.1,s1.2.2.1,s1.2.2.2)
 else
 some (.inl (t6,t7))
def FD (t0:Int×Int×(List ((List Int)×Int×(List (List Int))))) (t1:List (List Int)):Option ((List (List Int))×(List (Int×Int×Int))):=
 if([]:List (List Int)).length+t1.length<=lim then
  (EA Aa ((t0.1,(t0.2.1,t0.2.2)),[],[]++t1,(-1))).bind λs1=>
   match s1 with
   | .inl s2=>
    some (s2.2,s2.1)
   | .inr s3=>
    some (s3.1,s3.2)
 else none
def C9:Nat->((List (List Int))×Int)->Option ((Unit)⊕(Bool))
 |0,_=>none
 |n+1,(domains,v)=>
 if decide (v<(domains.length:Int))then
 if inb v domains then
 if((gd domains v []).length:Int)==0 then
 some (.inr true)
 else
 C9 n (domains,w64 (v+1))
 else none
 else
 some (.inl ())
def FJ (domains:List (List Int)):Option (Bool):=
 (C9 Aa (domains,0)).bind λs1=>
  match s1 with
  | .inl s2=>
   some false
  | .inr s3=>
   some s3
def D4 (net:Int×Int×(List ((List Int)×Int×(List (List Int))))):Option (Bool×Bool):=
 (CP (net.1,(net.2.1,net.2.2))).bind λr1=>
 if !r1 then
 some (false,false)
 else
 (Fb (net.1,(net.2.1,net.2.2))).bind λr2=>
 (FD (net.1,(net.2.1,net.2.2)) r2).bind λr3=>
 (FJ r3.1).bind λr4=>
 some (r4,true)
def AB:Nat->((List (List Bool))×(Int×Int×(List ((List Int)×Int×(List (List Int)))))×(List (Int×Int×Int))×Bool×Int×((List Int)×Int×(List (List Int)))×Int×Int×(List ((List Int)×Int×(List (List Int))))×Int×Int×(List Int)×Int×Int×Int×Int)->Option ((List (List Bool))×(Int×Int×(List ((List Int)×Int×(List (List Int)))))×(List (Int×Int×Int))×Bool×Int×((List Int)×Int×(List (List Int)))×(List ((List Int)×Int×(List (List Int))))×Int×Int×(List Int)×Int×Int)
 |0,_=>none
 |n+1,(t0,t3,t5,t6,t7,t8,t9,t10,t15,t16,t17,t23,t24,t25,t34,t35)=>
 if decide (t35<t34)then
 if inb t10 t0 then
 if inb t35 (gd t0 t10 [])then
 if gd (gd t0 t10 []) t35 false then
 (Dv t0 (t8.1,(t8.2.1,t8.2.2)) t9 t35).bind λr1=>
 if !r1 then
 if inb t10 t0 then
 if inb t35 (gd t0 t10 [])then
 if t5.length+ [(t7,(t9,t35))].length<=lim then
 AB n (stt t0 t10 (stt (gd t0 t10 []) t35 false),(t3.1,(t3.2.1,t3.2.2)),t5++ [(t7,(t9,t35))],true,t7,(t8.1,(t8.2.1,t8.2.2)),t9,t10,t15,t16,t17,t23,t24,t25,t34,w64 (t35+1))
 else none
 else none
 else none
 else
 AB n (t0,(t3.1,(t3.2.1,t3.2.2)),t5,t6,t7,(t8.1,(t8.2.1,t8.2.2)),t9,t10,t15,t16,t17,t23,t24,t25,t34,w64 (t35+1))
 else
 AB n (t0,(t3.1,(t3.2.1,t3.2.2)),t5,t6,t7,(t8.1,(t8.2.1,t8.2.2)),t9,t10,t15,t16,t17,t23,t24,t25,t34,w64 (t35+1))
 else none
 else none
 else
 some (t0,(t3.1,(t3.2.1,t3.2.2)),t5,t6,t7,(t8.1,(t8.2.1,t8.2.2)),t15,t16,t17,t23,t24,t25)
def Bj:Nat->((List (List Bool))×(Int×Int×(List ((List Int)×Int×(List (List Int)))))×(List (Int×Int×Int))×Bool×Int×((List Int)×Int×(List (List Int)))×(List ((List Int)×Int×(List (List Int))))×Int×Int×(List Int)×Int×Int)->Option ((List (List Bool))×(Int×Int×(List ((List Int)×Int×(List (List Int)))))×(List (Int×Int×Int))×Bool×(List ((List Int)×Int×(List (List Int))))×Int×Int)
 |0,_=>none
 |n+1,(t0,t3,t5,t6,t7,t8,t15,t16,t17,t23,t24,t25)=>
 if decide (t25<t24)then
 if inb t25 t23 then
 if inb (gd t23 t25 0) t0 then
 (AB Aa (t0,(t3.1,(t3.2.1,t3.2.2)),t5,t6,t7,(t8.1,(t8.2.1,t8.2.2)),t25,gd t23 t25 0,t15,t16,t17,t23,t24,t25,((gd t0 (gd t23 t25 0) []).length:Int),0)).bind λs1=>
 Bj n (s1.1,(s1.2.1.1,(s1.2.1.2.1,s1.2.1.2.2)),s1.2.2.1,s1.2.2.2.1,s1.2.2.2.2.1,(s1.2.2.2.2.2.1.1,(s1.2.2.2.2.2.1.2.1,s1.2.2.2.2.2.1.2.2)),s1.2.2.2.2.2.2.1,s1.2.2.2.2.2.2.2.1,s1.2.2.2.2.2.2.2.2.1,s1.2.2.2.2.2.2.2.2.2.1,s1.2.2.2.2.2.2.2.2.2.2.1,w64 (s1.2.2.2.2.2.2.2.2.2.2.2+1))
 else none
 else none
 else
 some (t0,(t3.1,(t3.2.1,t3.2.2)),t5,t6,t15,t16,t17)
def Bi:Nat->((List (List Bool))×(Int×Int×(List ((List Int)×Int×(List (List Int)))))×(List (Int×Int×Int))×Bool×(List ((List Int)×Int×(List (List Int))))×Int×Int)->Option ((List (List Bool))×(Int×Int×(List ((List Int)×Int×(List (List Int)))))×(List (Int×Int×Int))×Bool)
 |0,_=>none
 |n+1,(t0,t3,t5,t6,t15,t16,t17)=>
 if decide (t17<t16)then
 if inb t17 t15 then
 (Bj Aa (t0,(t3.1,(t3.2.1,t3.2.2)),t5,t6,t17,((gd t15 t17 ([],(0,[]))).1,(((gd t15 t17 ([],(0,[]))).2).1,((gd t15 t17 ([],(0,[]))).2).2)),t15,t16,t17,(gd t15 t17 ([],(0,[]))).1,(((gd t15 t17 ([],(0,[]))).1).length:Int),0)).bind λs1=>
 Bi n (s1.1,(s1.2.1.1,(s1.2.1.2.1,s1.2.1.2.2)),s1.2.2.1,s1.2.2.2.1,s1.2.2.2.2.1,s1.2.2.2.2.2.1,w64 (s1.2.2.2.2.2.2+1))
 else none
 else
 some (t0,(t3.1,(t3.2.1,t3.2.2)),t5,t6)
def BU:Nat->((List (List Bool))×(Int×Int×(List ((List Int)×Int×(List (List Int)))))×(List (Int×Int×Int))×Bool)->Option ((List (List Bool))×(List (Int×Int×Int)))
 |0,_=>none
 |n+1,(t0,t3,t5,t6)=>
 if t6 then
 (Bi Aa (t0,(t3.1,(t3.2.1,t3.2.2)),t5,false,t3.2.2,(t3.2.2.length:Int),0)).bind λs1=>
 BU n (s1.1,(s1.2.1.1,(s1.2.1.2.1,s1.2.1.2.2)),s1.2.2.1,s1.2.2.2)
 else
 some (t0,t5)
def DP (t0:List (List Bool)) (t1:Int×Int×(List ((List Int)×Int×(List (List Int))))):Option ((List (List Bool))×(List (Int×Int×Int))):=
 (BU Aa (t0,(t1.1,(t1.2.1,t1.2.2)),[],true)).bind λs1=>
 some (s1.1,s1.2)
def D1 (net:Int×Int×(List ((List Int)×Int×(List (List Int))))):Option ((List (List Bool))):=
 (Ew (net.1,(net.2.1,net.2.2))).bind λr1=>
 (DP r1 (net.1,(net.2.1,net.2.2))).bind λr2=>
 some r2.1
def C2:Nat->((List Int)×(List Bool)×Int×Int)->Option ((List Int))
 |0,_=>none
 |n+1,(list,t7,t8,t9)=>
 if decide (t9<t8)then
 if inb t9 t7 then
 if gd t7 t9 false then
 if list.length+ [t9].length<=lim then
 C2 n (list++ [t9],t7,t8,w64 (t9+1))
 else none
 else
 C2 n (list,t7,t8,w64 (t9+1))
 else none
 else
 some list
def Fy (have_:List Bool):Option ((List Int)):=
 (C2 Aa ([],have_,(have_.length:Int),0)).bind λs1=>
 some s1
def BH:Nat->((List (List Bool))×Int×Int)->Option ((Unit)⊕(Bool))
 |0,_=>none
 |n+1,(t5,t6,t7)=>
 if decide (t7<t6)then
 if inb t7 t5 then
 (Fy (gd t5 t7 [])).bind λr1=>
 if(r1.length:Int)==0 then
 some (.inr true)
 else
 BH n (t5,t6,w64 (t7+1))
 else none
 else
 some (.inl ())
def Du (d:List (List Bool)):Option (Bool):=
 (BH Aa (d,(d.length:Int),0)).bind λs1=>
  match s1 with
  | .inl s2=>
   some false
  | .inr s3=>
   some s3
def D0 (net:Int×Int×(List ((List Int)×Int×(List (List Int))))):Option (Bool×Bool):=
 (BT (net.1,(net.2.1,net.2.2))).bind λr1=>
 if !r1 then
 some (false,false)
 else
 (D1 (net.1,(net.2.1,net.2.2))).bind λr2=>
 (Du r2).bind λr3=>
 some (r3,true)
def B1:Nat->((List (List Int))×(List (List Bool))×Int×Int)->Option ((List (List Int)))
 |0,_=>none
 |n+1,(list,t7,t8,t9)=>
 if decide (t9<t8)then
 if inb t9 t7 then
 (Fy (gd t7 t9 [])).bind λr1=>
 if list.length+ [r1].length<=lim then
 B1 n (list++ [r1],t7,t8,w64 (t9+1))
 else none
 else none
 else
 some list
def Ec (d:List (List Bool)):Option ((List (List Int))):=
 (B1 Aa ([],d,(d.length:Int),0)).bind λs1=>
 some s1
end T
open Go Go.Va
namespace T
abbrev Con:=List Int×Int×List (List Int)
abbrev Net:=Int×Int×List Con
def KO (a:List (List Int)):Prop:=a.length<=1048576/\ ∀r∈a,r.length<=1048576
def Lx (c:Con):Prop:=c.1.length<=1048576/\KO c.2.2
def HF (a:Net):Prop:=a.2.2.length<=1048576/\ ∀c∈a.2.2,Lx c
def E9 (n:Int) (r:Int×List (List Int)):Bool:=decide (1<=r.1/\r.1<=3)&&(r.2.all λt=>decide ((t.length:Int)=r.1)&&BK n t)&&Ef r.2
def II (n:Int) (r:Int×List (List Int)) (k:Nat):Bool:=decide (((r.2.getD k []).length:Int)=r.1)&&BK n (r.2.getD k [])&&(decide (k=0)||decide (cmpL (r.2.getD (k-1) []) (r.2.getD k [])<0))
theorem Ag {α:Type} {l:List α} {k:Nat} {d:α} (h:k<l.length):l.getD k d=l[k]:=by simp[List.getD_eq_getElem?_getD,h]
theorem Jg {n ar:Int} {ts:List (List Int)}:(List.range ts.length).all (II n (ar,ts))=((ts.all λt=>decide ((t.length:Int)=ar)&&BK n t)&&Ef ts):=by
 rw[Bool.eq_iff_iff,Bool.and_eq_true,List.all_eq_true,List.all_eq_true,JR]
 unfold II
 constructor
 ·intro h
  refine⟨λt ht=>?_,λi hi=>?_⟩
  ·obtain⟨k,hk,rfl⟩:=List.getElem_of_mem ht
   have:=h k (List.mem_range.2 hk)
   rw[Ag hk]at this
   simp only[Bool.and_eq_true]at this
   rw[Bool.and_eq_true];exact this.1
  ·have:=h (i+1) (List.mem_range.2 hi)
   rw[Ag hi,Nat.add_sub_cancel,Ag (show i<ts.length by omega)]at this
   simp at this
   exact this.2
 ·rintro ⟨h1,h2⟩ k hk
  have hk:=List.mem_range.1 hk
  have e:=h1 _ (List.getElem_mem hk)
  rw[Ag hk]
  rw[Bool.and_eq_true]at e
  rw[Bool.and_eq_true,Bool.and_eq_true]
  refine⟨e,?_⟩
  cases k with
  |zero=>simp
  |succ i=>
   have:=h2 i hk
   rw[Nat.add_sub_cancel,Ag (show i<ts.length by omega)]
   simp[this]
theorem Fl {n:Int} {r:Int×List (List Int)} (h:KO r.2):D2 n r=some (E9 n r):=by
 obtain⟨ar,ts⟩:=r
 unfold D2 E9
 by_cases h1:ar<1
 ·simp[h1,show¬1<=ar by omega]
 ·by_cases h2:ar>3
  ·simp[h1,h2,show¬ar<=3 by omega]
  ·rw[if_neg (by simpa using h1),if_neg (by simpa using h2)]
   have key:=FN ts.length (λm (_:Unit) i=>B2 m (n,(ar,ts),ts,(ts.length:Int),i)) (λ_=>()) (II n (ar,ts)) (r:=some (.inr false)) (e:=some (.inl ())) (λm k hk=>?_) (λm=>?_) (n:=Aa) (by unfold Aa;have:=h.1;simp at this;omega)
   ·rw[key,Jg]
    simp only[show(1<=ar/\ar<=3)=True by simp;omega,decide_true,Bool.true_and]
    cases (ts.all λt=>decide ((t.length:Int)=ar)&&BK n t)&&Ef ts<;>simp
   ·have hx:=h.2 ts[k] (List.getElem_mem hk)
    have hk':=h.1
    simp only at hk'
    simp only[B2,Ae,Af hk,Ac (show k<4611686018427387904 by omega),Er n (show ts[k].length<=1099511627775 by omega),II,Ag hk]
    by_cases hl:(ts[k].length:Int)=ar
    ·cases hb:BK n ts[k]with
     |false=>simp[hk,hl]
     |true=>
      cases k with
      |zero=>simp[hk,hl]
      |succ i=>
       have hi:i<ts.length:=by omega
       have hx2:=h.2 ts[i] (List.getElem_mem hi)
       have e:w64 (((i+1:Nat):Int)-1)=(i:Int):=by rw[AE (by omega) (by omega)];omega
       simp only[e,Ae,Af hi,Nat.add_sub_cancel,Ag hi,Gs (show ts[i].length<=1099511627775 by omega)]
       by_cases hc:cmpL ts[i] ts[i+1]<0
       ·simp[hk,hl,hi,hc,show¬cmpL ts[i] ts[i+1]≥0 by omega];omega
       ·simp[hk,hl,hi,hc,show cmpL ts[i] ts[i+1]≥0 by omega];omega
    ·simp[hk,hl]
   ·simp[B2]
theorem EY {n:Int} {r:Int×List (List Int)} (h:KO r.2) (hn:1<=n/\n<=8):Fa n r=some (E9 n r):=by
 obtain⟨ar,ts⟩:=r
 unfold Fa E9
 rw[Bt]
 by_cases h1:1<=ar/\ar<=3
 ·simp only[h1,and_self,decide_true,Option.bind_some,Bool.not_true,Bool.false_eq_true,if_false,Bool.true_and]
  obtain⟨m,rfl⟩: ∃m:Nat,ar=m:=⟨ar.toNat,by omega⟩
  rw[FK (by omega) (by omega) (by omega)]
  simp only[Option.bind_some]
  have key:=NR ts.length (λm' (_:Unit) i=>CG m' (n,((m:Int),ts),i)) (λ_=>()) (II n ((m:Int),ts)) (r:=some (.inr false)) (e:=some (.inl ())) (λm' k hk hb0=>?_) (λm' _=>?_) (n:=Aa) (by unfold Aa;have:=h.1;simp at this;omega)
  ·by_cases hc:(ts.length:Int)>n^m
   ·rw[if_pos (by simpa using hc)]
    by_cases hv:((ts.all λt=>decide ((t.length:Int)=m)&&BK n t)&&Ef ts)=true
    ·rw[Bool.and_eq_true,List.all_eq_true]at hv
     rcases HC (k:=m) hv.2 λt ht=>by have:=hv.1 t ht;simp at this;exact⟨by omega,this.2⟩with h2|h2
     ·omega
     ·subst h2
      have:=Kk (n:=n) (by omega) (by omega) (k:=m) (by omega)
      simp at hc;omega
    ·simp only[Bool.not_eq_true]at hv;rw[hv]
   ·rw[if_neg (by simpa using hc),key,Jg]
    cases (ts.all λt=>decide ((t.length:Int)=m)&&BK n t)&&Ef ts<;>simp
  ·have hx:=h.2 ts[k] (List.getElem_mem hk)
   have hk':=h.1
   simp only at hk'
   simp only[CG,Ae,Af hk,Ac (show k<4611686018427387904 by omega),HX (n:=n) _ (by omega) (by omega) (show ts[k].length<=1099511627775 by omega),II,Ag hk]
   by_cases hl:(ts[k].length:Int)=m
   ·cases hb:BK n ts[k]with
    |false=>simp[hk,hl]
    |true=>
     cases k with
     |zero=>simp[hk,hl]
     |succ i=>
      have hi:i<ts.length:=by omega
      have hx2:=h.2 ts[i] (List.getElem_mem hi)
      have e:w64 (((i+1:Nat):Int)-1)=(i:Int):=by rw[AE (by omega) (by omega)];omega
      simp only[e,Ae,Af hi,Nat.add_sub_cancel,Ag hi]
      have hb1:=hb0 i (by omega)
      simp only[II,Ag hi,Bool.and_eq_true,decide_eq_true_eq]at hb1
      rw[GJ (s:=ts[i]) (t:=ts[i+1]) (by omega) (by have:=hb1.1.1;omega)]
      by_cases hc:cmpL ts[i] ts[i+1]<0
      ·simp[hk,hl,hi,hc];omega
      ·simp[hk,hl,hi,hc];omega
   ·simp[hk,hl]
  ·simp[CG]
 ·have: ¬(1<=ar/\ar<=3):=h1
  simp[this]
end T
open Go Go.Va
namespace T
def Gj (v n:Int) (c:Con):Bool:=E9 n (c.2.1,c.2.2)&&decide ((c.1.length:Int)=c.2.1)&&BK v c.1
def CE (a:Net):Bool:=decide (0<=a.1/\a.1<=9)&&decide (1<=a.2.1/\a.2.1<=4)&&decide (a.2.2.length<=40)&&a.2.2.all (Gj a.1 a.2.1)
theorem Gu {v n:Int} {c:Con} (h:Lx c):Es v n c=some (Gj v n c):=by
 unfold Es Gj
 rw[Fl (r:=(c.2.1,c.2.2)) h.2]
 cases E9 n (c.2.1,c.2.2)with
 |false=>simp
 |true=>
  by_cases hl:(c.1.length:Int)=c.2.1
  ·simp[hl,Er v (show c.1.length<=1099511627775 by have:=h.1;omega)]
  ·simp[hl]
theorem IT {v n:Int} {c:Con} (h:Lx c) (hv:0<=v/\v<=9) (hn:1<=n/\n<=8):Ha v n c=some (Gj v n c):=by
 unfold Ha Gj
 rw[EY (r:=(c.2.1,c.2.2)) h.2 hn]
 cases E9 n (c.2.1,c.2.2)with
 |false=>simp
 |true=>
  by_cases hl:(c.1.length:Int)=c.2.1
  ·simp[hl,Ei (l:=c.1) (n:=v) (by omega) (by omega) (show c.1.length<=1099511627775 by have:=h.1;omega)]
  ·simp[hl]
theorem Cb {a:Net} (h:HF a):BT a=some (CE a):=by
 obtain⟨v,n,cs⟩:=a
 unfold BT CE
 by_cases h1:v<0
 ·simp[h1,show¬0<=v by omega]
 ·by_cases h2:v>9
  ·simp[h1,h2,show¬v<=9 by omega]
  ·rw[if_neg (by simpa using h1),if_neg (by simpa using h2)]
   unfold CU
   by_cases h3:1<=n/\n<=4
   ·by_cases h4:cs.length>40
    ·simp[h3,show¬cs.length<=40 by omega];omega
    ·have key:=FR cs (λm i=>CM m ((v,(n,cs)),cs,(cs.length:Int),i)) (Gj v n) (.inr false) (.inl ()) ?_ ?_ (n:=Aa) (by unfold Aa;omega)
     ·simp only[h3,ge_iff_le,decide_true,if_true,Option.bind_some,Bool.not_true,Bool.false_eq_true,if_false]
      rw[if_neg (by simp;omega),key]
      cases cs.all (Gj v n)<;>simp<;>omega
     ·intro m k hk
      simp only[CM,Ae,Af hk,Ac (show k<4611686018427387904 by omega),Gu (c:=cs[k]) (h.2 _ (List.getElem_mem hk))]
      cases hb:Gj v n cs[k]<;>simp[hk,hb]
     ·intro m
      simp[CM]
   ·by_cases h5:n≥1
    ·simp[h5,show¬n<=4 by omega]
    ·simp[h5,show¬1<=n by omega]
theorem Dl {a:Net} (h:HF a):CP a=some (CE a):=by
 obtain⟨v,n,cs⟩:=a
 unfold CP CE
 rw[Bt,Bt]
 by_cases h1:0<=v/\v<=9
 ·by_cases h3:1<=n/\n<=4
  ·by_cases h4:cs.length>40
   ·simp[h1,h3,show¬cs.length<=40 by omega];omega
   ·have key:=FR cs (λm i=>Dk m ((v,(n,cs)),i)) (Gj v n) (.inr false) (.inl ()) ?_ ?_ (n:=Aa) (by unfold Aa;omega)
    ·simp only[h1,h3,and_self,decide_true,Option.bind_some,Bool.not_true,Bool.false_eq_true,if_false]
     rw[if_neg (by simp;omega),key]
     cases cs.all (Gj v n)<;>simp<;>omega
    ·intro m k hk
     simp only[Dk,Ae,Af hk,Ac (show k<4611686018427387904 by omega),IT (c:=cs[k]) (h.2 _ (List.getElem_mem hk)) h1 (show 1<=n/\n<=8 by omega)]
     cases hb:Gj v n cs[k]<;>simp[hk,hb]
    ·intro m
     simp[Dk]
  ·simp[h1,h3]
 ·simp[h1]
structure ConOk (v n:Int) (c:Con):Prop where
 ar:1<=c.2.1/\c.2.1<=3
 sl:(c.1.length:Int)=c.2.1
 sv: ∀(i:Nat) (hi:i<c.1.length),0<=c.1[i]/\c.1[i]<v
 tl: ∀t∈c.2.2,t.length=c.1.length
 tv: ∀t∈c.2.2,∀(i:Nat) (hi:i<t.length),0<=t[i]/\t[i]<n
 inc:Ef c.2.2=true
 many:c.2.2.length<=64
structure NetOk (a:Net):Prop where
 hv:0<=a.1/\a.1<=9
 hn:1<=a.2.1/\a.2.1<=4
 hc:a.2.2.length<=40
 con: ∀c∈a.2.2,ConOk a.1 a.2.1 c
theorem Nb {v n:Int} {c:Con} (hn:1<=n/\n<=4) (h:Gj v n c=true):ConOk v n c:=by
 unfold Gj E9 at h
 simp only[Bool.and_eq_true,decide_eq_true_eq,List.all_eq_true]at h
 obtain⟨⟨⟨⟨h1,h2⟩,h3⟩,h4⟩,h5⟩:=h
 refine⟨h1,h4,λi hi=>FT h5 i hi,λt ht=>by have:=(h2 t ht).1;omega,λt ht i hi=>FT (h2 t ht).2 i hi,h3,?_⟩
 rcases HC (n:=n) (k:=c.2.1.toNat) h3 λt ht=>⟨by have:=(h2 t ht).1;omega,(h2 t ht).2⟩with h6|h6
 ·have:n^c.2.1.toNat<=64:=by
   have h7:c.2.1.toNat=1∨c.2.1.toNat=2∨c.2.1.toNat=3:=by omega
   have h8:n=1∨n=2∨n=3∨n=4:=by omega
   rcases h7 with h7|h7|h7<;>rcases h8 with h8|h8|h8|h8<;>rw[h7,h8]<;>decide
  omega
 ·rw[h6];simp
theorem EX {a:Net} (h:CE a=true):NetOk a:=by
 unfold CE at h
 simp only[Bool.and_eq_true,decide_eq_true_eq,List.all_eq_true]at h
 obtain⟨⟨⟨h1,h2⟩,h3⟩,h4⟩:=h
 exact⟨h1,h2,h3,λc hc=>Nb h2 (h4 c hc)⟩
end T
open Go Go.Va
namespace T
theorem HY (a b:Int):(a==b)=decide (a=b):=by by_cases h:a=b<;>simp[h]
theorem H3 (a b:Int):(a !=b)=!decide (a=b):=by by_cases h:a=b<;>simp[h]
theorem NQ {β:Type} (N:Nat) (L:Nat->Bool->Int->Option β) (p:Nat->Bool) (f:Bool->Option β)
  (hs: ∀n b (k:Nat),k<N->L (n+1) b k=L n (b&&p k) ((k+1:Nat):Int)) (he: ∀n b,L (n+1) b (N:Nat)=f b) {n:Nat} (hn:N<n) (b:Bool):L n b 0=f (b&&(List.range N).all p):=by
 have key: ∀(n k:Nat) (b:Bool),k<=N->N-k<n->L n b k=f (b&&(List.range' k (N-k)).all p):=by
  intro n
  induction n with
  |zero=>intro k b _ h;omega
  |succ n ih=>
   intro k b hk hn
   rcases Nat.lt_or_ge k N with hlt|hge
   ·rw[hs n b k hlt,ih (k+1) _ hlt (by omega),show N-k=(N-(k+1))+1 by omega,List.range'_succ,List.all_cons,Bool.and_assoc]
   ·have:k=N:=by omega
    subst this;rw[he];simp
 have:=key n 0 b (Nat.zero_le _) (by omega)
 rw[List.range_eq_range']
 simpa using this
theorem NG {α β:Type} (N:Nat) (L:Nat->List α->Int->Option β) (f:Nat->α->α) (fin:List α->Option β)
  (hs: ∀n (a:List α) (k:Nat) (hk:k<N) (hl:a.length=N),L (n+1) a k=L n (a.set k (f k (a[k]'(by omega)))) ((k+1:Nat):Int)) (he: ∀n a,a.length=N->L (n+1) a (N:Nat)=fin a) {n:Nat} (hn:N<n) {a:List α} (ha:a.length=N):L n a 0=fin (a.mapIdx f):=by
 have key:=Ca N L (λk=>a.mapIdx λi x=>if i<k then f i x else x) (r:=fin (a.mapIdx f)) (λn k hk=>?_) (λn=>?_) hn
 ·have e:(a.mapIdx λi x=>if i<0 then f i x else x)=a:=by
   apply List.ext_getElem<;>simp
  rw[e]at key;exact key
 ·rw[hs n _ k hk (by simpa using ha)]
  congr 1
  apply List.ext_getElem
  ·simp
  ·intro i h1 h2
   simp only[List.getElem_set,List.getElem_mapIdx]
   by_cases h:k=i
   ·subst h;simp
   ·rw[if_neg h]
    by_cases h3:i<k
    ·simp[h3,show i<k+1 by omega]
    ·simp[h3,show¬i<k+1 by omega]
 ·have e:(a.mapIdx λi x=>if i<N then f i x else x)=a.mapIdx f:=by
   apply List.ext_getElem
   ·simp
   ·intro i h1 h2
    simp at h1
    simp only[List.getElem_mapIdx];rw[if_pos (by omega)]
  rw[e];exact he n _ (by simpa using ha)
def g0 (l:List Int) (i:Nat):Int:=l.getD i 0
theorem Gb {l:List Int} {i:Nat} (h:i<l.length):l[i]=g0 l i:=(Ag h).symm
def Gd (s t:List Int) (i j:Nat):Bool:=decide (g0 s i≠g0 s j∨g0 t i=g0 t j)
def agB (s t:List Int):Bool:=(List.range s.length).all λi=>(List.range i).all λj=>Gd s t i j
theorem Ii {s t:List Int} (hs:s.length<=1048576) (hl:t.length=s.length):Gm s t=some (agB s t):=by
 unfold Gm agB
 have key:=FN s.length (λn (_:Unit) i=>DA n (s,t,s,(s.length:Int),i)) (λ_=>()) (λi=>(List.range i).all λj=>Gd s t i j) (r:=some (.inr false)) (e:=some (.inl ())) (λn k hk=>?_) (λn=>?_) (n:=Aa) (by unfold Aa;omega)
 ·rw[key]
  cases (List.range s.length).all (λi=>(List.range i).all λj=>Gd s t i j)<;>simp
 ·have inner:=FN k (λn (_:Unit) i=>C0 n (s,t,(k:Int),s[k],s,(s.length:Int),(k:Int),s.take k,(((s.take k).length:Nat):Int),i)) (λ_=>()) (Gd s t k) (r:=some (.inr false)) (e:=some (.inl (s,t,s,(s.length:Int),(k:Int)))) (λn j hj=>?_) (λn=>?_) (n:=Aa) (by unfold Aa;omega)
  ·have e1:List.drop (Int.toNat 0) (List.take (Int.toNat (k:Int)) s)=s.take k:=by simp
   simp only[DA,Ae,Af hk,Ac (show k<4611686018427387904 by omega),e1,inner]
   cases hp:(List.range k).all (Gd s t k)with
   |true=>simp[hk,Nat.le_of_lt hk,Jh (show k<4611686018427387904 by omega)]
   |false=>simp[hk,Nat.le_of_lt hk]
  ·have h1:j<(s.take k).length:=by simp;omega
   have h2:k<t.length:=by omega
   have h3:j<t.length:=by omega
   have e2:(s.take k)[j]=s[j]:=by simp
   simp only[C0,Ae,Af h1,Af h2,Af h3,Ac (show j<4611686018427387904 by omega),e2,Gd,Gb hk,Gb (show j<s.length by omega),Gb h2,Gb h3]
   by_cases h4:g0 s k=g0 s j
   ·by_cases h5:g0 t k=g0 t j<;>simp[h2,h3,h4,h5,show j<min k s.length by omega]
   ·simp[h4,show j<min k s.length by omega]
  ·have e3:(((s.take k).length:Nat):Int)=(k:Int):=by simp;omega
   simp only[C0,e3];simp
 ·simp[DA]
section
variable {v n up:Int} {c:Con} {vals:List Int}
theorem DZ {l:List Int} (h:l.length<=1099511627775):DI l=some l:=by
 unfold DI
 rw[if_pos (by unfold lim;simp;omega)];simp
end
end T
open Go Go.Va
namespace T
def FU:Con:=([],0,[])
section
variable {a:Net} {steps:List Int}
end
end T
open Go Go.Va
namespace T
abbrev Dom:=List (List Bool)
def mk (bs:List Bool):List Int:=((List.range bs.length).filter λi=>bs.getD i false).map λi:Nat=>(i:Int)
def d2 (d:Dom) (v x:Nat):Bool:=(d.getD v []).getD x false
def Iz (d:Dom) (v x:Nat):Dom:=d.set v ((d.getD v []).set x false)
structure DomOk (a:Net) (d:Dom):Prop where
 len:(d.length:Int)=a.1
 row: ∀r∈d,(r.length:Int)=a.2.1
theorem Jv {bs:List Bool} {x:Int}:x∈mk bs↔0<=x/\bs.getD x.toNat false=true:=by
 unfold mk
 rw[List.mem_map]
 constructor
 ·rintro ⟨i,hi,rfl⟩
  rw[List.mem_filter]at hi
  exact⟨by omega,by simpa using hi.2⟩
 ·rintro ⟨h0,h⟩
  refine⟨x.toNat,?_,by omega⟩
  rw[List.mem_filter,List.mem_range]
  refine⟨?_,h⟩
  rcases Nat.lt_or_ge x.toNat bs.length with h1|h1
  ·exact h1
  ·rw[List.getD_eq_getElem?_getD,List.getElem?_eq_none h1]at h;cases h
theorem Ir {bs:List Bool}:(mk bs).length<=bs.length:=by
 unfold mk
 rw[List.length_map]
 have:=List.length_filter_le (λi=>bs.getD i false) (List.range bs.length)
 simpa using this
theorem AF {α:Type} {l:List α} {i j:Nat} {y d:α}:(l.set i y).getD j d=if i=j/\j<l.length then y else l.getD j d:=by
 simp only[List.getD_eq_getElem?_getD,List.getElem?_set]
 by_cases h:i=j
 ·subst h
  by_cases h2:i<l.length
  ·simp[h2]
  ·simp[h2]
 ·simp[h]
theorem Ng {bs:List Bool} {x:Nat}:mk (bs.set x false)=(mk bs).filter λy=>y !=(x:Int):=by
 unfold mk
 rw[List.length_set,List.filter_map,List.filter_filter]
 congr 1
 apply List.filter_congr
 intro i hi
 have hi:=List.mem_range.1 hi
 rw[AF]
 by_cases h:x=i
 ·subst h;simp[hi]
 ·rw[if_neg (by simp[h])]
  have:((i:Int) !=(x:Int))=true:=by simp;omega
  simp[Function.comp,this]
theorem MD {n:Nat}:mk (List.replicate n true)=(List.range n).map λi:Nat=>(i:Int):=by
 unfold mk
 rw[List.length_replicate]
 congr 1
 rw[List.filter_eq_self]
 intro i hi
 have:=List.mem_range.1 hi
 simp[List.getD_eq_getElem?_getD,List.getElem?_replicate,this]
theorem LR {d:Dom} {v:Nat} (h:v<d.length):(d.map mk).getD v []=mk (d.getD v []):=by
 simp[List.getD_eq_getElem?_getD,h]
theorem L3 {d:Dom} {v x:Nat}:(Iz d v x).map mk=(d.map mk).set v (mk ((d.getD v []).set x false)):=by
 unfold Iz;rw[List.map_set]
theorem KQ {a:Net} {d:Dom} {v x:Nat} (h:DomOk a d) (hv:v<d.length):DomOk a (Iz d v x):=by
 refine⟨by unfold Iz;rw[List.length_set];exact h.len,λr hr=>?_⟩
 unfold Iz at hr
 rcases List.mem_or_eq_of_mem_set hr with hr|rfl
 ·exact h.row r hr
 ·rw[List.length_set,Ag hv];exact h.row _ (List.getElem_mem hv)
theorem Mm {d:Dom} {v x y:Nat} (hy:y≠x):d2 (Iz d v x) v y=d2 d v y:=by
 unfold d2 Iz
 rw[AF]
 split
 ·rw[AF,if_neg (by omega)]
 ·rfl
def mu (d:Dom):Nat:=(d.map λr=>r.countP id).sum
theorem KS {α:Type} (f:α->Nat): ∀(l:List α) (i:Nat) (y:α) (hi:i<l.length),((l.set i y).map f).sum+f l[i]=(l.map f).sum+f y
 |x::l,0,y,_=>by simp;omega
 |x::l,i+1,y,hi=>by
  have:=KS f l i y (by simpa using hi)
  simp only[List.set_cons_succ,List.map_cons,List.sum_cons,List.getElem_cons_succ];omega
theorem IZ: ∀(r:List Bool) (x:Nat),r.getD x false=true->(r.set x false).countP id+1=r.countP id
 | [],x,h=>by simp at h
 |b::r,0,h=>by simp at h;subst h;simp
 |b::r,x+1,h=>by
  have:=IZ r x (by simpa using h)
  rw[List.set_cons_succ,List.countP_cons,List.countP_cons];omega
theorem ME {d:Dom} {v x:Nat} (h:d2 d v x=true):mu (Iz d v x)+1=mu d:=by
 unfold d2 at h
 rcases Nat.lt_or_ge v d.length with hv|hv
 ·have h1:=KS (λr:List Bool=>r.countP id) d v ((d.getD v []).set x false) hv
  have h2:=IZ _ _ h
  rw[Ag hv]at h1 h2
  unfold mu Iz
  rw[Ag hv]
  omega
 ·rw[List.getD_eq_getElem?_getD (l:=d),List.getElem?_eq_none hv]at h;simp at h
theorem MX {d:Dom} {v x:Nat} (h:d2 d v x=true):v<d.length/\x<(d.getD v []).length:=by
 unfold d2 at h
 rcases Nat.lt_or_ge v d.length with hv|hv
 ·refine⟨hv,?_⟩
  rcases Nat.lt_or_ge x (d.getD v []).length with hx|hx
  ·exact hx
  ·rw[List.getD_eq_getElem?_getD,List.getElem?_eq_none hx]at h;cases h
 ·rw[List.getD_eq_getElem?_getD (l:=d),List.getElem?_eq_none hv]at h;simp at h
theorem IU {l:List Int} {x:Int} (h:l.length<=1048576):F5 l x=some (decide (x∈l)):=by
 unfold F5
 rw[FR l (λn i=>DY n (l,x,i)) (λy=>!decide (y=x)) (.inr true) (.inl ()) ?_ ?_ (by unfold Aa;omega)]
 ·by_cases hx:x∈l
  ·rw[if_neg]
   ·simp[hx]
   ·rw[List.all_eq_true];intro h;have:=h x hx;simp at this
  ·rw[if_pos]
   ·simp[hx]
   ·rw[List.all_eq_true];intro y hy;have:y≠x:=λe=>hx (e▸hy)
    simp[this]
 ·intro n k hk
  simp only[DY,Ae,Af hk,Ac (show k<4611686018427387904 by omega)]
  by_cases e:l[k]=x<;>simp[hk,e]
 ·intro n;simp[DY]
theorem Hc {l:List Int} {x:Int} (h:l.length<=1048576):E1 l x=some (l.filter λy=>y !=x):=by
 unfold E1
 have:=Ca l.length (λn o i=>B6 n (l,x,o,i)) (λk=>(l.take k).filter λy=>y !=x) (r:=some (l.filter λy=>y !=x)) (λn k hk=>?_) (λn=>?_) (n:=Aa) (by unfold Aa;omega)
 ·simp only[List.take_zero,List.filter_nil]at this
  rw[this];rfl
 ·have hlen:((l.take k).filter λy=>y !=x).length<=k:=Nat.le_trans (List.length_filter_le _ _) (by simp;omega)
  simp only[B6,Ae,Af hk,Ac (show k<4611686018427387904 by omega)]
  rw[List.take_succ_eq_append_getElem hk,List.filter_append]
  by_cases e:l[k]=x
  ·simp[hk,e]
  ·have:((l.take k).filter λy=>y !=x).length+1<=lim:=by unfold lim;omega
   simp[hk,e,this]
 ·simp[B6]
theorem Hd {n:Nat} (h:n<=1048576):D7 n=some ((List.range n).map λi:Nat=>(i:Int)):=by
 unfold D7
 have:=Ca n (λm o i=>CA m ((n:Int),o,i)) (λk=>(List.range k).map λi:Nat=>(i:Int)) (r:=some ((List.range n).map λi:Nat=>(i:Int))) (λm k hk=>?_) (λm=>?_) (n:=Aa) (by unfold Aa;omega)
 ·have e:((List.range 0).map λi:Nat=>(i:Int))= []:=rfl
  rw[e]at this;rw[this];rfl
 ·have e:((List.range k).map λi:Nat=>(i:Int))++ [(k:Int)]=(List.range (k+1)).map λi:Nat=>(i:Int):=by rw[List.range_succ];simp
  simp only[CA,Ac (show k<4611686018427387904 by omega),e]
  rw[if_pos (by simp;omega),if_pos (by unfold lim;simp;omega)]
 ·simp[CA]
def E7 (a:Net):Dom:=List.replicate a.1.toNat (List.replicate a.2.1.toNat true)
theorem GP {a:Net} (h:NetOk a):DomOk a (E7 a):=by
 have h1:=h.hv
 have h2:=h.hn
 refine⟨by unfold E7;rw[List.length_replicate];omega,λr hr=>?_⟩
 unfold E7 at hr
 rw[(List.mem_replicate.1 hr).2,List.length_replicate];omega
theorem Gf {a:Net} (h:NetOk a):Fb a=some ((E7 a).map mk):=by
 have h1:=h.hv
 have h2:=h.hn
 unfold Fb
 have e1:a.2.1=((a.2.1.toNat:Nat):Int):=by omega
 have e0:a.1=((a.1.toNat:Nat):Int):=by omega
 have hid:D7 a.2.1=some (mk (List.replicate a.2.1.toNat true)):=by rw[MD,e1];exact Hd (by omega)
 have:=Ca a.1.toNat (λm o i=>Dn m ((a.1,(a.2.1,a.2.2)),o,i)) (λk=>List.replicate k (mk (List.replicate a.2.1.toNat true))) (r:=some ((E7 a).map mk)) (λm k hk=>?_) (λm=>?_) (n:=Aa) (by unfold Aa;omega)
 ·have e:List.replicate 0 (mk (List.replicate a.2.1.toNat true))= []:=rfl
  rw[e]at this;rw[this];rfl
 ·simp only[Dn,Ac (show k<4611686018427387904 by omega),hid,Option.bind_some]
  rw[if_pos (by simp;omega),if_pos (by unfold lim;simp;omega),←List.replicate_succ']
 ·have e:(E7 a).map mk=List.replicate a.1.toNat (mk (List.replicate a.2.1.toNat true)):=by unfold E7;rw[List.map_replicate]
  simp only[Dn]
  rw[if_neg (by simp;omega),e]
theorem ET {a:Net} (h:NetOk a):Ew a=some (E7 a):=by
 have h1:=h.hv
 have h2:=h.hn
 unfold Ew
 rw[if_pos (by unfold lim;omega)]
 have hm: ∀(d:Dom) (k:Nat) (t10:Int) (hk:k<d.length),d[k].length=a.2.1.toNat->BQ Aa ((a.1,(a.2.1,a.2.2)),d,(k:Int),t10,(k:Int),((a.2.1.toNat:Nat):Int),0)=some ((a.1,(a.2.1,a.2.2)),d.set k (List.replicate a.2.1.toNat true),t10,(k:Int)):=by
  intro d k t10 hk hl
  have:=Ca a.2.1.toNat (λm d i=>BQ m ((a.1,(a.2.1,a.2.2)),d,(k:Int),t10,(k:Int),((a.2.1.toNat:Nat):Int),i)) (λj=>d.set k (List.replicate j true++d[k].drop j)) (r:=some ((a.1,(a.2.1,a.2.2)),d.set k (List.replicate a.2.1.toNat true),t10,(k:Int))) (λm j hj=>?_) (λm=>?_) (n:=Aa) (by unfold Aa;omega)
  ·simpa using this
  ·have hx:j<(d[k]).length:=by omega
   have e:(List.replicate j true++d[k].drop j).set j true=List.replicate (j+1) true++d[k].drop (j+1):=by
    rw[List.set_append_right _ _ (by simp),List.length_replicate,Nat.sub_self,List.drop_eq_getElem_cons hx,List.set_cons_zero,List.replicate_succ',List.append_assoc];rfl
   simp only[BQ,Ae,CY,Af (show k<(d.set k (List.replicate j true++d[k].drop j)).length by simpa using hk),List.getElem_set_self,e,List.set_set,Ac (show j<4611686018427387904 by omega)]
   rw[if_pos (by simp;omega),if_pos (by simpa using hk),if_pos (by simp;omega)]
  ·simp only[BQ]
   rw[List.drop_of_length_le (by omega)];simp
 have:=NG a.1.toNat (λm d i=>B7 m ((a.1,(a.2.1,a.2.2)),d,((a.1.toNat:Nat):Int),i)) (λ_ _=>List.replicate a.2.1.toNat true) some (λm d k hk hl=>?_) (λm d hl=>?_) (n:=Aa) (by unfold Aa;omega) (a:=List.replicate a.1.toNat ([]:List Bool)) (by simp)
 ·have e2:(List.replicate a.1.toNat ([]:List Bool)).mapIdx (λ_ _=>List.replicate a.2.1.toNat true)=E7 a:=by
   unfold E7;apply List.ext_getElem<;>simp
  rw[e2]at this
  simp only[List.length_replicate]
  rw[this];rfl
 ·have hkd:k<d.length:=by omega
  have hks:k<(d.set k (List.replicate (Int.toNat a.2.1) false)).length:=by simpa using hkd
  simp only[B7,Ae,CY,Af hks,List.getElem_set_self,List.length_replicate,Ac (show k<4611686018427387904 by omega),hm _ k _ hks (show((d.set k (List.replicate (Int.toNat a.2.1) false))[k]).length=a.2.1.toNat by simp),Option.bind_some,List.set_set]
  rw[if_pos (by simp;omega),if_pos (by unfold lim;omega),if_pos hkd,if_pos (by simpa using hkd)]
 ·simp[B7]
end T
open Go Go.Va
namespace T
def inD (d:Dom) (s t:List Int):Bool:=(List.range s.length).all λi=>d2 d (g0 s i).toNat (g0 t i).toNat
def ED (d:Dom) (c:Con) (p:Nat) (x:Int):Bool:=c.2.2.any λt=>decide (g0 t p=x)&&(agB c.1 t&&inD d c.1 t)
section
variable {a:Net} {c:Con} {d:Dom}
theorem Hw (h:ConOk a.1 a.2.1 c) (hd:DomOk a d) {i:Nat} (hi:i<c.1.length): ∃m:Nat,c.1[i]=(m:Int)/\g0 c.1 i=(m:Int)/\ ∃hm:m<d.length,((d[m]).length:Int)=a.2.1:=
 ⟨c.1[i].toNat,by have:=h.sv i hi;omega,by have:=h.sv i hi;rw[←Gb hi];omega,by have:=h.sv i hi;have:=hd.len;omega,hd.row _ (List.getElem_mem _)⟩
theorem Ma (h:ConOk a.1 a.2.1 c) {t:List Int} (ht:t∈c.2.2) {i:Nat} (hi:i<c.1.length): ∃(x:Nat) (hit:i<t.length),t[i]=(x:Int)/\g0 t i=(x:Int)/\(x:Int)<a.2.1:=by
 have hl:=h.tl t ht
 have hit:i<t.length:=by omega
 have:=h.tv t ht i hit
 exact⟨t[i].toNat,hit,by omega,by rw[←Gb hit];omega,by omega⟩
theorem Nf {r:List Bool} (hr:r.length<=1048576) {x:Nat}:F5 (mk r) (x:Int)=some (r.getD x false):=by
 rw[IU (Nat.le_trans Ir hr)]
 congr 1
 rw[Bool.eq_iff_iff,decide_eq_true_eq,Jv]
 simp
theorem Ms (h:ConOk a.1 a.2.1 c) {t:List Int} (ht:t∈c.2.2) {i:Nat} (hi:i<c.1.length) (now:List (List Int)):
  Ck Aa (t,now,(c.1,(c.2.1,c.2.2)),(i:Int),0)=if(List.range i).all (Gd c.1 t i)then some (.inl (t,now,(c.1,(c.2.1,c.2.2)),(i:Int)))else some (.inr false):=by
 have htl:=h.tl t ht
 have har:=h.ar
 have hsl:=h.sl
 refine FN i (λn (_:Unit) k=>Ck n (t,now,(c.1,(c.2.1,c.2.2)),(i:Int),k)) (λ_=>()) (Gd c.1 t i) (λn k hk=>?_) (λn=>?_) (n:=Aa) (by unfold Aa;omega)
 ·have h1:i<t.length:=by omega
  have h2:k<t.length:=by omega
  have h3:k<c.1.length:=by omega
  simp only[Ck,Ae,Af h1,Af h2,Af h3,Af hi,Ac (show k<4611686018427387904 by omega),Gd,←Gb h1,←Gb h2,←Gb h3,←Gb hi]
  by_cases h4:c.1[i]=c.1[k]
  ·by_cases h5:t[i]=t[k]
   ·simp[hk,hi,h1,h2,h3,h4,h5]
   ·simp[hk,hi,h1,h2,h3,h4,h5,Ne.symm h5,H3,eq_comm]
  ·simp[hk,hi,h1,h2,h3,h4,Ne.symm h4,HY,eq_comm]
 ·simp[Ck]
theorem HW (h:ConOk a.1 a.2.1 c) (hn:a.2.1<=4) (hd:DomOk a d) {t:List Int} (ht:t∈c.2.2):F6 c t (d.map mk)=some (agB c.1 t&&inD d c.1 t):=by
 have htl:=h.tl t ht
 have har:=h.ar
 have hsl:=h.sl
 unfold F6
 have key:=FN c.1.length (λn (_:Unit) i=>Dm n (t,d.map mk,(c.1,(c.2.1,c.2.2)),i)) (λ_=>()) (λi=>d2 d (g0 c.1 i).toNat (g0 t i).toNat&&(List.range i).all (Gd c.1 t i)) (r:=some (.inr false)) (e:=some (.inl ())) (λn k hk=>?_) (λn=>?_) (n:=Aa) (by unfold Aa;omega)
 ·rw[key]
  have:((List.range c.1.length).all λi=>d2 d (g0 c.1 i).toNat (g0 t i).toNat&&(List.range i).all (Gd c.1 t i))=(agB c.1 t&&inD d c.1 t):=by
   unfold agB inD
   rw[Bool.eq_iff_iff,Bool.and_eq_true,List.all_eq_true,List.all_eq_true,List.all_eq_true]
   constructor
   ·intro h;exact⟨λi hi=>(Bool.and_eq_true _ _▸h i hi).2,λi hi=>(Bool.and_eq_true _ _▸h i hi).1⟩
   ·rintro ⟨h1,h2⟩ i hi;rw[Bool.and_eq_true];exact⟨h2 i hi,h1 i hi⟩
  rw[this]
  cases (agB c.1 t&&inD d c.1 t)<;>simp
 ·obtain⟨m,hm,hmg,hml,hrow⟩:=Hw h hd hk
  obtain⟨x,hkt,hx,hxg,hxn⟩:=Ma h ht hk
  have hml':m<(d.map mk).length:=by simpa using hml
  simp only[Dm,Ae,Af hkt,Af hk,hm,Af hml',List.getElem_map,hx,Nf (show d[m].length<=1048576 by omega),hmg,hxg,Int.toNat_natCast,Ms h ht hk,Option.bind_some,Ac (show k<4611686018427387904 by omega)]
  have e:d2 d m x=d[m].getD x false:=by unfold d2;rw[Ag hml]
  rw[e]
  cases d[m].getD x false with
  |false=>simp[hkt,hk,hml]
  |true=>cases (List.range k).all (Gd c.1 t k)<;>simp[hkt,hk,hml,Jh (show k<4611686018427387904 by omega)]
 ·rw[←htl];simp[Dm]
theorem Hb (h:ConOk a.1 a.2.1 c) (hn:a.2.1<=4) (hd:DomOk a d) {p:Nat} (hp:p<c.1.length) (x:Int):E0 c (p:Int) x (d.map mk)=some (ED d c p x):=by
 have hmany:=h.many
 unfold E0
 have key:=FR c.2.2 (λn i=>B5 n ((p:Int),x,d.map mk,(c.1,(c.2.1,c.2.2)),i)) (λt=>!(decide (g0 t p=x)&&(agB c.1 t&&inD d c.1 t))) (.inr true) (.inl ()) ?_ ?_ (n:=Aa) (by unfold Aa;omega)
 ·rw[key]
  have:(c.2.2.all λt=>!(decide (g0 t p=x)&&(agB c.1 t&&inD d c.1 t)))=!ED d c p x:=by
   unfold ED;rw[←List.not_any_eq_all_not]
  rw[this]
  cases ED d c p x<;>simp
 ·intro n k hk
  have ht:=List.getElem_mem hk
  have hpt:p<(c.2.2[k]).length:=by have:=h.tl _ ht;omega
  simp only[B5,Ae,Af hk,Af hpt,HW h hn hd ht,Option.bind_some,Ac (show k<4611686018427387904 by omega),←Gb hpt]
  by_cases e:(c.2.2[k])[p]=x
  ·cases (agB c.1 c.2.2[k]&&inD d c.1 c.2.2[k])<;>simp[hk,hpt,e]
  ·simp[hk,hpt,e]
 ·intro n;simp[B5]
theorem J7 (h:ConOk a.1 a.2.1 c) (hd:DomOk a d) {t:List Int} (ht:t∈c.2.2) (p x:Int) (b:Bool) (t16:List (List Int)) (t17 t18:Int):
  AH Aa (d,p,x,(c.1,(c.2.1,c.2.2)),b,t16,t17,t18,t,(t.length:Int),0)=some (d,p,x,(c.1,(c.2.1,c.2.2)),b&&inD d c.1 t,t16,t17,t18):=by
 have htl:=h.tl t ht
 have har:=h.ar
 have hsl:=h.sl
 refine NQ c.1.length (λn b i=>AH n (d,p,x,(c.1,(c.2.1,c.2.2)),b,t16,t17,t18,t,(t.length:Int),i)) (λi=>d2 d (g0 c.1 i).toNat (g0 t i).toNat) (λb=>some (d,p,x,(c.1,(c.2.1,c.2.2)),b,t16,t17,t18)) (λn b k hk=>?_) (λn b=>?_) (n:=Aa) (by unfold Aa;omega) b
 ·obtain⟨m,hm,hmg,hml,hrow⟩:=Hw h hd hk
  obtain⟨y,hkt,hx,hxg,hxn⟩:=Ma h ht hk
  have hy:y<d[m].length:=by omega
  simp only[AH,Ae,Af hkt,Af hk,hm,Af hml,hx,Af hy,hmg,hxg,Int.toNat_natCast,Ac (show k<4611686018427387904 by omega)]
  have e:d2 d m y=d[m][y]:=by unfold d2;rw[Ag hml,Ag hy]
  rw[e]
  cases b<;>simp[hkt,hk,hml,hy]
 ·rw[←htl];simp[AH]
theorem HB (h:ConOk a.1 a.2.1 c) (hd:DomOk a d) {p:Nat} (hp:p<c.1.length) (x:Int):Dv d c (p:Int) x=some (ED d c p x):=by
 have hmany:=h.many
 have har:=h.ar
 have hsl:=h.sl
 unfold Dv
 have key:=FR c.2.2 (λn i=>AG n (d,(p:Int),x,(c.1,(c.2.1,c.2.2)),c.2.2,(c.2.2.length:Int),i)) (λt=>!(decide (g0 t p=x)&&(agB c.1 t&&inD d c.1 t))) (.inr true) (.inl ()) ?_ ?_ (n:=Aa) (by unfold Aa;omega)
 ·rw[key]
  have:(c.2.2.all λt=>!(decide (g0 t p=x)&&(agB c.1 t&&inD d c.1 t)))=!ED d c p x:=by
   unfold ED;rw[←List.not_any_eq_all_not]
  rw[this]
  cases ED d c p x<;>simp
 ·intro n k hk
  have ht:=List.getElem_mem hk
  have htl:=h.tl _ ht
  have hpt:p<(c.2.2[k]).length:=by omega
  simp only[AG,Ae,Af hk,Af hpt,Ii (s:=c.1) (t:=c.2.2[k]) (by omega) htl,J7 h hd ht,Option.bind_some,Ac (show k<4611686018427387904 by omega),←Gb hpt]
  by_cases e:(c.2.2[k])[p]=x
  ·cases agB c.1 c.2.2[k]with
   |false=>simp[hk,hpt,e]
   |true=>cases inD d c.1 c.2.2[k]<;>simp[hk,hpt,e]
  ·simp[hk,hpt,e]
 ·intro n;simp[AG]
end
end T
open Go Go.Va
namespace T
abbrev ASt:=Dom×List (Int×Int×Int)
def G7 (c:Con) (i p:Nat) (st:ASt) (x:Nat):ASt:=(Iz st.1 (g0 c.1 p).toNat x,st.2++ [((i:Int),((p:Int),(x:Int)))])
def DO (c:Con) (i p:Nat) (st:ASt) (x:Nat):ASt:=if d2 st.1 (g0 c.1 p).toNat x&&!ED st.1 c p x then G7 c i p st x else st
def Co (n:Nat) (c:Con) (i:Nat) (st:ASt) (p:Nat):ASt:=(List.range n).foldl (DO c i p) st
def EG (a:Net) (st:ASt) (i:Nat):ASt:=(List.range (a.2.2.getD i FU).1.length).foldl (Co a.2.1.toNat (a.2.2.getD i FU) i) st
def Db (a:Net) (st:ASt):ASt:=(List.range a.2.2.length).foldl (EG a) st
def HS (a:Net):Nat->ASt->ASt
 |0,st=>st
 |k+1,st=>if st.2.length<(Db a st).2.length then HS a k (Db a st)else Db a st
structure AInv (a:Net) (K:Nat) (st:ASt):Prop where
 ok:DomOk a st.1
 sum:st.2.length+mu st.1=K
theorem Hi {α β:Type} {P:α->Prop} {f:α->β->α}: ∀(l:List β),(∀s,∀x∈l,P s->P (f s x))-> ∀s,P s->P (l.foldl f s)
 | [],_,_,h=>h
 |x::l,hf,s,h=>Hi l (λs y hy=>hf s y (List.mem_cons_of_mem _ hy)) _ (hf s x (by simp) h)
theorem HO {a:Net} {K:Nat} {c:Con} {i p x:Nat} {st:ASt} (h:AInv a K st):AInv a K (DO c i p st x)/\st.2.length<=(DO c i p st x).2.length:=by
 unfold DO
 cases hb:d2 st.1 (g0 c.1 p).toNat x&&!ED st.1 c p x with
 |false=>exact⟨by simpa using h,by simp⟩
 |true=>
  rw[Bool.and_eq_true]at hb
  have h1:=ME hb.1
  have h2:=MX hb.1
  simp only[if_true,G7]
  exact⟨⟨KQ h.ok h2.1,by have:=h.sum;simp;omega⟩,by simp⟩
theorem FM {a:Net} {K:Nat} {c:Con} {i p:Nat} (l:List Nat) {st:ASt} (h:AInv a K st):AInv a K (l.foldl (DO c i p) st)/\st.2.length<=(l.foldl (DO c i p) st).2.length:=
 Hi (P:=λs=>AInv a K s/\st.2.length<=s.2.length) l (λs x _ hs=>⟨(HO hs.1).1,Nat.le_trans hs.2 (HO hs.1).2⟩) st ⟨h,Nat.le_refl _⟩
theorem Fg {a:Net} {K:Nat} {c:Con} {i n:Nat} (l:List Nat) {st:ASt} (h:AInv a K st):AInv a K (l.foldl (Co n c i) st)/\st.2.length<=(l.foldl (Co n c i) st).2.length:=
 Hi (P:=λs=>AInv a K s/\st.2.length<=s.2.length) l (λs x _ hs=>⟨(FM _ hs.1).1,Nat.le_trans hs.2 (FM _ hs.1).2⟩) st ⟨h,Nat.le_refl _⟩
theorem EJ {a:Net} {K:Nat} (l:List Nat) {st:ASt} (h:AInv a K st):AInv a K (l.foldl (EG a) st)/\st.2.length<=(l.foldl (EG a) st).2.length:=
 Hi (P:=λs=>AInv a K s/\st.2.length<=s.2.length) l (λs x _ hs=>⟨(Fg _ hs.1).1,Nat.le_trans hs.2 (Fg _ hs.1).2⟩) st ⟨h,Nat.le_refl _⟩
theorem H6 {a:Net} {K:Nat}: ∀(k:Nat) {st:ASt},AInv a K st->AInv a K (HS a k st)
 |0,_,h=>h
 |k+1,st,h=>by
  simp only[HS]
  split
  ·exact H6 k (EJ _ h).1
  ·exact(EJ _ h).1
theorem K7 {c:Con} {i p:Nat} {st:ASt} {n:Nat} (hn:(st.1.getD (g0 c.1 p).toNat []).length=n):
  (mk (st.1.getD (g0 c.1 p).toNat [])).foldl (λs x=>if !ED s.1 c p x then G7 c i p s x.toNat else s) st=(List.range n).foldl (DO c i p) st:=by
 have key: ∀(r0:List Bool) (l:List Nat) (s:ASt),l.Nodup->(∀y∈l,d2 s.1 (g0 c.1 p).toNat y=r0.getD y false)->
   l.foldl (λs y=>if r0.getD y false=true then(if !ED s.1 c p (y:Int)then G7 c i p s ((y:Int).toNat)else s)else s) s=l.foldl (DO c i p) s:=by
  intro r0 l
  induction l with
  |nil=>intro s _ _;rfl
  |cons y l ih=>
   intro s hnd hr
   rw[List.foldl_cons,List.foldl_cons]
   rw[List.nodup_cons]at hnd
   have e:(if r0.getD y false=true then(if !ED s.1 c p (y:Int)then G7 c i p s ((y:Int).toNat)else s)else s)=DO c i p s y:=by
    unfold DO
    rw[hr y (by simp)]
    cases r0.getD y false<;>cases ED s.1 c p (y:Int)<;>simp
   rw[e]
   refine ih _ hnd.2 λz hz=>?_
   rw[←hr z (List.mem_cons_of_mem _ hz)]
   have hzy:z≠y:=λe=>hnd.1 (e▸hz)
   unfold DO
   split
   ·exact Mm hzy
   ·rfl
 rw[←hn]
 have h:=key (st.1.getD (g0 c.1 p).toNat []) (List.range (st.1.getD (g0 c.1 p).toNat []).length) st List.nodup_range (λy _=>rfl)
 rw[←h]
 unfold mk
 rw[List.foldl_map,List.foldl_filter]
section
variable {a:Net} {K:Nat} {c:Con}
theorem Mg (hN:NetOk a) (h:ConOk a.1 a.2.1 c) (i:Nat) {p:Nat} (hp:p<c.1.length) (hK:K<=1000) {st:ASt} (hi:AInv a K st) (t8:Int):
  Cj Aa ((a.1,(a.2.1,a.2.2)),st.2,st.1.map mk,t8,(i:Int),(c.1,(c.2.1,c.2.2)),(p:Int),mk (st.1.getD (g0 c.1 p).toNat []),0)=
   some ((a.1,(a.2.1,a.2.2)),(Co a.2.1.toNat c i st p).2,(Co a.2.1.toNat c i st p).1.map mk,t8,(i:Int),(c.1,(c.2.1,c.2.2)),(p:Int)):=by
 have hn:=hN.hn
 obtain⟨m,hm,hmg,hml,hrow⟩:=Hw h hi.ok hp
 have hrl:(st.1.getD m []).length=a.2.1.toNat:=by rw[Ag hml];omega
 have hvl:(mk (st.1.getD m [])).length<=4:=Nat.le_trans Ir (by omega)
 have hfv:=K7 (c:=c) (i:=i) (p:=p) (st:=st) (n:=a.2.1.toNat) (by rw[hmg];exact hrl)
 unfold Co
 rw[←hfv,hmg,Int.toNat_natCast]
 generalize hvals:mk (st.1.getD m [])=vals at hvl⊢
 have hnn: ∀y∈vals,0<=y/\y.toNat<a.2.1.toNat:=λy hy=>by
  rw[←hvals,Jv]at hy
  refine⟨hy.1,?_⟩
  rcases Nat.lt_or_ge y.toNat (st.1.getD m []).length with h1|h1
  ·omega
  ·have:=hy.2;rw[List.getD_eq_getElem?_getD,List.getElem?_eq_none h1]at this;cases this
 have hst: ∀k,k<=vals.length->(DomOk a ((vals.take k).foldl (λs x=>if !ED s.1 c p x then G7 c i p s x.toNat else s) st).1)/\((vals.take k).foldl (λs x=>if !ED s.1 c p x then G7 c i p s x.toNat else s) st).2.length<=st.2.length+k:=by
  intro k
  induction k with
  |zero=>intro _;exact⟨by simpa using hi.ok,by simp⟩
  |succ k ih=>
   intro hk
   obtain⟨h1,h2⟩:=ih (by omega)
   rw[List.take_succ_eq_append_getElem hk,List.foldl_append,List.foldl_cons,List.foldl_nil]
   split
   ·refine⟨KQ h1 ?_,?_⟩
    ·have:=h1.len;have:=hi.ok.len;rw[hmg,Int.toNat_natCast];omega
    ·unfold G7 at h2⊢
     rw[List.length_append,List.length_singleton];omega
   ·exact⟨h1,Nat.le_succ_of_le h2⟩
 have:=Ca vals.length (λn (s:ASt) k=>Cj n ((a.1,(a.2.1,a.2.2)),s.2,s.1.map mk,t8,(i:Int),(c.1,(c.2.1,c.2.2)),(p:Int),vals,k)) (λk=>(vals.take k).foldl (λs x=>if !ED s.1 c p x then G7 c i p s x.toNat else s) st)
  (r:=some ((a.1,(a.2.1,a.2.2)),(vals.foldl (λs x=>if !ED s.1 c p x then G7 c i p s x.toNat else s) st).2,(vals.foldl (λs x=>if !ED s.1 c p x then G7 c i p s x.toNat else s) st).1.map mk,t8,(i:Int),(c.1,(c.2.1,c.2.2)),(p:Int))) (λn k hk=>?_) (λn=>?_) (n:=Aa) (by unfold Aa;omega)
 ·exact this
 ·obtain⟨hok,hlen⟩:=hst k (by omega)
  have hsum:=hi.sum
  rw[List.take_succ_eq_append_getElem hk,List.foldl_append,List.foldl_cons,List.foldl_nil]
  generalize (vals.take k).foldl (λs x=>if !ED s.1 c p x then G7 c i p s x.toNat else s) st=s at hok hlen⊢
  obtain⟨sd,str⟩:=s
  dsimp only at hok hlen⊢
  have hmd:m<sd.length:=by have:=hok.len;have:=hi.ok.len;omega
  have hmd':m<(sd.map mk).length:=by simpa using hmd
  have hrow2:=hok.row _ (List.getElem_mem hmd)
  have hx:=hnn _ (List.getElem_mem hk)
  have ex:vals[k]=((vals[k].toNat:Nat):Int):=by omega
  have hw:=Hc (l:=mk sd[m]) (x:=vals[k]) (Nat.le_trans Ir (by omega))
  have hmk:(mk sd[m]).filter (λy=>y !=vals[k])=mk ((sd.getD m []).set vals[k].toNat false):=by rw[Ng,Ag hmd,←ex]
  have hl1:str.length+1<=lim:=by unfold lim;omega
  simp only[Cj,Ae,Af hk,Hb h hn.2 hok hp,Option.bind_some,Af hp,hm,Af hmd',List.getElem_map,hw,hmk,CY,Ac (show k<4611686018427387904 by omega)]
  cases ED sd c p vals[k]with
  |true=>simp[hk]
  |false=>
   simp only[Bool.not_false,if_true,G7,hmg,Int.toNat_natCast,L3,←ex]
   simp[hk,hp,hmd,hl1]
 ·rw[List.take_length];simp[Cj]
theorem Km (hN:NetOk a) (h:ConOk a.1 a.2.1 c) (i:Nat) {p:Nat} (hp:p<c.1.length) (hK:K<=1000) {st:ASt} (hi:AInv a K st) (ch:Bool) (t15:List Con) (t16 t17:Int) (t23:List Int) (t24 t25:Int):
  AB Aa (st.1,(a.1,(a.2.1,a.2.2)),st.2,ch,(i:Int),(c.1,(c.2.1,c.2.2)),(p:Int),g0 c.1 p,t15,t16,t17,t23,t24,t25,((gd st.1 (g0 c.1 p) []).length:Int),0)=
   some ((Co a.2.1.toNat c i st p).1,(a.1,(a.2.1,a.2.2)),(Co a.2.1.toNat c i st p).2,ch||decide (st.2.length<(Co a.2.1.toNat c i st p).2.length),(i:Int),(c.1,(c.2.1,c.2.2)),t15,t16,t17,t23,t24,t25):=by
 have hn:=hN.hn
 obtain⟨m,hm,hmg,hml,hrow⟩:=Hw h hi.ok hp
 rw[hmg,Af hml]
 have e0:((st.1[m]).length:Int)=((a.2.1.toNat:Nat):Int):=by omega
 rw[e0]
 unfold Co
 generalize a.2.1.toNat=N at e0⊢
 have:=Ca N (λn (s:ASt×Bool) k=>AB n (s.1.1,(a.1,(a.2.1,a.2.2)),s.1.2,s.2,(i:Int),(c.1,(c.2.1,c.2.2)),(p:Int),(m:Int),t15,t16,t17,t23,t24,t25,((N:Nat):Int),k))
  (λk=>((List.range k).foldl (DO c i p) st,ch||decide (st.2.length<((List.range k).foldl (DO c i p) st).2.length)))
  (r:=some (((List.range N).foldl (DO c i p) st).1,(a.1,(a.2.1,a.2.2)),((List.range N).foldl (DO c i p) st).2,ch||decide (st.2.length<((List.range N).foldl (DO c i p) st).2.length),(i:Int),(c.1,(c.2.1,c.2.2)),t15,t16,t17,t23,t24,t25)) (λn k hk=>?_) (λn=>?_) (n:=Aa) (by unfold Aa;omega)
 ·simpa using this
 ·obtain⟨hin,hle⟩:=FM (c:=c) (i:=i) (p:=p) (List.range k) hi
  rw[List.range_succ,List.foldl_append,List.foldl_cons,List.foldl_nil]
  generalize (List.range k).foldl (DO c i p) st=s at hin hle⊢
  obtain⟨sd,str⟩:=s
  have hok:=hin.ok
  have hsum:=hin.sum
  dsimp only at hok hsum hle⊢
  have hmd:m<sd.length:=by have:=hok.len;have:=hi.ok.len;omega
  have hrow2:=hok.row _ (List.getElem_mem hmd)
  have hk2:k<sd[m].length:=by omega
  have hl1:str.length+1<=lim:=by unfold lim;omega
  have ed:d2 sd m k=sd[m][k]:=by unfold d2;rw[Ag hmd,Ag hk2]
  simp only[AB,Ae,Af hmd,Af hk2,HB h hok hp,Option.bind_some,CY,Ac (show k<4611686018427387904 by omega),DO,hmg,Int.toNat_natCast,ed]
  cases sd[m][k]with
  |false=>simp[hk,hmd,hk2]
  |true=>
   cases ED sd c p (k:Int)with
   |true=>simp[hk,hmd,hk2]
   |false=>
    have e2:st.2.length<str.length+1:=by omega
    simp[hk,hmd,hk2,hl1,G7,hmg,Iz,Ag hmd,e2,List.getD_eq_getElem?_getD]
 ·simp[AB]
end
end T
open Go Go.Va
namespace T
section
variable {a:Net} {K:Nat}
theorem Ly (hN:NetOk a) {i:Nat} (hi:i<a.2.2.length):ConOk a.1 a.2.1 (a.2.2.getD i FU):=by
 rw[Ag hi];exact hN.con _ (List.getElem_mem hi)
theorem Mf (hN:NetOk a) {c:Con} (h:ConOk a.1 a.2.1 c) (i:Nat) (hK:K<=1000) {st:ASt} (hi:AInv a K st) (t8:Int):
  CL Aa ((a.1,(a.2.1,a.2.2)),st.2,st.1.map mk,t8,(i:Int),(c.1,(c.2.1,c.2.2)),0)=
   some ((a.1,(a.2.1,a.2.2)),((List.range c.1.length).foldl (Co a.2.1.toNat c i) st).2,((List.range c.1.length).foldl (Co a.2.1.toNat c i) st).1.map mk,t8,(i:Int)):=by
 have har:=h.ar
 have hsl:=h.sl
 have:=Ca c.1.length (λn (s:ASt) k=>CL n ((a.1,(a.2.1,a.2.2)),s.2,s.1.map mk,t8,(i:Int),(c.1,(c.2.1,c.2.2)),k)) (λk=>(List.range k).foldl (Co a.2.1.toNat c i) st)
  (r:=some ((a.1,(a.2.1,a.2.2)),((List.range c.1.length).foldl (Co a.2.1.toNat c i) st).2,((List.range c.1.length).foldl (Co a.2.1.toNat c i) st).1.map mk,t8,(i:Int))) (λn k hk=>?_) (λn=>?_) (n:=Aa) (by unfold Aa;omega)
 ·exact this
 ·have hin:=(Fg (c:=c) (i:=i) (n:=a.2.1.toNat) (List.range k) hi).1
  rw[List.range_succ,List.foldl_append,List.foldl_cons,List.foldl_nil]
  generalize (List.range k).foldl (Co a.2.1.toNat c i) st=s at hin⊢
  obtain⟨m,hm,hmg,hml,hrow⟩:=Hw h hin.ok hk
  have hml':m<(s.1.map mk).length:=by simpa using hml
  have key:=Mg hN h i hk hK hin t8
  rw[hmg,Int.toNat_natCast,Ag hml]at key
  simp only[CL,Ae,Af hk,hm,Af hml',List.getElem_map,key,Option.bind_some,Ac (show k<4611686018427387904 by omega)]
  simp[hk,hml]
 ·simp[CL]
theorem M7 (hN:NetOk a) (hK:K<=1000) {st:ASt} (hi:AInv a K st) (t8:Int):
  C8 Aa ((a.1,(a.2.1,a.2.2)),st.2,st.1.map mk,t8,0)=some ((a.1,(a.2.1,a.2.2)),(Db a st).2,(Db a st).1.map mk,t8):=by
 have hc:=hN.hc
 have:=Ca a.2.2.length (λn (s:ASt) k=>C8 n ((a.1,(a.2.1,a.2.2)),s.2,s.1.map mk,t8,k)) (λk=>(List.range k).foldl (EG a) st)
  (r:=some ((a.1,(a.2.1,a.2.2)),(Db a st).2,(Db a st).1.map mk,t8)) (λn k hk=>?_) (λn=>?_) (n:=Aa) (by unfold Aa;omega)
 ·exact this
 ·have hin:=(EJ (List.range k) hi).1
  rw[List.range_succ,List.foldl_append,List.foldl_cons,List.foldl_nil]
  generalize (List.range k).foldl (EG a) st=s at hin⊢
  have key:=Mf hN (Ly hN hk) k hK hin t8
  rw[Ag hk]at key
  simp only[C8,Ae,Af hk,key,Option.bind_some,Ac (show k<4611686018427387904 by omega),EG,Ag hk]
  simp[hk]
 ·simp[C8,Db]
theorem M6 (hN:NetOk a) (hK:K<=1000): ∀(k:Nat) (st:ASt),AInv a K st->mu st.1<k-> ∀(n:Nat),k<=n-> ∀t8:Int,t8<st.2.length->
  EA n ((a.1,(a.2.1,a.2.2)),st.2,st.1.map mk,t8)=some (.inr ((HS a k st).1.map mk,(HS a k st).2)):=by
 intro k
 induction k with
 |zero=>intro st _ h;omega
 |succ k ih=>
  intro st hi hmu n hn t8 ht
  obtain⟨n,rfl⟩: ∃m,n=m+1:=⟨n-1,by omega⟩
  obtain⟨hin,hle⟩:=EJ (List.range a.2.2.length) hi
  rw[show(List.range a.2.2.length).foldl (EG a) st=Db a st from rfl]at hin hle
  simp only[EA,M7 hN hK hi,Option.bind_some]
  rw[if_pos (by simpa using ht)]
  simp only[HS]
  by_cases h:st.2.length<(Db a st).2.length
  ·rw[if_pos h,if_neg (by simp;omega)]
   exact ih (Db a st) hin (by have:=hi.sum;have:=hin.sum;omega) n (by omega) _ (by simpa using h)
  ·rw[if_neg h,if_pos (by simp;omega)]
theorem Li (hN:NetOk a) {c:Con} (h:ConOk a.1 a.2.1 c) (i:Nat) (hK:K<=1000) {st:ASt} (hi:AInv a K st) (ch:Bool) (t15:List Con) (t16 t17:Int):
  Bj Aa (st.1,(a.1,(a.2.1,a.2.2)),st.2,ch,(i:Int),(c.1,(c.2.1,c.2.2)),t15,t16,t17,c.1,(c.1.length:Int),0)=
   some (((List.range c.1.length).foldl (Co a.2.1.toNat c i) st).1,(a.1,(a.2.1,a.2.2)),((List.range c.1.length).foldl (Co a.2.1.toNat c i) st).2,ch||decide (st.2.length<((List.range c.1.length).foldl (Co a.2.1.toNat c i) st).2.length),t15,t16,t17):=by
 have har:=h.ar
 have hsl:=h.sl
 have:=Ca c.1.length (λn (s:ASt×Bool) k=>Bj n (s.1.1,(a.1,(a.2.1,a.2.2)),s.1.2,s.2,(i:Int),(c.1,(c.2.1,c.2.2)),t15,t16,t17,c.1,(c.1.length:Int),k)) (λk=>((List.range k).foldl (Co a.2.1.toNat c i) st,ch||decide (st.2.length<((List.range k).foldl (Co a.2.1.toNat c i) st).2.length)))
  (r:=some (((List.range c.1.length).foldl (Co a.2.1.toNat c i) st).1,(a.1,(a.2.1,a.2.2)),((List.range c.1.length).foldl (Co a.2.1.toNat c i) st).2,ch||decide (st.2.length<((List.range c.1.length).foldl (Co a.2.1.toNat c i) st).2.length),t15,t16,t17)) (λn k hk=>?_) (λn=>?_) (n:=Aa) (by unfold Aa;omega)
 ·simpa using this
 ·obtain⟨hin,hle⟩:=Fg (c:=c) (i:=i) (n:=a.2.1.toNat) (List.range k) hi
  rw[List.range_succ,List.foldl_append,List.foldl_cons,List.foldl_nil]
  generalize (List.range k).foldl (Co a.2.1.toNat c i) st=s at hin hle⊢
  obtain⟨m,hm,hmg,hml,hrow⟩:=Hw h hin.ok hk
  have hle2:s.2.length<=(Co a.2.1.toNat c i s k).2.length:=(FM _ hin).2
  have key:=λch=>Km hN h i hk hK hin ch t15 t16 t17 c.1 (c.1.length:Int) (k:Int)
  rw[hmg]at key
  simp only[Bj,Ae,Af hk,hm,key,Option.bind_some,Ac (show k<4611686018427387904 by omega)]
  have e:(ch||decide (st.2.length<s.2.length)||decide (s.2.length<(Co a.2.1.toNat c i s k).2.length))=(ch||decide (st.2.length<(Co a.2.1.toNat c i s k).2.length)):=by
   rw[Bool.or_assoc];congr 1
   rw[Bool.eq_iff_iff];simp;omega
  rw[e]
  simp[hk,hml]
 ·simp[Bj]
theorem Lh (hN:NetOk a) (hK:K<=1000) {st:ASt} (hi:AInv a K st):
  Bi Aa (st.1,(a.1,(a.2.1,a.2.2)),st.2,false,a.2.2,(a.2.2.length:Int),0)=some ((Db a st).1,(a.1,(a.2.1,a.2.2)),(Db a st).2,decide (st.2.length<(Db a st).2.length)):=by
 have hc:=hN.hc
 have:=Ca a.2.2.length (λn (s:ASt×Bool) k=>Bi n (s.1.1,(a.1,(a.2.1,a.2.2)),s.1.2,s.2,a.2.2,(a.2.2.length:Int),k)) (λk=>((List.range k).foldl (EG a) st,decide (st.2.length<((List.range k).foldl (EG a) st).2.length)))
  (r:=some ((Db a st).1,(a.1,(a.2.1,a.2.2)),(Db a st).2,decide (st.2.length<(Db a st).2.length))) (λn k hk=>?_) (λn=>?_) (n:=Aa) (by unfold Aa;omega)
 ·simpa using this
 ·obtain⟨hin,hle⟩:=EJ (List.range k) hi
  rw[List.range_succ,List.foldl_append,List.foldl_cons,List.foldl_nil]
  generalize (List.range k).foldl (EG a) st=s at hin hle⊢
  have hle2:s.2.length<=(EG a s k).2.length:=(Fg _ hin).2
  have key:=Li hN (Ly hN hk) k hK hin (decide (st.2.length<s.2.length)) a.2.2 (a.2.2.length:Int) (k:Int)
  rw[show(List.range (a.2.2.getD k FU).1.length).foldl (Co a.2.1.toNat (a.2.2.getD k FU) k) s=EG a s k from rfl]at key
  have e:(decide (st.2.length<s.2.length)||decide (s.2.length<(EG a s k).2.length))=decide (st.2.length<(EG a s k).2.length):=by
   rw[Bool.eq_iff_iff];simp;omega
  rw[e,Ag hk]at key
  simp only[Bi,Ae,Af hk,key,Option.bind_some,Ac (show k<4611686018427387904 by omega)]
  simp[hk]
 ·simp only[Bi];rw[if_neg (by simp)];rfl
theorem Lg (hN:NetOk a) (hK:K<=1000): ∀(k:Nat) (st:ASt),AInv a K st->mu st.1<k-> ∀(n:Nat),k+1<=n->
  BU n (st.1,(a.1,(a.2.1,a.2.2)),st.2,true)=some (HS a k st):=by
 intro k
 induction k with
 |zero=>intro st _ h;omega
 |succ k ih=>
  intro st hi hmu n hn
  obtain⟨n,rfl⟩: ∃m,n=m+1:=⟨n-1,by omega⟩
  obtain⟨hin,hle⟩:=EJ (List.range a.2.2.length) hi
  rw[show(List.range a.2.2.length).foldl (EG a) st=Db a st from rfl]at hin hle
  simp only[BU,if_true,Lh hN hK hi,Option.bind_some]
  simp only[HS]
  by_cases h:st.2.length<(Db a st).2.length
  ·rw[if_pos h,decide_eq_true h]
   exact ih (Db a st) hin (by have:=hi.sum;have:=hin.sum;omega) n (by omega)
  ·rw[if_neg h,decide_eq_false h]
   obtain⟨n,rfl⟩: ∃m,n=m+1:=⟨n-1,by omega⟩
   simp[BU]
theorem I9 {d:Dom} (hN:NetOk a) (h:DomOk a d):mu d<=36:=by
 have key: ∀(l:Dom),(∀r∈l,(r.length:Int)=a.2.1)->mu l<=l.length*4:=by
  intro l
  induction l with
  |nil=>intro _;simp[mu]
  |cons r l ih=>
   intro hr
   have h1:=ih λr' h'=>hr r' (List.mem_cons_of_mem _ h')
   have h2:=hr r (by simp)
   have h3:r.countP id<=r.length:=List.countP_le_length
   have h4:=hN.hn
   unfold mu at h1⊢
   rw[List.map_cons,List.sum_cons,List.length_cons];omega
 have h1:=key d h.row
 have h2:=h.len
 have h3:=hN.hv
 omega
def Fh (a:Net) (d:Dom):ASt:=HS a 40 (d,[])
theorem GM (hN:NetOk a) {d:Dom} (h:DomOk a d):DomOk a (Fh a d).1/\(Fh a d).2.length<=36:=by
 have hi:AInv a (mu d) (d,[]):=⟨h,by simp⟩
 have h1:=H6 40 hi
 exact⟨h1.ok,by have:=h1.sum;have:=I9 hN h;unfold Fh;omega⟩
theorem GG (hN:NetOk a) {d:Dom} (h:DomOk a d):FD a (d.map mk)=some ((Fh a d).1.map mk,(Fh a d).2):=by
 have hi:AInv a (mu d) (d,[]):=⟨h,by simp⟩
 have hl:=h.len
 have hv:=hN.hv
 unfold FD
 rw[if_pos (by unfold lim;simp;omega)]
 have:=M6 hN (by have:=I9 hN h;omega) 40 (d,[]) hi (by have:=I9 hN h;show mu d<40;omega) Aa (by unfold Aa;omega) (-1) (by simp)
 simp only[List.nil_append]
 dsimp only at this
 rw[this];rfl
theorem Gw (hN:NetOk a) {d:Dom} (h:DomOk a d):DP d a=some (Fh a d):=by
 have hi:AInv a (mu d) (d,[]):=⟨h,by simp⟩
 unfold DP
 have:=Lg hN (by have:=I9 hN h;omega) 40 (d,[]) hi (by have:=I9 hN h;show mu d<40;omega) Aa (by unfold Aa;omega)
 dsimp only at this
 rw[this];rfl
theorem Gv {r:List Bool} (h:r.length<=1048576):Fy r=some (mk r):=by
 unfold Fy
 have e: ∀k,k<r.length->mk (r.take (k+1))=mk (r.take k)++if r.getD k false then [(k:Int)]else []:=λk hk=>by
  unfold mk
  have h1:(r.take (k+1)).length=k+1:=by simp;omega
  have h2:(r.take k).length=k:=by simp;omega
  rw[h1,h2,List.range_succ,List.filter_append,List.map_append]
  have h3:(List.range k).filter (λi=>(r.take (k+1)).getD i false)=(List.range k).filter (λi=>(r.take k).getD i false):=by
   apply List.filter_congr
   intro i hi
   have:=List.mem_range.1 hi
   simp[List.getD_eq_getElem?_getD,List.getElem?_take,this,show i<k+1 by omega]
  rw[h3]
  have h4:(r.take (k+1)).getD k false=r.getD k false:=by simp[List.getD_eq_getElem?_getD,List.getElem?_take]
  simp only[List.filter_cons,List.filter_nil,h4]
  cases r.getD k false<;>simp
 have hlen: ∀k,(mk (r.take k)).length<=k:=λk=>Nat.le_trans Ir (by simp;omega)
 have:=Ca r.length (λn o i=>C2 n (o,r,(r.length:Int),i)) (λk=>mk (r.take k)) (r:=some (mk r)) (λn k hk=>?_) (λn=>?_) (n:=Aa) (by unfold Aa;omega)
 ·have e0:mk (r.take 0)= []:=by simp[mk]
  rw[e0]at this;rw[this];rfl
 ·have hl1:(mk (r.take k)).length+1<=lim:=by have:=hlen k;unfold lim;omega
  simp only[C2,Ae,Af hk,Ac (show k<4611686018427387904 by omega),e k hk,Ag hk]
  cases r[k]<;>simp[hk,hl1]
 ·simp[C2]
theorem IN (hN:NetOk a) {d:Dom} (h:DomOk a d):Ec d=some (d.map mk):=by
 have hl:=h.len
 have hv:=hN.hv
 have hn:=hN.hn
 unfold Ec
 have:=Ca d.length (λn o i=>B1 n (o,d,(d.length:Int),i)) (λk=>(d.take k).map mk) (r:=some (d.map mk)) (λn k hk=>?_) (λn=>?_) (n:=Aa) (by unfold Aa;omega)
 ·simp only[List.take_zero,List.map_nil]at this;rw[this];rfl
 ·have hr:=h.row _ (List.getElem_mem hk)
  have hl1:((d.take k).map mk).length+1<=lim:=by unfold lim;simp;omega
  simp only[B1,Ae,Af hk,Ac (show k<4611686018427387904 by omega),Gv (show d[k].length<=1048576 by omega),Option.bind_some]
  rw[if_pos (by simp;omega),if_pos hk,if_pos (by simpa using hl1),List.take_succ_eq_append_getElem hk,List.map_append];rfl
 ·simp[B1]
def EI (d:Dom):Bool:=d.any λr=>decide ((mk r).length=0)
theorem Hz (hN:NetOk a) {d:Dom} (h:DomOk a d):Du d=some (EI d):=by
 have hl:=h.len
 have hv:=hN.hv
 have hn:=hN.hn
 unfold Du
 rw[FR d (λn i=>BH n (d,(d.length:Int),i)) (λr=>!decide ((mk r).length=0)) (.inr true) (.inl ()) ?_ ?_ (n:=Aa) (by unfold Aa;omega)]
 ·have:(d.all λr=>!decide ((mk r).length=0))=!EI d:=by unfold EI;rw[←List.not_any_eq_all_not]
  rw[this]
  cases EI d<;>simp
 ·intro n k hk
  have hr:=h.row _ (List.getElem_mem hk)
  simp only[BH,Ae,Af hk,Ac (show k<4611686018427387904 by omega),Gv (show d[k].length<=1048576 by omega),Option.bind_some]
  by_cases e:(mk d[k]).length=0
  ·simp[hk,List.length_eq_zero_iff.1 e]
  ·have:mk d[k]≠ []:=λh=>e (by rw[h];rfl)
   simp[hk,this]
 ·intro n;simp[BH]
theorem HM (hN:NetOk a) {d:Dom} (h:DomOk a d):FJ (d.map mk)=some (EI d):=by
 have hl:=h.len
 have hv:=hN.hv
 have hn:=hN.hn
 unfold FJ
 rw[FR (d.map mk) (λn i=>C9 n (d.map mk,i)) (λr=>!decide (r.length=0)) (.inr true) (.inl ()) ?_ ?_ (n:=Aa) (by unfold Aa;simp;omega)]
 ·have:((d.map mk).all λr=>!decide (r.length=0))=!EI d:=by unfold EI;rw[List.all_map,List.not_any_eq_all_not];rfl
  rw[this]
  cases EI d<;>simp
 ·intro n k hk
  have hk':k<d.length:=by simpa using hk
  simp only[C9,Ae,Af hk,Ac (show k<4611686018427387904 by omega)]
  by_cases e:(mk d[k]).length=0
  ·simp[hk',List.length_eq_zero_iff.1 e]
  ·have:mk d[k]≠ []:=λh=>e (by rw[h];rfl)
   simp[hk',this]
 ·intro n;simp[C9]
def Hf (a:Net):Bool×Bool:=if CE a then(EI (Fh a (E7 a)).1,true)else(false,false)
theorem G5 (h:HF a):D0 a=some (Hf a):=by
 unfold D0 Hf D1
 rw[Cb (a:=(a.1,(a.2.1,a.2.2))) h,show CE (a.1,(a.2.1,a.2.2))=CE a from rfl]
 cases hb:CE a with
 |false=>simp
 |true=>
  have hN:=EX hb
  have hf:=GP hN
  simp only[ET hN,Gw hN hf,Hz hN (GM hN hf).1,Option.bind_some,Bool.not_true,Bool.false_eq_true,if_false,if_true]
theorem G9 (h:HF a):D4 a=some (Hf a):=by
 unfold D4 Hf
 rw[Dl (a:=(a.1,(a.2.1,a.2.2))) h,show CE (a.1,(a.2.1,a.2.2))=CE a from rfl]
 cases hb:CE a with
 |false=>simp
 |true=>
  have hN:=EX hb
  have hf:=GP hN
  simp only[Gf hN,GG hN hf,HM hN (GM hN hf).1,Option.bind_some,Bool.not_true,Bool.false_eq_true,if_false,if_true]
end
end T
open Go Go.Va
namespace T
theorem w1:w64 1=1:=by rw[Ga];rfl
theorem w2:w64 2=2:=by rw[Ga];rfl
theorem w3:w64 3=3:=by rw[Ga];rfl
section
variable {a:Net}
theorem Hn (hN:NetOk a) {d:Dom} (h:DomOk a d):(d.map mk).length<=9/\ ∀r∈d.map mk,r.length<=4:=by
 have h1:=h.len
 have h2:=hN.hv
 have h3:=hN.hn
 refine⟨by simp;omega,λr hr=>?_⟩
 obtain⟨x,hx,rfl⟩:=List.mem_map.1 hr
 have:=h.row x hx
 exact Nat.le_trans Ir (by omega)
end
end T
set_option linter.unusedVariables false
open Go Go.Va
namespace T
def EC:Nat->(Int×(Int×(List Int))×Int)->Option ((Unit)⊕(Bool))
 |0,_=>none
 |n+1,(n_,op,i)=>
 if decide (i<(op.2.length:Int))then
 if inb i op.2 then
 (Ch (gd op.2 i 0) 0 (w64 (n_-1))).bind λr3=>
 if !r3 then
 some (.inr false)
 else
 EC n (n_,(op.1,op.2),w64 (i+1))
 else none
 else
 some (.inl ())
def GU (n_:Int) (op:Int×(List Int)):Option (Bool):=
 (Ch op.1 0 3).bind λr1=>
  if !r1 then
   some false
  else
   (Cz n_ op.1).bind λr2=>
    if(op.2.length:Int) !=r2 then
     some false
    else
     (EC Aa (n_,(op.1,op.2),0)).bind λs3=>
      match s3 with
      | .inl s4=>
       some true
      | .inr s5=>
       some s5
def A7:Nat->((Int×Int×(List ((List Int)×Int×(List (List Int)))))×(Int×(List Int))×(List (List Int))×(List Int)×Int×Int×Int)->Option ((Int×Int×(List ((List Int)×Int×(List (List Int)))))×(Int×(List Int))×(List (List Int))×(List Int)×Int×Int)
 |0,_=>none
 |n+1,(t2,t3,t6,t8,t9,t10,t11)=>
 if inb t9 t6 then
 if decide (t11<((gd t6 t9 []).length:Int))then
 if inb t9 t6 then
 if inb t11 (gd t6 t9 [])then
 if inb (w64 ((w64 (t10*t2.2.1))+(gd (gd t6 t9 []) t11 0))) t3.2 then
 A7 n ((t2.1,(t2.2.1,t2.2.2)),(t3.1,t3.2),t6,t8,t9,gd t3.2 (w64 ((w64 (t10*t2.2.1))+(gd (gd t6 t9 []) t11 0))) 0,w64 (t11+1))
 else none
 else none
 else none
 else
 some ((t2.1,(t2.2.1,t2.2.2)),(t3.1,t3.2),t6,t8,t9,t10)
 else none
def AP:Nat->((Int×Int×(List ((List Int)×Int×(List (List Int)))))×(Int×(List Int))×(List (List Int))×(List Int)×Int)->Option (((List Int))⊕((List Int)×Bool))
 |0,_=>none
 |n+1,(t2,t3,t6,t8,t9)=>
 if decide (t9<t2.1)then
 if inb t9 t6 then
 if((gd t6 t9 []).length:Int)==0 then
 some (.inr ([],false))
 else
 if inb t9 t6 then
 if inb 0 (gd t6 t9 [])then
 (A7 Aa ((t2.1,(t2.2.1,t2.2.2)),(t3.1,t3.2),t6,t8,t9,gd (gd t6 t9 []) 0 0,1)).bind λs5=>
 if s5.2.2.2.1.length+ [s5.2.2.2.2.2].length<=lim then
 AP n ((s5.1.1,(s5.1.2.1,s5.1.2.2)),(s5.2.1.1,s5.2.1.2),s5.2.2.1,s5.2.2.2.1++ [s5.2.2.2.2.2],w64 (s5.2.2.2.2.1+1))
 else none
 else none
 else none
 else none
 else
 some (.inl t8)
def CV (t0:Int×Int×(List ((List Int)×Int×(List (List Int))))) (t1:Int×(List Int)):Option ((List Int)×Bool):=
 (CP (t0.1,(t0.2.1,t0.2.2))).bind λr1=>
  if !r1 then
   some ([],false)
  else
   if t1.1 !=2 then
    some ([],false)
   else
    (GU t0.2.1 (t1.1,t1.2)).bind λr2=>
     if !r2 then
      some ([],false)
     else
      (Fb (t0.1,(t0.2.1,t0.2.2))).bind λr3=>
       (FD (t0.1,(t0.2.1,t0.2.2)) r3).bind λr4=>
        (AP Aa ((t0.1,(t0.2.1,t0.2.2)),(t1.1,t1.2),r4.1,[],0)).bind λs5=>
         match s5 with
         | .inl s6=>
          some (s6,true)
         | .inr s7=>
          some (s7.1,s7.2)
def GR (f:Int×(List Int)) (n_:Int):Option (Bool):=
 if decide (f.1≥0)then
 if decide (f.1<=3)then
 (Dd n_ f.1).bind λr1=>
 if(f.2.length:Int)==r1 then
 (Ej f.2 n_).bind λr2=>
 some r2
 else
 some false
 else
 some false
 else
 some false
def AX:Nat->((Int×Int×(List ((List Int)×Int×(List (List Int)))))×(Int×(List Int))×(List Int)×Int×(List (List Int))×Int×Int×(List Int)×Int×Int)->Option ((Int×Int×(List ((List Int)×Int×(List (List Int)))))×(Int×(List Int))×(List Int)×Int×(List (List Int))×Int×Int)
 |0,_=>none
 |n+1,(t2,t3,t6,t9,t31,t32,t33,t45,t46,t47)=>
 if decide (t47<t46)then
 if inb t47 t45 then
 if inb (w64 ((w64 (t9*t2.2.1))+(gd t45 t47 0))) t3.2 then
 AX n ((t2.1,(t2.2.1,t2.2.2)),(t3.1,t3.2),t6,gd t3.2 (w64 ((w64 (t9*t2.2.1))+(gd t45 t47 0))) 0,t31,t32,t33,t45,t46,w64 (t47+1))
 else none
 else none
 else
 some ((t2.1,(t2.2.1,t2.2.2)),(t3.1,t3.2),t6,t9,t31,t32,t33)
def AN:Nat->((Int×Int×(List ((List Int)×Int×(List (List Int)))))×(Int×(List Int))×(List Int)×(List (List Int))×Int×Int)->Option (((List Int))⊕((List Int)×Bool))
 |0,_=>none
 |n+1,(t2,t3,t6,t31,t32,t33)=>
 if decide (t33<t32)then
 if inb t33 t31 then
 if((gd t31 t33 []).length:Int)==0 then
 some (.inr ([],false))
 else
 if inb 0 (gd t31 t33 [])then
 if(0:Int)<=1/\1<=((gd t31 t33 []).length:Int)/\((gd t31 t33 []).length:Int)<=((gd t31 t33 []).length:Int)then
 (AX Aa ((t2.1,(t2.2.1,t2.2.2)),(t3.1,t3.2),t6,gd (gd t31 t33 []) 0 0,t31,t32,t33,((gd t31 t33 []).take (Int.toNat ((gd t31 t33 []).length:Int))).drop (Int.toNat 1),((((gd t31 t33 []).take (Int.toNat ((gd t31 t33 []).length:Int))).drop (Int.toNat 1)).length:Int),0)).bind λs5=>
 if s5.2.2.1.length+ [s5.2.2.2.1].length<=lim then
 AN n ((s5.1.1,(s5.1.2.1,s5.1.2.2)),(s5.2.1.1,s5.2.1.2),s5.2.2.1++ [s5.2.2.2.1],s5.2.2.2.2.1,s5.2.2.2.2.2.1,w64 (s5.2.2.2.2.2.2+1))
 else none
 else none
 else none
 else none
 else
 some (.inl t6)
def BV (t0:Int×Int×(List ((List Int)×Int×(List (List Int))))) (t1:Int×(List Int)):Option ((List Int)×Bool):=
 (BT (t0.1,(t0.2.1,t0.2.2))).bind λr1=>
  if !r1 then
   some ([],false)
  else
   if t1.1 !=2 then
    some ([],false)
   else
    (GR (t1.1,t1.2) t0.2.1).bind λr2=>
     if !r2 then
      some ([],false)
     else
      (D1 (t0.1,(t0.2.1,t0.2.2))).bind λr3=>
       (Ec r3).bind λr4=>
        (AN Aa ((t0.1,(t0.2.1,t0.2.2)),(t1.1,t1.2),[],r4,(r4.length:Int),0)).bind λs5=>
         match s5 with
         | .inl s6=>
          some (s6,true)
         | .inr s7=>
          some (s7.1,s7.2)
end T
open Go Go.Va
namespace T
abbrev Opn:=Int×List Int
def opB (n:Int) (f:Opn):Bool:=decide (0<=f.1/\f.1<=3)&&decide ((f.2.length:Int)=n^f.1.toNat)&&BK n f.2
theorem Hl {n:Int} (hn:0<=n/\n<=8) {f:Opn} (h:f.2.length<=1048576):GR f n=some (opB n f):=by
 obtain⟨ar,l⟩:=f
 unfold GR opB
 by_cases h0:0<=ar
 ·by_cases h1:ar<=3
  ·obtain⟨m,rfl⟩: ∃m:Nat,ar=m:=⟨ar.toNat,by omega⟩
   have hm:Dd n (m:Int)=some (n^m):=IP hn.1 hn.2 (by omega)
   simp only[ge_iff_le,h0,h1,decide_true,if_true,hm,Option.bind_some,Er n (show l.length<=1099511627775 by simp at h;omega),Int.toNat_natCast,and_self,Bool.true_and,HY]
   by_cases hl:(l.length:Int)=n^m<;>simp[hl]
  ·simp[h0,h1]
 ·simp[h0]
theorem Hr {n:Int} (hn:0<=n/\n<=8) {f:Opn} (h:f.2.length<=1048576):GU n f=some (opB n f):=by
 obtain⟨ar,l⟩:=f
 unfold GU opB
 rw[Bt]
 by_cases h0:0<=ar/\ar<=3
 ·obtain⟨m,rfl⟩: ∃m:Nat,ar=m:=⟨ar.toNat,by omega⟩
  have hm:Cz n (m:Int)=some (n^m):=FK hn.1 hn.2 (by omega)
  have hw:w64 (n-1)=n-1:=AE (by omega) (by omega)
  have key:=FR l (λk i=>EC k (n,((m:Int),l),i)) (λx=>decide (0<=x/\x<n)) (.inr false) (.inl ()) ?_ ?_ (n:=Aa) (by unfold Aa;simp at h;omega)
  ·simp only[h0,and_self,decide_true,Option.bind_some,Bool.not_true,Bool.false_eq_true,if_false,hm,key,Int.toNat_natCast,Bool.true_and,H3]
   by_cases hl:(l.length:Int)=n^m
   ·have:BK n l=l.all λx=>decide (0<=x/\x<n):=rfl
    rw[this]
    cases l.all (λx=>decide (0<=x/\x<n))<;>simp[hl]
   ·simp[hl]
  ·intro k i hi
   simp only at h
   simp only[EC,Ae,Af hi,Bt,hw,Option.bind_some,Ac (show i<4611686018427387904 by omega)]
   by_cases hx:0<=l[i]/\l[i]<n
   ·simp[hi,hx,show l[i]<=n-1 by omega]
   ·have: ¬(0<=l[i]/\l[i]<=n-1):=by omega
    simp[hi,hx,this]
  ·intro k;simp[EC]
 ·simp[h0]
def opA (f:Opn) (n:Int) (x y:Int):Int:=f.2.getD (x*n+y).toNat 0
def ER (f:Opn) (n:Int) (l:List Int):Int:=(l.drop 1).foldl (opA f n) (l.getD 0 0)
def inR (n x:Int):Prop:=0<=x/\x<n
structure BinOk (n:Int) (f:Opn):Prop where
 hn:1<=n/\n<=4
 len:(f.2.length:Int)=n*n
 el: ∀(i:Nat) (hi:i<f.2.length),inR n f.2[i]
theorem Ls {n:Int} {f:Opn} (hn:1<=n/\n<=4) (h2:f.1=2) (h:opB n f=true):BinOk n f:=by
 unfold opB at h
 simp only[Bool.and_eq_true,decide_eq_true_eq]at h
 refine⟨hn,?_,λi hi=>FT h.2 i hi⟩
 have:=h.1.2
 rw[h2]at this
 rw[this]
 show n^2=n*n
 rw[Int.pow_succ,Int.pow_succ,Int.pow_zero,Int.one_mul]
section
variable {n:Int} {f:Opn}
theorem Ka (h:BinOk n f) {x y:Int} (hx:inR n x) (hy:inR n y): ∃k:Nat,x*n+y=(k:Int)/\ ∃hk:k<f.2.length,opA f n x y=f.2[k]/\x*n+y<=100/\0<=x*n/\x*n<=100:=by
 obtain⟨hn1,hn4⟩:=h.hn
 obtain⟨hx0,hx1⟩:=hx
 obtain⟨hy0,hy1⟩:=hy
 have h1:0<=x*n:=Int.mul_nonneg hx0 (by omega)
 have h2:(x+1)*n<=n*n:=Int.mul_le_mul_of_nonneg_right (by omega) (by omega)
 have h4:n*n<=4*4:=Int.mul_le_mul hn4 hn4 (by omega) (by omega)
 rw[Int.add_mul,Int.one_mul]at h2
 have hl:=h.len
 refine⟨(x*n+y).toNat,by omega,by omega,?_,by omega,h1,by omega⟩
 unfold opA;rw[Ag (by omega)]
theorem Ib (h:BinOk n f): ∀(l:List Int) (x:Int),(∀y∈l,inR n y)->inR n x->inR n (l.foldl (opA f n) x)
 | [],_,_,hx=>hx
 |y::l,x,hl,hx=>by
  obtain⟨k,_,hk,e,_⟩:=Ka h hx (hl y (by simp))
  exact Ib h l _ (λz hz=>hl z (List.mem_cons_of_mem _ hz)) (by rw[e];exact h.el k hk)
variable {a:Net}
theorem IM (h:BinOk a.2.1 f) {ys:List Int} {x:Int} (hl:ys.length<=1000) (hy: ∀y∈ys,inR a.2.1 y) (hx:inR a.2.1 x) (t6:List Int) (t31:List (List Int)) (t32 t33:Int):
  AX Aa ((a.1,(a.2.1,a.2.2)),(f.1,f.2),t6,x,t31,t32,t33,ys,(ys.length:Int),0)=some ((a.1,(a.2.1,a.2.2)),(f.1,f.2),t6,ys.foldl (opA f a.2.1) x,t31,t32,t33):=by
 refine Ca ys.length (λn s i=>AX n ((a.1,(a.2.1,a.2.2)),(f.1,f.2),t6,s,t31,t32,t33,ys,(ys.length:Int),i)) (λk=>(ys.take k).foldl (opA f a.2.1) x) (λn k hk=>?_) (λn=>?_) (n:=Aa) (by unfold Aa;omega)
 ·have hin:=Ib h (ys.take k) x (λy hy'=>hy y (List.mem_of_mem_take hy')) hx
  rw[List.take_succ_eq_append_getElem hk,List.foldl_append,List.foldl_cons,List.foldl_nil]
  generalize (ys.take k).foldl (opA f a.2.1) x=s at hin⊢
  obtain⟨m,hm,hml,e,b1,b2,b3⟩:=Ka h hin (hy _ (List.getElem_mem hk))
  simp only[AX,Ae,Af hk,AE (x:=s*a.2.1) (by omega) (by omega),AE (x:=s*a.2.1+ys[k]) (by omega) (by omega),hm,AE (x:=(m:Int)) (by omega) (by omega),Af hml,e,Ac (show k<4611686018427387904 by omega)]
  simp[hk,hml]
 ·rw[List.take_length];simp[AX]
theorem IR (h:BinOk a.2.1 f) {d:List (List Int)} {v:Nat} (hv:v<d.length) (hl:d[v].length<=1000) (hy: ∀y∈d[v],inR a.2.1 y) (h0:0<d[v].length) (t8:List Int):
  A7 Aa ((a.1,(a.2.1,a.2.2)),(f.1,f.2),d,t8,(v:Int),d[v][0],1)=some ((a.1,(a.2.1,a.2.2)),(f.1,f.2),d,t8,(v:Int),ER f a.2.1 d[v]):=by
 have hx:=hy _ (List.getElem_mem h0)
 have hd1:(d[v].drop 1).length=d[v].length-1:=by simp
 have:=Ca (d[v].drop 1).length (λn s i=>A7 n ((a.1,(a.2.1,a.2.2)),(f.1,f.2),d,t8,(v:Int),s,i+1)) (λk=>((d[v].drop 1).take k).foldl (opA f a.2.1) d[v][0]) (r:=some ((a.1,(a.2.1,a.2.2)),(f.1,f.2),d,t8,(v:Int),ER f a.2.1 d[v])) (λn k hk=>?_) (λn=>?_) (n:=Aa) (by unfold Aa;omega)
 ·simpa using this
 ·have hin:=Ib h ((d[v].drop 1).take k) d[v][0] (λy hy'=>hy y (List.mem_of_mem_drop (List.mem_of_mem_take hy'))) hx
  rw[List.take_succ_eq_append_getElem hk,List.foldl_append,List.foldl_cons,List.foldl_nil]
  generalize ((d[v].drop 1).take k).foldl (opA f a.2.1) d[v][0]=s at hin⊢
  have hk1:k+1<d[v].length:=by omega
  have eg:(d[v].drop 1)[k]=d[v][k+1]:=by rw[List.getElem_drop];congr 1;omega
  rw[eg]
  obtain⟨m,hm,hml,e,b1,b2,b3⟩:=Ka h hin (hy _ (List.getElem_mem hk1))
  have ec:((k:Int)+1)=((k+1:Nat):Int):=by push_cast;rfl
  simp only[ec,A7,Ae,Af hv,Af hk1,AE (x:=s*a.2.1) (by omega) (by omega),AE (x:=s*a.2.1+d[v][k+1]) (by omega) (by omega),hm,AE (x:=(m:Int)) (by omega) (by omega),Af hml,e,Ac (show k+1<4611686018427387904 by omega)]
  rw[if_pos hv,if_pos (by simp;omega),if_pos hv,if_pos hk1,if_pos hml]
  push_cast;rfl
 ·rw[List.take_length]
  have ec:(((d[v].drop 1).length:Nat):Int)+1=(d[v].length:Int):=by rw[hd1];omega
  simp only[ec,A7,Ae,Af hv]
  rw[if_pos hv,if_neg (by simp)]
  unfold ER;rw[Ag h0]
def Ho (l:List (List Int)):Bool:=(List.range l.length).all λk=>decide (0<(l.getD k []).length)
theorem Jr (h:BinOk a.2.1 f) {l:List (List Int)} (hl:l.length<=1000) (hr: ∀r∈l,r.length<=1000/\ ∀y∈r,inR a.2.1 y):
  AN Aa ((a.1,(a.2.1,a.2.2)),(f.1,f.2),[],l,(l.length:Int),0)=if Ho l then some (.inl (l.map (ER f a.2.1)))else some (.inr ([],false)):=by
 have:=FN l.length (λn s i=>AN n ((a.1,(a.2.1,a.2.2)),(f.1,f.2),s,l,(l.length:Int),i)) (λk=>(l.take k).map (ER f a.2.1)) (λk=>decide (0<(l.getD k []).length)) (r:=some (.inr ([],false))) (e:=some (.inl (l.map (ER f a.2.1)))) (λn k hk=>?_) (λn=>?_) (n:=Aa) (by unfold Aa;omega)
 ·simpa[Ho]using this
 ·obtain⟨hr1,hr2⟩:=hr _ (List.getElem_mem hk)
  rw[Ag hk]
  by_cases h0:0<l[k].length
  ·have hne:((l[k].length:Int)==0)=false:=by rw[HY];exact decide_eq_false (by omega)
   have et:(l[k].take (Int.toNat (l[k].length:Int))).drop (Int.toNat 1)=l[k].drop 1:=by simp
   have hl1:((l.take k).map (ER f a.2.1)).length+1<=lim:=by unfold lim;simp;omega
   have key:=λt6=>IM (a:=a) h (ys:=l[k].drop 1) (x:=l[k][0]) (by simp;omega) (λy hy=>hr2 y (List.mem_of_mem_drop hy)) (hr2 _ (List.getElem_mem h0)) t6 l (l.length:Int) (k:Int)
   have e0:gd l[k] 0 0=l[k][0]:=Af (k:=0) h0
   have i0:inb 0 l[k]:=(Ae (k:=0)).2 h0
   simp only[AN,Ae,Af hk,et,e0,hne,Bool.false_eq_true,if_false,key,Option.bind_some,Ac (show k<4611686018427387904 by omega)]
   rw[if_pos (by simp;omega),if_pos hk,if_pos i0,if_pos (by omega),if_pos (by simpa using hl1),if_pos (by simpa using h0),List.take_succ_eq_append_getElem hk,List.map_append]
   simp only[List.map_cons,List.map_nil,ER,Ag h0]
  ·have h1:l[k]= []:=List.length_eq_zero_iff.1 (by omega)
   simp only[AN,Ae,Af hk]
   simp[hk,h1]
 ·simp[AN]
theorem Jz (h:BinOk a.2.1 f) {l:List (List Int)} (hla:(l.length:Int)=a.1) (hl:l.length<=1000) (hr: ∀r∈l,r.length<=1000/\ ∀y∈r,inR a.2.1 y):
  AP Aa ((a.1,(a.2.1,a.2.2)),(f.1,f.2),l,[],0)=if Ho l then some (.inl (l.map (ER f a.2.1)))else some (.inr ([],false)):=by
 have:=FN l.length (λn s i=>AP n ((a.1,(a.2.1,a.2.2)),(f.1,f.2),l,s,i)) (λk=>(l.take k).map (ER f a.2.1)) (λk=>decide (0<(l.getD k []).length)) (r:=some (.inr ([],false))) (e:=some (.inl (l.map (ER f a.2.1)))) (λn k hk=>?_) (λn=>?_) (n:=Aa) (by unfold Aa;omega)
 ·simpa[Ho]using this
 ·obtain⟨hr1,hr2⟩:=hr _ (List.getElem_mem hk)
  rw[Ag hk]
  by_cases h0:0<l[k].length
  ·have hne:((l[k].length:Int)==0)=false:=by rw[HY];exact decide_eq_false (by omega)
   have hl1:((l.take k).map (ER f a.2.1)).length+1<=lim:=by unfold lim;simp;omega
   have key:=λt8=>IR (a:=a) h hk hr1 hr2 h0 t8
   have e0:gd l[k] 0 0=l[k][0]:=Af (k:=0) h0
   have i0:inb 0 l[k]:=(Ae (k:=0)).2 h0
   simp only[AP,Ae,Af hk,e0,hne,Bool.false_eq_true,if_false,key,Option.bind_some,Ac (show k<4611686018427387904 by omega)]
   rw[if_pos (by simp;omega),if_pos hk,if_pos hk,if_pos i0,if_pos (by simpa using hl1),if_pos (by simpa using h0),List.take_succ_eq_append_getElem hk,List.map_append]
   rfl
  ·have h1:l[k]= []:=List.length_eq_zero_iff.1 (by omega)
   simp only[AP,Ae,Af hk]
   rw[if_pos (by simp;omega),if_pos hk]
   simp[h1]
 ·rw[←hla];simp[AP]
def Gk (a:Net) (f:Opn):List Int×Bool:=
 if CE a&&(decide (f.1=2)&&opB a.2.1 f)then(if Ho ((Fh a (E7 a)).1.map mk)then(((Fh a (E7 a)).1.map mk).map (ER f a.2.1),true)else([],false))else([],false)
theorem Ip (hN:NetOk a) {d:Dom} (h:DomOk a d): ∀r∈d.map mk,r.length<=1000/\ ∀y∈r,inR a.2.1 y:=λr hr=>by
 have hb:=(Hn hN h).2 r hr
 obtain⟨x,hx,rfl⟩:=List.mem_map.1 hr
 have hrow:=h.row x hx
 refine⟨by omega,λy hy=>?_⟩
 rw[Jv]at hy
 refine⟨hy.1,?_⟩
 rcases Nat.lt_or_ge y.toNat x.length with h3|h3
 ·omega
 ·have:=hy.2;rw[List.getD_eq_getElem?_getD,List.getElem?_eq_none h3]at this;cases this
theorem JN:(Gk a f).1.length<=9:=by
 unfold Gk
 split
 ·rename_i hb;rw[Bool.and_eq_true]at hb;have hN:=EX hb.1
  split
  ·rw[List.length_map];exact(Hn hN (GM hN (GP hN)).1).1
  ·simp
 ·simp
theorem En (h:HF a) (hf:f.2.length<=1048576):BV a f=some (Gk a f):=by
 unfold BV Gk D1
 rw[Cb (a:=(a.1,(a.2.1,a.2.2))) h,show CE (a.1,(a.2.1,a.2.2))=CE a from rfl]
 cases hb:CE a with
 |false=>simp
 |true=>
  have hN:=EX hb
  have hF:=GP hN
  have hn:=hN.hn
  have hA:=(GM hN hF).1
  by_cases h2:f.1=2
  ·rw[Hl (f:=(f.1,f.2)) (by omega) hf,show opB a.2.1 (f.1,f.2)=opB a.2.1 f from rfl]
   cases ho:opB a.2.1 f with
   |false=>simp[h2]
   |true=>
    have key:=Jr (a:=a) (Ls hn h2 ho) (l:=(Fh a (E7 a)).1.map mk) (by have:=(Hn hN hA).1;omega) (Ip hN hA)
    simp only[h2,bne_self_eq_false,Bool.false_eq_true,if_false,Option.bind_some,Bool.not_true,decide_true,Bool.and_self,if_true,ET hN,Gw hN hF,IN hN hA]
    rw[h2]at key
    rw[key]
    cases Ho ((Fh a (E7 a)).1.map mk)<;>simp
  ·simp[h2,H3]
theorem FY (h:HF a) (hf:f.2.length<=1048576):CV a f=some (Gk a f):=by
 unfold CV Gk
 rw[Dl (a:=(a.1,(a.2.1,a.2.2))) h,show CE (a.1,(a.2.1,a.2.2))=CE a from rfl]
 cases hb:CE a with
 |false=>simp
 |true=>
  have hN:=EX hb
  have hF:=GP hN
  have hn:=hN.hn
  have hA:=(GM hN hF).1
  by_cases h2:f.1=2
  ·rw[Hr (f:=(f.1,f.2)) (by omega) hf,show opB a.2.1 (f.1,f.2)=opB a.2.1 f from rfl]
   cases ho:opB a.2.1 f with
   |false=>simp[h2]
   |true=>
    have key:=Jz (a:=a) (Ls hn h2 ho) (l:=(Fh a (E7 a)).1.map mk) (by rw[List.length_map];exact hA.len) (by have:=(Hn hN hA).1;omega) (Ip hN hA)
    simp only[h2,bne_self_eq_false,Bool.false_eq_true,if_false,Option.bind_some,Bool.not_true,decide_true,Bool.and_self,if_true,Gf hN,GG hN hF]
    rw[h2]at key
    rw[key]
    cases Ho ((Fh a (E7 a)).1.map mk)<;>simp
  ·simp[h2,H3]
end
end T
set_option linter.unusedVariables false
open Go Go.Va
namespace T
def Ek (r:Int×(List (List Int))) (t:List Int):Option (Bool):=
 if(t.length:Int) !=r.1 then
 some false
 else
 (EV r.2 t).bind λr1=>
 some r1.2
def B8:Nat->((List Int)×((List Int)×Int×(List (List Int)))×(List Int)×Int)->Option (((List Int)×Int×(List (List Int)))×(List Int))
 |0,_=>none
 |n+1,(values,c,t,i)=>
 if decide (i<(c.1.length:Int))then
 if inb i c.1 then
 if inb (gd c.1 i 0) values then
 if t.length+ [gd values (gd c.1 i 0) 0].length<=lim then
 B8 n (values,(c.1,(c.2.1,c.2.2)),t++ [gd values (gd c.1 i 0) 0],w64 (i+1))
 else none
 else none
 else none
 else
 some ((c.1,(c.2.1,c.2.2)),t)
def Ez (c:(List Int)×Int×(List (List Int))) (values:List Int):Option (Bool):=
 (B8 Aa (values,(c.1,(c.2.1,c.2.2)),[],0)).bind λs1=>
 (Ek (s1.1.2.1,s1.1.2.2) s1.2).bind λr2=>
 some r2
def Di:Nat->((List Int)×(List Int)×(List Int)×Int×Int)->Option ((List Int))
 |0,_=>none
 |n+1,(g,h,t11,t12,t13)=>
 if decide (t13<t12)then
 if inb t13 t11 then
 if inb (gd t11 t13 0) g then
 if inb t13 h then
 Di n (g,stt h t13 (gd g (gd t11 t13 0) 0),t11,t12,w64 (t13+1))
 else none
 else none
 else none
 else
 some h
def Dc (f:List Int) (g:List Int):Option ((List Int)):=
 if 0<=(f.length:Int)/\(f.length:Int)<=(f.length:Int)/\(f.length:Int)<=lim then
 (Di Aa (g,List.replicate (Int.toNat (f.length:Int)) (0:Int),f,(f.length:Int),0)).bind λs1=>
 some s1
 else none
def C3:Nat->((List Int)×(List Int)×Int×Int)->Option ((Unit)⊕(Bool))
 |0,_=>none
 |n+1,(b,t12,t13,t14)=>
 if decide (t14<t13)then
 if inb t14 t12 then
 if inb t14 b then
 if(gd b t14 0) !=(gd t12 t14 0)then
 some (.inr false)
 else
 C3 n (b,t12,t13,w64 (t14+1))
 else none
 else none
 else
 some (.inl ())
def FF (a:List Int) (b:List Int):Option (Bool):=
 if(a.length:Int) !=(b.length:Int)then
  some false
 else
  (C3 Aa (b,a,(a.length:Int),0)).bind λs1=>
   match s1 with
   | .inl s2=>
    some true
   | .inr s3=>
    some s3
def DC:Nat->((List Int)×(List (List Int))×Int×Int)->Option ((Unit)⊕(Bool))
 |0,_=>none
 |n+1,(t,t8,t9,t10)=>
 if decide (t10<t9)then
 if inb t10 t8 then
 (FF t (gd t8 t10 [])).bind λr1=>
 if r1 then
 some (.inr true)
 else
 DC n (t,t8,t9,w64 (t10+1))
 else none
 else
 some (.inl ())
def Fw (r:Int×(List (List Int))) (t:List Int):Option (Bool):=
 (DC Aa (t,r.2,(r.2.length:Int),0)).bind λs1=>
  match s1 with
  | .inl s2=>
   some false
  | .inr s3=>
   some s3
end T
open Go Go.Va
namespace T
def B9 (vs:List Int) (v:Int):Int:=vs.getD v.toNat 0
def EH (vs:List Int) (c:Con):Bool:=decide (c.1.map (B9 vs)∈c.2.2)
section
variable {a:Net}
theorem EW {f g:List Int} (hf:f.length<=1048576) (hg: ∀v∈f,0<=v/\v<g.length):Dc f g=some (f.map (B9 g)):=by
 unfold Dc
 rw[if_pos (by unfold lim;omega)]
 have:=Nc f (λn o i=>Di n (g,o,f,(f.length:Int),i)) (B9 g) some (λn o k hk hlo=>?_) (λn o hlo=>?_) (n:=Aa) (out:=List.replicate (Int.toNat (f.length:Int)) (0:Int)) (by simp) (by unfold Aa;omega)
 ·simp only[this,Option.bind_some]
 ·have hko:k<o.length:=by omega
  have hv:=hg _ (List.getElem_mem hk)
  have e:gd g f[k] 0=B9 g f[k]:=rfl
  simp only[Di,Ae,Af hk,CY,Ac (show k<4611686018427387904 by omega),e]
  rw[if_pos (by simp;omega),if_pos hk,if_pos (show inb f[k] g from hv),if_pos hko]
 ·simp[Di]
theorem HA {x y:List Int} (h:x.length<=1048576):FF x y=some (decide (x=y)):=by
 unfold FF
 by_cases hl:x.length=y.length
 ·rw[if_neg (by simp[hl])]
  rw[eqX x y hl (λn i=>C3 n (y,x,(x.length:Int),i)) (λn k h1 h2=>?_) (λn=>?_) (n:=Aa) (by unfold Aa;omega)]
  ·by_cases e:x=y<;>simp[e]
  ·simp only[C3,Ae,Af h1,Af h2,Ac (show k<4611686018427387904 by omega)]
   by_cases e:x[k]=y[k]
   ·simp[h1,h2,e]
   ·have e':y[k]≠x[k]:=λh=>e h.symm
    simp[h1,h2,e,e']
  ·simp[C3]
 ·have:x≠y:=λe=>hl (by rw[e])
  rw[if_pos (by simp;omega)];simp[this]
theorem Il {r:Int×List (List Int)} {t:List Int} (ht:t.length<=1048576) (hr:r.2.length<=1048576):Fw r t=some (decide (t∈r.2)):=by
 unfold Fw
 rw[FR r.2 (λn i=>DC n (t,r.2,(r.2.length:Int),i)) (λy=>!decide (t=y)) (.inr true) (.inl ()) ?_ ?_ (by unfold Aa;omega)]
 ·by_cases hx:t∈r.2
  ·rw[if_neg]
   ·simp[hx]
   ·rw[List.all_eq_true];intro h;have:=h t hx;simp at this
  ·rw[if_pos]
   ·simp[hx]
   ·rw[List.all_eq_true];intro y hy;have:t≠y:=λe=>hx (e▸hy)
    simp[this]
 ·intro n k hk
  simp only[DC,Ae,Af hk,Ac (show k<4611686018427387904 by omega),HA ht,Option.bind_some]
  by_cases e:t=(r.2)[k]<;>simp[hk,e]
 ·intro n;simp[DC]
theorem GE {v n:Int} {c:Con} (h:ConOk v n c) {vs:List Int} (hv:(vs.length:Int)=v):Ez c vs=some (EH vs c):=by
 unfold Ez
 have hsl:=h.sl
 have har:=h.ar
 have hm:=h.many
 have:=Ca c.1.length (λn (o:List Int) i=>B8 n (vs,(c.1,(c.2.1,c.2.2)),o,i)) (λk=>(c.1.take k).map (B9 vs)) (r:=some ((c.1,(c.2.1,c.2.2)),c.1.map (B9 vs))) (λn k hk=>?_) (λn=>?_) (n:=Aa) (by unfold Aa;omega)
 ·simp only[List.take_zero,List.map_nil]at this
  simp only[this,Option.bind_some]
  unfold Ek
  have hl:((c.1.map (B9 vs)).length:Int)=c.2.1:=by rw[List.length_map];exact hsl
  rw[if_neg (by simpa using hsl)]
  obtain⟨q,e,_⟩:=Ft (list:=c.2.2) (t:=c.1.map (B9 vs)) (k:=c.1.length) (by omega) (by omega) h.tl (by simp) h.inc
  simp only[e,Option.bind_some];rfl
 ·have hvk:=h.sv k hk
  have e:gd vs c.1[k] 0=B9 vs c.1[k]:=rfl
  have hi:inb c.1[k] vs:=by unfold inb;omega
  simp only[B8,Ae,Af hk,e,Ac (show k<4611686018427387904 by omega)]
  rw[List.take_succ_eq_append_getElem hk,List.map_append]
  rw[if_pos (by simp;omega),if_pos hk,if_pos hi,if_pos (by unfold lim;simp;omega)];rfl
 ·simp only[B8,List.take_length]
  rw[if_neg (by simp)]
end
end T
open Go Go.Va
namespace T
theorem Jm {α:Type} {k:Nat} {xs:List α} {d:α}:gd xs (k:Int) d=xs.getD k d:=rfl
abbrev T3:=List (List (List Bool))
abbrev T4:=List (List (List (List Bool)))
def MW (s:Nat) (c:List (List Bool)):Prop:=c.length=s/\ ∀x,x<s->(c.getD x []).length=s
def Ny (n s:Nat) (r:T3):Prop:=r.length=n/\ ∀j,j<n->MW s (r.getD j [])
def Ok4 (n s:Nat) (t:T4):Prop:=t.length=n/\ ∀i,i<n->Ny n s (t.getD i [])
def r4 (t:T4) (i j x y:Nat):Bool:=(((t.getD i []).getD j []).getD x []).getD y false
def s4 (t:T4) (i j x y:Nat) (b:Bool):T4:=t.set i ((t.getD i []).set j (((t.getD i []).getD j []).set x ((((t.getD i []).getD j []).getD x []).set y b)))
def Ok3 (n m:Nat) (u:T3):Prop:=u.length=n/\ ∀i,i<n->(u.getD i []).length=n/\ ∀j,j<n->((u.getD i []).getD j []).length=m
def r3 (u:T3) (i j p:Nat):Bool:=((u.getD i []).getD j []).getD p false
def s3 (u:T3) (i j p:Nat) (b:Bool):T3:=u.set i ((u.getD i []).set j (((u.getD i []).getD j []).set p b))
section
variable {n s m:Nat} {t:T4} {u:T3}
theorem Ok4.at (h:Ok4 n s t) {i j x:Nat} (hi:i<n) (hj:j<n) (hx:x<s):i<t.length/\j<(t.getD i []).length/\x<((t.getD i []).getD j []).length/\(((t.getD i []).getD j []).getD x []).length=s:=
 ⟨by rw[h.1];exact hi,by rw[(h.2 i hi).1];exact hj,by rw[((h.2 i hi).2 j hj).1];exact hx,((h.2 i hi).2 j hj).2 x hx⟩
theorem Ok3.at (h:Ok3 n m u) {i j:Nat} (hi:i<n) (hj:j<n):i<u.length/\j<(u.getD i []).length/\((u.getD i []).getD j []).length=m:=
 ⟨by rw[h.1];exact hi,by rw[(h.2 i hi).1];exact hj,(h.2 i hi).2 j hj⟩
theorem KP (h:Ok4 n s t) {i j x y:Nat} {b:Bool}:Ok4 n s (s4 t i j x y b):=by
 unfold s4
 refine⟨by rw[List.length_set];exact h.1,λi' hi'=>?_⟩
 rw[AF]
 split
 ·rename_i hc
  obtain⟨rfl,_⟩:=hc
  have hr:=h.2 i hi'
  refine⟨by rw[List.length_set];exact hr.1,λj' hj'=>?_⟩
  rw[AF]
  split
  ·rename_i hc
   obtain⟨rfl,_⟩:=hc
   have hcl:=hr.2 j hj'
   refine⟨by rw[List.length_set];exact hcl.1,λx' hx'=>?_⟩
   rw[AF]
   split
   ·rename_i hc
    obtain⟨rfl,_⟩:=hc
    rw[List.length_set];exact hcl.2 x hx'
   ·exact hcl.2 x' hx'
  ·exact hr.2 j' hj'
 ·exact h.2 i' hi'
theorem NL (h:Ok3 n m u) {i j p:Nat} {b:Bool}:Ok3 n m (s3 u i j p b):=by
 unfold s3
 refine⟨by rw[List.length_set];exact h.1,λi' hi'=>?_⟩
 rw[AF]
 split
 ·rename_i hc
  obtain⟨rfl,_⟩:=hc
  have hr:=h.2 i hi'
  refine⟨by rw[List.length_set];exact hr.1,λj' hj'=>?_⟩
  rw[AF]
  split
  ·rename_i hc
   obtain⟨rfl,_⟩:=hc
   rw[List.length_set];exact hr.2 j hj'
  ·exact hr.2 j' hj'
 ·exact h.2 i' hi'
theorem KN (h:Ok4 n s t) {i j x y:Nat} {b:Bool} (hi:i<n) (hj:j<n) (hx:x<s) (hy:y<s) (i' j' x' y':Nat):
  r4 (s4 t i j x y b) i' j' x' y'=if i=i'/\j=j'/\x=x'/\y=y' then b else r4 t i' j' x' y':=by
 obtain⟨h1,h2,h3,h4⟩:=h.at hi hj hx
 unfold r4 s4
 rw[AF]
 by_cases e1:i=i'
 ·subst e1
  rw[if_pos ⟨rfl,h1⟩,AF]
  by_cases e2:j=j'
  ·subst e2
   rw[if_pos ⟨rfl,h2⟩,AF]
   by_cases e3:x=x'
   ·subst e3
    rw[if_pos ⟨rfl,h3⟩,AF]
    by_cases e4:y=y'
    ·subst e4;rw[if_pos ⟨rfl,by omega⟩,if_pos ⟨rfl,rfl,rfl,rfl⟩]
    ·rw[if_neg (by omega),if_neg (by omega)]
   ·rw[if_neg (by omega),if_neg (by omega)]
  ·rw[if_neg (by omega),if_neg (by omega)]
 ·rw[if_neg (by omega),if_neg (by omega)]
theorem NK (h:Ok3 n m u) {i j p:Nat} {b:Bool} (hi:i<n) (hj:j<n) (hp:p<m) (i' j' p':Nat):
  r3 (s3 u i j p b) i' j' p'=if i=i'/\j=j'/\p=p' then b else r3 u i' j' p':=by
 obtain⟨h1,h2,h3⟩:=h.at hi hj
 unfold r3 s3
 rw[AF]
 by_cases e1:i=i'
 ·subst e1
  rw[if_pos ⟨rfl,h1⟩,AF]
  by_cases e2:j=j'
  ·subst e2
   rw[if_pos ⟨rfl,h2⟩,AF]
   by_cases e3:p=p'
   ·subst e3;rw[if_pos ⟨rfl,by omega⟩,if_pos ⟨rfl,rfl,rfl⟩]
   ·rw[if_neg (by omega),if_neg (by omega)]
  ·rw[if_neg (by omega),if_neg (by omega)]
 ·rw[if_neg (by omega),if_neg (by omega)]
end
structure Rel34 (n s:Nat) (t:T4) (u:T3):Prop where
 o4:Ok4 n s t
 o3:Ok3 n (s*s) u
 eq: ∀i j x y,i<j->j<n->x<s->y<s->r4 t i j x y=r3 u i j (x*s+y)/\r4 t j i y x=r3 u i j (x*s+y)
theorem Mk {s x y:Nat} (hx:x<s) (hy:y<s):x*s+y<s*s:=by
 have:(x+1)*s<=s*s:=Nat.mul_le_mul_right _ hx
 rw[Nat.succ_mul]at this;omega
theorem Lu {s x y x' y':Nat} (hy:y<s) (hy':y'<s) (h:x*s+y=x'*s+y'):x=x'/\y=y':=by
 have h1:(x*s+y)/s=x:=by rw[Nat.mul_comm,Nat.mul_add_div (by omega),Nat.div_eq_of_lt hy];omega
 have h2:(x'*s+y')/s=x':=by rw[Nat.mul_comm,Nat.mul_add_div (by omega),Nat.div_eq_of_lt hy'];omega
 have:x=x':=by rw[←h1,←h2,h]
 subst this
 exact⟨rfl,by omega⟩
theorem Rel34.drop {n s:Nat} {t:T4} {u:T3} (h:Rel34 n s t u) {i j x y:Nat} (hij:i<j) (hj:j<n) (hx:x<s) (hy:y<s):
  Rel34 n s (s4 (s4 t i j x y false) j i y x false) (s3 u i j (x*s+y) false):=by
 refine⟨KP (KP h.o4),NL h.o3,λi' j' x' y' h1 h2 h3 h4=>?_⟩
 have hi:i<n:=by omega
 rw[KN (KP h.o4) hj hi hy hx,KN h.o4 hi hj hx hy,KN (KP h.o4) hj hi hy hx,KN h.o4 hi hj hx hy,NK h.o3 hi hj (Mk hx hy)]
 obtain⟨e1,e2⟩:=h.eq i' j' x' y' h1 h2 h3 h4
 by_cases e:i=i'/\j=j'/\x=x'/\y=y'
 ·obtain⟨rfl,rfl,rfl,rfl⟩:=e
  simp
 ·have e3: ¬(i=i'/\j=j'/\x*s+y=x'*s+y'):=λ⟨q1,q2,q3⟩=>by
   have:=Lu hy h4 q3
   exact e ⟨q1,q2,this.1,this.2⟩
  have e4: ¬(j=i'/\i=j'/\y=x'/\x=y'):=by omega
  have e5: ¬(i=j'/\j=i'/\x=y'/\y=x'):=by omega
  have e6: ¬(j=j'/\i=i'/\y=y'/\x=x'):=by omega
  simp only[if_neg e,if_neg e3,if_neg e4,if_neg e5,if_neg e6]
  exact⟨e1,e2⟩
end T
open Go Go.Va
namespace T
section
variable {a:Net} {n s:Nat} {t:T4} {u:T3}
def PA (n s i:Nat) (t:T4):Prop:=t.length=n/\ ∀i',i'<i->Ny n s (t.getD i' [])
def PB (n s i j:Nat) (t:T4):Prop:=PA n s i t/\(t.getD i []).length=n/\ ∀j',j'<j->MW s ((t.getD i []).getD j' [])
theorem PA.set {i:Nat} (h:PA n s i t) (r:T3):PA n s i (t.set i r):=by
 refine⟨by rw[List.length_set];exact h.1,λi' hi'=>?_⟩
 rw[AF,if_neg (by omega)];exact h.2 i' hi'
theorem PB.set {i j:Nat} (h:PB n s i j t) (hi:i<n) (c:List (List Bool)):PB n s i j (t.set i ((t.getD i []).set j c)):=by
 have hl:=h.1.1
 refine⟨h.1.set _,?_,λj' hj'=>?_⟩
 ·rw[AF,if_pos ⟨rfl,by omega⟩,List.length_set];exact h.2.1
 ·rw[AF,if_pos ⟨rfl,by omega⟩,AF,if_neg (by omega)];exact h.2.2 j' hj'
end
end T
open Go Go.Va
namespace T
section
variable {a:Net} {n s:Nat} {t:T4} {u:T3}
def cI (o:List Nat):List Int:=o.map λx:Nat=>(x:Int)
end
end T
set_option linter.unusedVariables false
open Go Go.Va
namespace T
def Dp:Nat->((List Int)×(List Int)×Int×Int)->Option ((List Int))
 |0,_=>none
 |n+1,(b,t10,t11,t12)=>
 if decide (t12<t11)then
 if inb t12 t10 then
 if(0:Int)<=8 then
 if b.length+ [IntKind.wrap .u8 (YhC .i64 (gd t10 t12 0) 8),IntKind.wrap .u8 (gd t10 t12 0)].length<=lim then
 Dp n (b++ [IntKind.wrap .u8 (YhC .i64 (gd t10 t12 0) 8),IntKind.wrap .u8 (gd t10 t12 0)],t10,t11,w64 (t12+1))
 else none
 else none
 else none
 else
 some b
def DE (list:List Int):Option (ByteArray):=
 if(0:Int)<=0/\(0:Int)<=(w64 (2*(list.length:Int)))/\(w64 (2*(list.length:Int)))<=lim then
 (Dp Aa (List.replicate (Int.toNat 0) (0:Int),list,(list.length:Int),0)).bind λs1=>
 some (Ydp s1)
 else none
def C4:Nat->((List ByteArray)×(List (List Int))×Int×Int)->Option ((List ByteArray))
 |0,_=>none
 |n+1,(set,t8,t9,t10)=>
 if decide (t10<t9)then
 if inb t10 t8 then
 (DE (gd t8 t10 [])).bind λr1=>
 C4 n (YgL set r1,t8,t9,w64 (t10+1))
 else none
 else
 some set
def DW (r:Int×(List (List Int))):Option ((List ByteArray)):=
 (C4 Aa ([],r.2,(r.2.length:Int),0)).bind λs1=>
 some s1
def Cu:Nat->((List Int)×(Int×Int×(List ((List Int)×Int×(List (List Int)))))×Int)->Option ((Unit)⊕(Int))
 |0,_=>none
 |n+1,(values,net,i)=>
 if decide (i<(net.2.2.length:Int))then
 if inb i net.2.2 then
 (Ez (gd net.2.2 i ([],(0,[]))) values).bind λr1=>
 if !r1 then
 some (.inr i)
 else
 Cu n (values,(net.1,(net.2.1,net.2.2)),w64 (i+1))
 else none
 else
 some (.inl ())
def EO (net:Int×Int×(List ((List Int)×Int×(List (List Int))))) (values:List Int):Option (Int):=
 (Cu Aa (values,(net.1,(net.2.1,net.2.2)),0)).bind λs1=>
  match s1 with
  | .inl s2=>
   some (-1)
  | .inr s3=>
   some s3
def BW:Nat->((List Int)×(List ((List Int)×Int×(List (List Int))))×Int×Int)->Option ((Unit)⊕(Int))
 |0,_=>none
 |n+1,(values,t8,t9,t10)=>
 if decide (t10<t9)then
 if inb t10 t8 then
 (Dc ((gd t8 t10 ([],(0,[]))).1) values).bind λr1=>
 (Fw (((gd t8 t10 ([],(0,[]))).2).1,((gd t8 t10 ([],(0,[]))).2).2) r1).bind λr2=>
 if !r2 then
 some (.inr t10)
 else
 BW n (values,t8,t9,w64 (t10+1))
 else none
 else
 some (.inl ())
def DM (net:Int×Int×(List ((List Int)×Int×(List (List Int))))) (values:List Int):Option (Int):=
 (BW Aa (values,net.2.2,(net.2.2.length:Int),0)).bind λs1=>
  match s1 with
  | .inl s2=>
   some (-1)
  | .inr s3=>
   some s3
end T
open Go Go.Va
namespace T
def kb (l:List Int):List Int:=l.flatMap λx=> [0,x]
def FG (l:List Int):ByteArray:=Ydp (kb l)
theorem J9 {x:Int} (h0:0<=x) (h1:x<256):IntKind.wrap .u8 x=x:=by
 simp[IntKind.wrap,IntKind.bits,IntKind.signed]
 omega
theorem Lj {x:Int} (h0:0<=x) (h1:x<256):YhC .i64 x 8=0:=by
 unfold YhC
 have:(min (8:Int).toNat IntKind.i64.bits)=8:=by decide
 rw[this,Int.fdiv_eq_ediv_of_nonneg _ (by decide)]
 have:(2:Int)^8=256:=by decide
 rw[this];omega
theorem EM {l:List Int} (hl:l.length<=1048576) (hv: ∀x∈l,0<=x/\x<256):DE l=some (FG l):=by
 unfold DE
 have e2:w64 (2*(l.length:Int))=2*(l.length:Int):=AE (by omega) (by omega)
 rw[e2,if_pos (by unfold lim;omega)]
 have kbl: ∀k,k<=l.length->(kb (l.take k)).length=2*k:=by
  intro k hk
  have: ∀l:List Int,(kb l).length=2*l.length:=by
   intro l
   induction l with
   |nil=>rfl
   |cons x l ih=>unfold kb at ih⊢;simp only[List.flatMap_cons,List.length_append,ih,List.length_cons,List.length_nil];omega
  rw[this];simp;omega
 have:=Ca l.length (λm o i=>Dp m (o,l,(l.length:Int),i)) (λk=>kb (l.take k)) (r:=some (kb l)) (λm k hk=>?_) (λm=>?_) (n:=Aa) (by unfold Aa;omega)
 ·have e0:kb (l.take 0)= []:=rfl
  rw[e0]at this
  have:Dp Aa (List.replicate (Int.toNat 0) (0:Int),l,(l.length:Int),0)=some (kb l):=this
  rw[this];rfl
 ·have hx:=hv _ (List.getElem_mem hk)
  have hlen:=kbl k (by omega)
  have e:kb (l.take (k+1))=kb (l.take k)++ [0,l[k]]:=by
   unfold kb;rw[List.take_succ_eq_append_getElem hk,List.flatMap_append];simp
  simp only[Dp,Ae,Af hk,Ac (show k<4611686018427387904 by omega),J9 hx.1 hx.2,Lj hx.1 hx.2,J9 (show(0:Int)<=0 by omega) (show(0:Int)<256 by omega),e]
  rw[if_pos (by simp;omega),if_pos hk,if_pos (by omega),if_pos (by unfold lim;simp;omega)]
 ·simp only[Dp,List.take_length]
  rw[if_neg (by simp)]
theorem G2: ∀(xs:List Int) (s:ByteArray),(xs.foldl (λs n=>s.push (UInt8.ofNat n.toNat)) s).data=s.data++(xs.map λn=>UInt8.ofNat n.toNat).toArray
 | [],s=>by simp
 |x::xs,s=>by
  rw[List.foldl_cons,G2 xs]
  apply Array.ext'
  simp[ByteArray.push]
theorem LL: ∀(l l':List Int),(∀x∈l,0<=x/\x<256)->(∀x∈l',0<=x/\x<256)->(kb l).map (λn=>UInt8.ofNat n.toNat)=(kb l').map (λn=>UInt8.ofNat n.toNat)->l=l'
 | [],[],_,_,_=>rfl
 | [],y::l',_,_,h=>by simp[kb]at h
 |x::l,[],_,_,h=>by simp[kb]at h
 |x::l,y::l',hv,hv',h=>by
  simp only[kb,List.flatMap_cons,List.map_append,List.map_cons,List.map_nil,List.cons_append,List.nil_append,List.cons.injEq,true_and]at h
  obtain⟨h1,h2⟩:=h
  have hx:=hv x (by simp)
  have hy:=hv' y (by simp)
  have h1:=congrArg UInt8.toNat h1
  simp only[UInt8.toNat_ofNat']at h1
  have:x=y:=by omega
  rw[this,LL l l' (λz hz=>hv z (List.mem_cons_of_mem _ hz)) (λz hz=>hv' z (List.mem_cons_of_mem _ hz)) h2]
theorem JU {l l':List Int} (hv: ∀x∈l,0<=x/\x<256) (hv': ∀x∈l',0<=x/\x<256) (h:FG l=FG l'):l=l':=by
 have h:=congrArg ByteArray.data h
 unfold FG Ydp at h
 rw[G2,G2]at h
 have h:=congrArg Array.toList h
 simp only[Array.toList_append]at h
 exact LL l l' hv hv' (List.append_cancel_left h)
theorem Lr {a b:ByteArray}:(a==b)=decide (a=b):=by
 show(a.data==b.data)=_
 rw[Bool.eq_iff_iff,beq_iff_eq,decide_eq_true_eq]
 exact⟨λh=>ByteArray.ext h,λh=>congrArg ByteArray.data h⟩
theorem Iq {ks:List ByteArray} {s:ByteArray}:Ybm ks s=true↔s∈ks:=by
 unfold Ybm
 rw[List.any_eq_true]
 constructor
 ·rintro ⟨k,h1,h2⟩;rw[Lr,decide_eq_true_eq]at h2;subst h2;exact h1
 ·intro h;exact⟨s,h,by rw[Lr];simp⟩
theorem JW {ks:List ByteArray} {s t:ByteArray}:t∈YgL ks s↔t∈ks∨t=s:=by
 unfold YgL
 by_cases h:Ybm ks s=true
 ·rw[if_pos h]
  exact⟨.inl,λh'=>h'.elim id λe=>e▸Iq.1 h⟩
 ·rw[if_neg h];simp
def El (l:List (List Int)):List ByteArray:=l.foldl (λks t=>YgL ks (FG t)) []
theorem LM {l:List (List Int)} {s:ByteArray}:s∈El l↔ ∃t∈l,s=FG t:=by
 have key: ∀(l:List (List Int)) (ks:List ByteArray),s∈l.foldl (λks t=>YgL ks (FG t)) ks↔s∈ks∨ ∃t∈l,s=FG t:=by
  intro l
  induction l with
  |nil=>intro ks;simp
  |cons t l ih=>
   intro ks
   rw[List.foldl_cons,ih,JW]
   simp only[List.mem_cons,exists_eq_or_imp,or_assoc]
 unfold El;rw[key];simp
theorem FO {r:Int×List (List Int)} (hl:r.2.length<=1048576) (hv: ∀t∈r.2,t.length<=1048576/\ ∀x∈t,0<=x/\x<256):DW r=some (El r.2):=by
 unfold DW
 have:=Ca r.2.length (λm o i=>C4 m (o,r.2,(r.2.length:Int),i)) (λk=>El (r.2.take k)) (r:=some (El r.2)) (λm k hk=>?_) (λm=>?_) (n:=Aa) (by unfold Aa;omega)
 ·have e0:El (r.2.take 0)= []:=rfl
  rw[e0]at this
  simp only[this,Option.bind_some]
 ·obtain⟨h1,h2⟩:=hv _ (List.getElem_mem hk)
  have e:El (r.2.take (k+1))=YgL (El (r.2.take k)) (FG r.2[k]):=by
   unfold El;rw[List.take_succ_eq_append_getElem hk,List.foldl_append];rfl
  simp only[C4,Ae,Af hk,Ac (show k<4611686018427387904 by omega),EM h1 h2,Option.bind_some,e]
  rw[if_pos (by simp;omega),if_pos hk]
 ·simp only[C4,List.take_length]
  rw[if_neg (by simp)]
theorem HE {l:List (List Int)} {t:List Int} (hl: ∀t∈l,∀x∈t,0<=x/\x<256) (ht: ∀x∈t,0<=x/\x<256):Ybm (El l) (FG t)=decide (t∈l):=by
 rw[Bool.eq_iff_iff,Iq,decide_eq_true_eq,LM]
 constructor
 ·rintro ⟨u,h1,h2⟩;rw[JU ht (hl u h1) h2];exact h1
 ·intro h;exact⟨t,h,rfl⟩
def dg (b:Nat):Nat->Nat->List Nat
 |0,_=> []
 |k+1,i=>dg b k (i/b)++ [i%b]
theorem Hv {b:Nat}: ∀ {k i:Nat},(dg b k i).length=k
 |0,_=>rfl
 |k+1,i=>by simp[dg,Hv (k:=k)]
theorem Kz {b:Nat} (hb:0<b): ∀ {k i:Nat},∀x∈dg b k i,x<b
 |0,_,x,h=>by simp[dg]at h
 |k+1,i,x,h=>by
  simp only[dg]at h
  rcases List.mem_append.1 h with h|h
  ·exact Kz hb x h
  ·simp at h;subst h;exact Nat.mod_lt _ hb
theorem Dz {o:List Nat}:(cI o).length=o.length:=by unfold cI;simp
theorem IX {o p:List Nat}:cI (o++p)=cI o++cI p:=by unfold cI;simp
end T
open Go Go.Va
namespace T
def vt (ts:List (List Int)) (x j:Nat):Nat:=((ts.getD x []).getD j 0).toNat
def atF (n:Nat) (ts:List (List Int)) (j:Nat) (args:List Nat):Nat:=args.foldl (λa x=>a*n+vt ts x j) 0
def Nr (n:Nat) (op:Opn) (ts:List (List Int)) (m:Nat) (args:List Nat):List Int:=(List.range m).map λj=>op.2.getD (atF n ts j args) 0
structure KOk (n k m:Nat) (op:Opn) (r:Int×List (List Int)):Prop where
 op1:op.1=(k:Int)
 hk:1<=k/\k<=3
 hn:1<=n/\n<=4
 opl:op.2.length=n^k
 opv: ∀x∈op.2,0<=x/\x<(n:Int)
 ar:r.1=(m:Int)
 hm:1<=m/\m<=3
 tl: ∀t∈r.2,t.length=m
 tv: ∀t∈r.2,∀x∈t,0<=x/\x<(n:Int)
 many:r.2.length<=64
 inc:Ef r.2=true
def kB (n k m:Nat) (op:Opn) (r:Int×List (List Int)):Bool:=(List.range (r.2.length^k)).all λi=>decide (Nr n op r.2 m (dg r.2.length k i)∈r.2)
theorem KM {b k:Nat} (hb:b<=64) (hk:k<=3):b^k<=262144:=by
 have h1:b^k<=64^k:=Nat.pow_le_pow_left hb k
 have h2:64^k<=64^3:=Nat.pow_le_pow_right (by omega) hk
 have:(64:Nat)^3=262144:=by decide
 omega
theorem J0 {b j:Nat} (hb:b<=64) (hj:j+1<=3):w64 (((b^j:Nat):Int)*(b:Int))=((b^(j+1):Nat):Int):=by
 have h:=KM hb hj
 rw[Nat.pow_succ]at h⊢
 rw[←Int.natCast_mul]
 exact AE (by omega) (by omega)
theorem Kl {b:Nat} (hb:b<=64): ∀(m k j:Nat),j+k<=3->k<m->CS m ((b:Int),(k:Int),((b^j:Nat):Int))=some (((b^(j+k):Nat):Int)):=by
 intro m
 induction m with
 |zero=>intro k j _ h;omega
 |succ m ih=>
  intro k j hj hk
  simp only[CS]
  cases k with
  |zero=>simp
  |succ k=>
   have e:w64 (((k+1:Nat):Int)-1)=(k:Int):=by rw[AE (by omega) (by omega)];omega
   rw[e,J0 hb (by omega),if_pos (by simp),ih k (j+1) (by omega) (by omega)]
   congr 3;omega
theorem E8 {b k:Nat} (hb:b<=64) (hk:k<=3):Dd (b:Int) (k:Int)=some (((b^k:Nat):Int)):=by
 unfold Dd
 have:=Kl hb Aa k 0 (by omega) (by unfold Aa;omega)
 have this:CS Aa ((b:Int),(k:Int),1)=_:=this
 rw[this];simp
section
variable {n k m:Nat} {op:Opn} {r:Int×List (List Int)}
theorem KOk.vt_lt (h:KOk n k m op r) {x j:Nat} (hx:x<r.2.length) (hj:j<m):vt r.2 x j<n/\(r.2.getD x []).getD j 0=((vt r.2 x j:Nat):Int)/\j<(r.2.getD x []).length:=by
 have hmem:r.2[x]∈r.2:=List.getElem_mem hx
 have hl:=h.tl _ hmem
 have hj':j<(r.2[x]).length:=by omega
 have hv:=h.tv _ hmem _ (List.getElem_mem hj')
 unfold vt
 rw[Ag hx,Ag hj']
 exact⟨by omega,by omega,by omega⟩
theorem Dx {n k:Nat} (hn:n<=4) (hk:k<=3):n^k<=64:=by
 have h1:n^k<=4^k:=Nat.pow_le_pow_left hn k
 have h2:4^k<=4^3:=Nat.pow_le_pow_right (by omega) hk
 have:(4:Nat)^3=64:=by decide
 omega
theorem H7 {ts:List (List Int)} {j:Nat} {a:List Nat} {x:Nat}:atF n ts j (a++ [x])=atF n ts j a*n+vt ts x j:=by unfold atF;rw[List.foldl_append];rfl
theorem KD {n:Nat} {v:Nat->Nat}: ∀(a:List Nat) (c:Nat),(∀x∈a,v x<n)->a.foldl (λa x=>a*n+v x) c<(c+1)*n^a.length
 | [],c,_=>by simp
 |x::a,c,h=>by
  have h1:=KD a (c*n+v x) λy hy=>h y (List.mem_cons_of_mem _ hy)
  have h2:=h x (by simp)
  have h3:(c*n+v x+1)*n^a.length<=((c+1)*n)*n^a.length:=Nat.mul_le_mul_right _ (by rw[Nat.succ_mul];omega)
  rw[List.foldl_cons,List.length_cons,Nat.pow_succ]
  have h4:((c+1)*n)*n^a.length=(c+1)*(n^a.length*n):=by rw[Nat.mul_assoc,Nat.mul_comm n]
  omega
theorem Ht (hn:n<=4) {x v:Nat} (hx:x<=64) (hv:v<n):w64 (w64 ((x:Int)*(n:Int))+(v:Int))=((x*n+v:Nat):Int):=by
 have h1:x*n<=64*4:=Nat.mul_le_mul hx hn
 have e:(x:Int)*(n:Int)=((x*n:Nat):Int):=by push_cast;rfl
 rw[e,AE (x:=((x*n:Nat):Int)) (by omega) (by omega),AE (by omega) (by omega)]
 push_cast;rfl
end
end T
open Go Go.Va
namespace T
section
variable {v:Int} {c:Con}
end
section
variable {a:Net}
theorem MY {β:Type} (N:Nat) (L:Nat->Int->Option β) (p:Nat->Bool) (g:Nat->β) (e:β)
  (hs: ∀n (k:Nat),k<N->L (n+1) k=if p k then some (g k)else L n ((k+1:Nat):Int)) (he: ∀n,L (n+1) (N:Nat)=some e):
  ∀(d k n:Nat),k+d=N->d<n->L n k=some (match (List.range' k d).find? p with|some x=>g x|none=>e):=by
 intro d
 induction d with
 |zero=>
  intro k n hk hn
  obtain⟨n,rfl⟩: ∃m,n=m+1:=⟨n-1,by omega⟩
  have:k=N:=by omega
  subst this;rw[he];rfl
 |succ d ih=>
  intro k n hk hn
  obtain⟨n,rfl⟩: ∃m,n=m+1:=⟨n-1,by omega⟩
  rw[hs n k (by omega),List.range'_succ,List.find?_cons]
  cases p k with
  |true=>simp
  |false=>simp only[Bool.false_eq_true,if_false];exact ih (k+1) n (by omega) (by omega)
end
end T
open Go Go.Va
namespace T
section
variable {v:Int} {c:Con} {up:Int}
end
section
variable {a:Net} {up:Int} {vals:List Int}
def IK (a:Net) (vals:List Int):Int:=match (List.range' 0 a.2.2.length).find? (λk=>!EH vals (a.2.2.getD k FU))with|some k=>(k:Int)|none=> -1
theorem HL (hN:NetOk a) (hv:(vals.length:Int)=a.1):EO (a.1,(a.2.1,a.2.2)) vals=some (IK a vals):=by
 have hc:=hN.hc
 unfold EO
 have e:=MY a.2.2.length (λf i=>Cu f (vals,(a.1,(a.2.1,a.2.2)),i)) (λk=>!EH vals (a.2.2.getD k FU)) (λk=> .inr (k:Int)) (.inl ()) (λf k hk=>by
  have hcon:=hN.con _ (List.getElem_mem hk)
  simp only[Cu,decide_eq_true (show(k:Int)<((a.2.2.length:Nat):Int) by omega),if_true,Ae,hk,Af hk,GE hcon hv,Option.bind_some,Ac (show k<4611686018427387904 by omega),Ag hk])
  (λf=>by simp[Cu]) a.2.2.length 0 Aa (by omega) (by unfold Aa;omega)
 have e:Cu Aa (vals,(a.1,(a.2.1,a.2.2)),0)=_:=e
 rw[e]
 unfold IK
 cases (List.range' 0 a.2.2.length).find? (λk=>!EH vals (a.2.2.getD k FU))<;>rfl
theorem GV (hN:NetOk a) (hv:(vals.length:Int)=a.1):DM (a.1,(a.2.1,a.2.2)) vals=some (IK a vals):=by
 have hc:=hN.hc
 unfold DM
 have e:=MY a.2.2.length (λf i=>BW f (vals,a.2.2,(a.2.2.length:Int),i)) (λk=>!EH vals (a.2.2.getD k FU)) (λk=> .inr (k:Int)) (.inl ()) (λf k hk=>by
  have hcon:=hN.con _ (List.getElem_mem hk)
  have hsl:=hcon.sl
  have har:=hcon.ar
  have hmany:=hcon.many
  have h1:=EW (f:=a.2.2[k].1) (g:=vals) (by omega) (λx hx=>by
   obtain⟨j,hj,rfl⟩:=List.mem_iff_getElem.1 hx
   have:=hcon.sv j hj
   omega)
  have h2:=Il (r:=a.2.2[k].2) (t:=a.2.2[k].1.map (B9 vals)) (by simp;omega) (show a.2.2[k].2.2.length<=1048576 by omega)
  have h2:Fw (a.2.2[k].2.1,a.2.2[k].2.2) (a.2.2[k].1.map (B9 vals))=_:=h2
  simp only[BW,decide_eq_true (show(k:Int)<((a.2.2.length:Nat):Int) by omega),if_true,Ae,hk,Af hk,h1,h2,Option.bind_some,Ac (show k<4611686018427387904 by omega),Ag hk,EH])
  (λf=>by simp[BW]) a.2.2.length 0 Aa (by omega) (by unfold Aa;omega)
 have e:BW Aa (vals,a.2.2,((a.2.2.length:Nat):Int),0)=_:=e
 rw[e]
 unfold IK
 cases (List.range' 0 a.2.2.length).find? (λk=>!EH vals (a.2.2.getD k FU))<;>rfl
end
end T
set_option linter.unusedVariables false
open Go Go.Va
namespace T
def Ey (n_:Int):Option (Bool):=
 (Ch n_ 1 4).bind λr1=>
 some r1
def BZ:Nat->(Int×(List (Int×(List (List Int))))×Int)->Option ((Unit)⊕(Bool))
 |0,_=>none
 |n+1,(n_,rels,i)=>
 if decide (i<(rels.length:Int))then
 if inb i rels then
 (Fa n_ (gd rels i (0,[]))).bind λr1=>
 if !r1 then
 some (.inr false)
 else
 BZ n (n_,rels,w64 (i+1))
 else none
 else
 some (.inl ())
def Ex (n_:Int) (rels:List (Int×(List (List Int)))):Option (Bool):=
 if decide ((rels.length:Int)>4)then
  some false
 else
  (BZ Aa (n_,rels,0)).bind λs1=>
   match s1 with
   | .inl s2=>
    some true
   | .inr s3=>
    some s3
def Ct:Nat->((List (Int×(List (List Int))))×Int×Int)->Option ((Unit)⊕(Bool))
 |0,_=>none
 |n+1,(rels,k,i)=>
 if decide (i<(rels.length:Int))then
 if k==3 then
 if inb i rels then
 if decide ((((gd rels i (0,[])).2).length:Int)>12)then
 some (.inr false)
 else
 Ct n (rels,k,w64 (i+1))
 else none
 else
 Ct n (rels,k,w64 (i+1))
 else
 some (.inl ())
def FI (n_:Int) (rels:List (Int×(List (List Int)))) (k:Int):Option (Bool):=
 (Ey n_).bind λr1=>
  if !r1 then
   some false
  else
   (Ex n_ rels).bind λr2=>
    if !r2 then
     some false
    else
     (Ch k 1 3).bind λr3=>
      if !r3 then
       some false
      else
       (Ct Aa (rels,k,0)).bind λs4=>
        match s4 with
        | .inl s5=>
         some true
        | .inr s6=>
         some s6
def CH:Nat->(Int×(List Int)×Int)->Option ((List Int))
 |0,_=>none
 |n+1,(size,out,i)=>
 if decide (i<size)then
 if out.length+ [(-1)].length<=lim then
 CH n (size,out++ [(-1)],w64 (i+1))
 else none
 else
 some out
def FZ (size:Int):Option ((List Int)):=
 (CH Aa (size,[],0)).bind λs1=>
 some s1
def DK:Nat->(Int×Int×(List Int)×Int)->Option ((List Int))
 |0,_=>none
 |n+1,(n_,at_,out,i)=>
 if decide (i≥0)then
 if n_≠0 then
 if inb i out then
 if n_≠0 then
 DK n (n_,w64 (Int.tdiv at_ n_),stt out i (Int.tmod at_ n_),w64 (i-1))
 else none
 else none
 else none
 else
 some out
def FE (n_:Int) (arity:Int) (at_:Int):Option ((List Int)):=
 if 0<=arity/\arity<=arity/\arity<=lim then
 (DK Aa (n_,at_,List.replicate (Int.toNat arity) (0:Int),w64 (arity-1))).bind λs1=>
 some s1
 else none
def DH (a:Int) (b:Int):Option (Int):=
 if decide (a>b)then
 some a
 else
 some b
def Cr:Nat->(Int×(List (Int×(List (List Int))))×Int×(List (List ((List Int)×Int×(List (List Int)))))×Int)->Option (Int×(List (Int×(List (List Int))))×Int×(List (List ((List Int)×Int×(List (List Int))))))
 |0,_=>none
 |n+1,(t0,t1,t2,t7,t8)=>
 (Cz t0 t2).bind λr1=>
 if decide (t8<r1)then
 if t7.length+([[]]:List (List ((List Int)×Int×(List (List Int))))).length<=lim then
 Cr n (t0,t1,t2,t7++ [[]],w64 (t8+1))
 else none
 else
 some (t0,t1,t2,t7)
def Cg:Nat->(Int×(List (Int×(List (List Int))))×Int×(List (List ((List Int)×Int×(List (List Int)))))×Int×Int×Int×(List Int)×((List Int)×(Int×(List (List Int))))×Int×Int×Int×Int)->Option (Int×(List (Int×(List (List Int))))×Int×(List (List ((List Int)×Int×(List (List Int)))))×Int×Int×Int×(List Int)×((List Int)×(Int×(List (List Int))))×Int×Int×Int)
 |0,_=>none
 |n+1,(t0,t1,t2,t7,t9,t10,t11,t12,t13,t14,t15,t16,t17)=>
 if decide (t17<t2)then
 if inb t9 t1 then
 if inb t17 t12 then
 if inb (gd t12 t17 0) ((gd t1 t9 (0,[])).2)then
 if inb t15 (gd ((gd t1 t9 (0,[])).2) (gd t12 t17 0) [])then
 Cg n (t0,t1,t2,t7,t9,t10,t11,t12,(t13.1,(t13.2.1,t13.2.2)),t14,t15,w64 ((w64 (t16*t0))+(gd (gd ((gd t1 t9 (0,[])).2) (gd t12 t17 0) []) t15 0)),w64 (t17+1))
 else none
 else none
 else none
 else none
 else
 some (t0,t1,t2,t7,t9,t10,t11,t12,(t13.1,(t13.2.1,t13.2.2)),t14,t15,t16)
def Cf:Nat->(Int×(List (Int×(List (List Int))))×Int×(List (List ((List Int)×Int×(List (List Int)))))×Int×Int×Int×(List Int)×((List Int)×(Int×(List (List Int))))×Int×Int)->Option (Int×(List (Int×(List (List Int))))×Int×(List (List ((List Int)×Int×(List (List Int)))))×Int×Int×Int×((List Int)×(Int×(List (List Int))))×Int)
 |0,_=>none
 |n+1,(t0,t1,t2,t7,t9,t10,t11,t12,t13,t14,t15)=>
 if inb t9 t1 then
 if decide (t15<((gd t1 t9 (0,[])).1))then
 (Cg Aa (t0,t1,t2,t7,t9,t10,t11,t12,(t13.1,(t13.2.1,t13.2.2)),t14,t15,0,0)).bind λs5=>
 if s5.2.2.2.2.2.2.2.2.1.1.length+ [s5.2.2.2.2.2.2.2.2.2.2.2].length<=lim then
 (DH s5.2.2.2.2.2.2.2.2.2.1 s5.2.2.2.2.2.2.2.2.2.2.2).bind λr6=>
 Cf n (s5.1,s5.2.1,s5.2.2.1,s5.2.2.2.1,s5.2.2.2.2.1,s5.2.2.2.2.2.1,s5.2.2.2.2.2.2.1,s5.2.2.2.2.2.2.2.1,(s5.2.2.2.2.2.2.2.2.1.1++ [s5.2.2.2.2.2.2.2.2.2.2.2],(s5.2.2.2.2.2.2.2.2.1.2.1,s5.2.2.2.2.2.2.2.2.1.2.2)),r6,w64 (s5.2.2.2.2.2.2.2.2.2.2.1+1))
 else none
 else
 some (t0,t1,t2,t7,t9,t10,t11,(t13.1,(t13.2.1,t13.2.2)),t14)
 else none
def Ce:Nat->(Int×(List (Int×(List (List Int))))×Int×(List (List ((List Int)×Int×(List (List Int)))))×Int×Int×Int)->Option (Int×(List (Int×(List (List Int))))×Int×(List (List ((List Int)×Int×(List (List Int)))))×Int)
 |0,_=>none
 |n+1,(t0,t1,t2,t7,t9,t10,t11)=>
 (Cz t10 t2).bind λr3=>
 if decide (t11<r3)then
 (FE t10 t2 t11).bind λr4=>
 if inb t9 t1 then
 (Cf Aa (t0,t1,t2,t7,t9,t10,t11,r4,([],((gd t1 t9 (0,[])).1,(gd t1 t9 (0,[])).2)),0,0)).bind λs5=>
 if inb s5.2.2.2.2.2.2.2.2 s5.2.2.2.1 then
 if(gd s5.2.2.2.1 s5.2.2.2.2.2.2.2.2 []).length+ [(s5.2.2.2.2.2.2.2.1.1,(s5.2.2.2.2.2.2.2.1.2.1,s5.2.2.2.2.2.2.2.1.2.2))].length<=lim then
 if inb s5.2.2.2.2.2.2.2.2 s5.2.2.2.1 then
 if s5.2.2.2.2.2.2.2.2=s5.2.2.2.2.2.2.2.2 then
 Ce n (s5.1,s5.2.1,s5.2.2.1,stt s5.2.2.2.1 s5.2.2.2.2.2.2.2.2 ((gd s5.2.2.2.1 s5.2.2.2.2.2.2.2.2 [])++ [(s5.2.2.2.2.2.2.2.1.1,(s5.2.2.2.2.2.2.2.1.2.1,s5.2.2.2.2.2.2.2.1.2.2))]),s5.2.2.2.2.1,s5.2.2.2.2.2.1,w64 (s5.2.2.2.2.2.2.1+1))
 else none
 else none
 else none
 else none
 else none
 else
 some (t0,t1,t2,t7,t9)
def Cs:Nat->(Int×(List (Int×(List (List Int))))×Int×(List (List ((List Int)×Int×(List (List Int)))))×Int)->Option ((List (List ((List Int)×Int×(List (List Int))))))
 |0,_=>none
 |n+1,(t0,t1,t2,t7,t9)=>
 if decide (t9<(t1.length:Int))then
 if inb t9 t1 then
 (Ce Aa (t0,t1,t2,t7,t9,(((gd t1 t9 (0,[])).2).length:Int),0)).bind λs3=>
 Cs n (s3.1,s3.2.1,s3.2.2.1,s3.2.2.2.1,w64 (s3.2.2.2.2+1))
 else none
 else
 some t7
def FH (t0:Int) (t1:List (Int×(List (List Int)))) (t2:Int):Option ((List (List ((List Int)×Int×(List (List Int)))))):=
 (Cr Aa (t0,t1,t2,[],0)).bind λs1=>
 (Cs Aa (s1.1,s1.2.1,s1.2.2.1,s1.2.2.2,0)).bind λs2=>
 some s2
def Cq:Nat->((List ((List Int)×Int×(List (List Int))))×(List Int)×Int×(List Int)×Int)->Option ((List ((List Int)×Int×(List (List Int))))×(List Int)×Int×(List Int))
 |0,_=>none
 |n+1,(needs,table,i,t,k)=>
 if inb i needs then
 if decide (k<(((gd needs i ([],(0,[]))).1).length:Int))then
 if inb i needs then
 if inb k ((gd needs i ([],(0,[]))).1)then
 if inb (gd ((gd needs i ([],(0,[]))).1) k 0) table then
 if t.length+ [gd table (gd ((gd needs i ([],(0,[]))).1) k 0) 0].length<=lim then
 Cq n (needs,table,i,t++ [gd table (gd ((gd needs i ([],(0,[]))).1) k 0) 0],w64 (k+1))
 else none
 else none
 else none
 else none
 else
 some (needs,table,i,t)
 else none
def Cp:Nat->((List ((List Int)×Int×(List (List Int))))×(List Int)×Int)->Option ((Unit)⊕(Bool))
 |0,_=>none
 |n+1,(needs,table,i)=>
 if decide (i<(needs.length:Int))then
 (Cq Aa (needs,table,i,[],0)).bind λs1=>
 if inb s1.2.2.1 s1.1 then
 (Ek ((gd s1.1 s1.2.2.1 ([],(0,[]))).2) s1.2.2.2).bind λr2=>
 if !r2 then
 some (.inr false)
 else
 Cp n (s1.1,s1.2.1,w64 (s1.2.2.1+1))
 else none
 else
 some (.inl ())
def DX (needs:List ((List Int)×Int×(List (List Int)))) (table:List Int):Option (Bool):=
 (Cp Aa (needs,table,0)).bind λs1=>
  match s1 with
  | .inl s2=>
   some true
  | .inr s3=>
   some s3
def Av (rec:(Int×(List (List ((List Int)×Int×(List (List Int)))))×(List Int)×(List Int)×((List (List Int))×(Int×Int)))->Option (((List (List Int))×(Int×Int)))):Nat->(Int×(List (List ((List Int)×Int×(List (List Int)))))×(List Int)×(List Int)×((List (List Int))×(Int×Int))×((List (List Int))×(Int×Int))×Int×Int)->Option ((((List (List Int))×(Int×Int))×((List (List Int))×(Int×Int)))⊕(((List (List Int))×(Int×Int))))
 |0,_=>none
 |n+1,(t0,t1,t2,t3,t9,t10,t11,t12)=>
 if decide (t12<t0)then
 if inb t11 t2 then
 if decide ((gd t2 t11 0)≥0)then
 if inb t11 t2 then
 if(gd t2 t11 0) !=t12 then
 Av rec n (t0,t1,t2,t3,(t9.1,(t9.2.1,t9.2.2)),(t10.1,(t10.2.1,t10.2.2)),t11,w64 (t12+1))
 else
 (DI t3).bind λr2=>
 if r2.length+ [t12].length<=lim then
 if inb t11 t1 then
 (DX (gd t1 t11 []) (r2++ [t12])).bind λr3=>
 if r3 then
 (rec (t0,t1,t2,r2++ [t12],(t9.1,(t9.2.1,t9.2.2)))).bind λr4=>
 if r4.2.2==1 then
 if decide (r4.2.1>0)then
 some (.inr (r4.1,(r4.2.1,r4.2.2)))
 else
 Av rec n (t0,t1,t2,t3,(r4.1,(r4.2.1,r4.2.2)),(t10.1,(t10.2.1,t10.2.2)),t11,w64 (t12+1))
 else
 Av rec n (t0,t1,t2,t3,(r4.1,(r4.2.1,r4.2.2)),(t10.1,(t10.2.1,t10.2.2)),t11,w64 (t12+1))
 else
 if t9.2.2==1 then
 if decide (t9.2.1>0)then
 some (.inr (t9.1,(t9.2.1,t9.2.2)))
 else
 Av rec n (t0,t1,t2,t3,(t9.1,(t9.2.1,t9.2.2)),(t10.1,(t10.2.1,t10.2.2)),t11,w64 (t12+1))
 else
 Av rec n (t0,t1,t2,t3,(t9.1,(t9.2.1,t9.2.2)),(t10.1,(t10.2.1,t10.2.2)),t11,w64 (t12+1))
 else none
 else none
 else none
 else
 (DI t3).bind λr5=>
 if r5.length+ [t12].length<=lim then
 if inb t11 t1 then
 (DX (gd t1 t11 []) (r5++ [t12])).bind λr6=>
 if r6 then
 (rec (t0,t1,t2,r5++ [t12],(t9.1,(t9.2.1,t9.2.2)))).bind λr7=>
 if r7.2.2==1 then
 if decide (r7.2.1>0)then
 some (.inr (r7.1,(r7.2.1,r7.2.2)))
 else
 Av rec n (t0,t1,t2,t3,(r7.1,(r7.2.1,r7.2.2)),(t10.1,(t10.2.1,t10.2.2)),t11,w64 (t12+1))
 else
 Av rec n (t0,t1,t2,t3,(r7.1,(r7.2.1,r7.2.2)),(t10.1,(t10.2.1,t10.2.2)),t11,w64 (t12+1))
 else
 if t9.2.2==1 then
 if decide (t9.2.1>0)then
 some (.inr (t9.1,(t9.2.1,t9.2.2)))
 else
 Av rec n (t0,t1,t2,t3,(t9.1,(t9.2.1,t9.2.2)),(t10.1,(t10.2.1,t10.2.2)),t11,w64 (t12+1))
 else
 Av rec n (t0,t1,t2,t3,(t9.1,(t9.2.1,t9.2.2)),(t10.1,(t10.2.1,t10.2.2)),t11,w64 (t12+1))
 else none
 else none
 else none
 else
 some (.inl ((t9.1,(t9.2.1,t9.2.2)),(t10.1,(t10.2.1,t10.2.2))))
def EZ (rec:(Int×(List (List ((List Int)×Int×(List (List Int)))))×(List Int)×(List Int)×((List (List Int))×(Int×Int)))->Option (((List (List Int))×(Int×Int)))) (t0:Int) (t1:List (List ((List Int)×Int×(List (List Int))))) (t2:List Int) (t3:List Int) (t4:(List (List Int))×(Int×Int)):Option (((List (List Int))×(Int×Int))):=
 if(t3.length:Int)==(t1.length:Int)then
  if decide ((t4.1.length:Int)<t4.2.2)then
   (DI t3).bind λr1=>
    if t4.1.length+ [r1].length<=lim then
     some (t4.1++ [r1],(w64 (t4.2.1+1),t4.2.2))
    else none
  else
   some (t4.1,(w64 (t4.2.1+1),t4.2.2))
 else
  (Av rec Aa (t0,t1,t2,t3,(t4.1,(t4.2.1,t4.2.2)),([],(0,0)),(t3.length:Int),0)).bind λs2=>
   match s2 with
   | .inl s3=>
    some (s3.1.1,(s3.1.2.1,s3.1.2.2))
   | .inr s4=>
    some (s4.1,(s4.2.1,s4.2.2))
def B4:Nat->(Int×(List (List ((List Int)×Int×(List (List Int)))))×(List Int)×(List Int)×((List (List Int))×(Int×Int)))->Option (((List (List Int))×(Int×Int)))
 |0,_=>none
 |d+1,x=>EZ (B4 d) x.1 x.2.1 x.2.2.1 x.2.2.2.1 x.2.2.2.2
def FC (n_:Int) (rels:List (Int×(List (List Int)))) (k:Int) (fixed:List Int) (most:Int):Option (((List (List Int))×(Int×Int))):=
 (FH n_ rels k).bind λr1=>
 (B4 Aa (n_,r1,fixed,[],([],(0,most)))).bind λr2=>
 some (r2.1,(r2.2.1,r2.2.2))
def Cw:Nat->(Int×(List (Int×(List (List Int))))×Int×Int)->Option ((Unit)⊕(Bool))
 |0,_=>none
 |n+1,(n_,t10,t11,t12)=>
 if decide (t12<t11)then
 if inb t12 t10 then
 (D2 n_ ((gd t10 t12 (0,[])).1,(gd t10 t12 (0,[])).2)).bind λr1=>
 if !r1 then
 some (.inr false)
 else
 Cw n (n_,t10,t11,w64 (t12+1))
 else none
 else
 some (.inl ())
def Gc (n_:Int) (rels:List (Int×(List (List Int)))):Option (Bool):=
 if decide ((rels.length:Int)>4)then
  some false
 else
  (Cw Aa (n_,rels,(rels.length:Int),0)).bind λs1=>
   match s1 with
   | .inl s2=>
    some true
   | .inr s3=>
    some s3
def C1:Nat->(Int×(List (Int×(List (List Int))))×Int×Int)->Option ((Unit)⊕(Bool))
 |0,_=>none
 |n+1,(k,t18,t19,t20)=>
 if decide (t20<t19)then
 if inb t20 t18 then
 if k==3 then
 if decide ((((gd t18 t20 (0,[])).2).length:Int)>12)then
 some (.inr false)
 else
 C1 n (k,t18,t19,w64 (t20+1))
 else
 C1 n (k,t18,t19,w64 (t20+1))
 else none
 else
 some (.inl ())
def Gr (n_:Int) (rels:List (Int×(List (List Int)))) (k:Int):Option (Bool):=
 (CU n_).bind λr1=>
  if !r1 then
   some false
  else
   (Gc n_ rels).bind λr2=>
    if !r2 then
     some false
    else
     (C1 Aa (k,rels,(rels.length:Int),0)).bind λs3=>
      match s3 with
      | .inl s4=>
       some true
      | .inr s5=>
       some s5
def Cd:Nat->((List Int)×Int×Int)->Option ((List Int))
 |0,_=>none
 |n+1,(list,t8,t9)=>
 if decide (t9<t8)then
 if inb t9 list then
 Cd n (stt list t9 (-1),t8,w64 (t9+1))
 else none
 else
 some list
def Fk (many:Int):Option ((List Int)):=
 if 0<=many/\many<=many/\many<=lim then
 (Cd Aa (List.replicate (Int.toNat many) (0:Int),((List.replicate (Int.toNat many) (0:Int)).length:Int),0)).bind λs1=>
 some s1
 else none
def DB:Nat->(Int×Int×(List Int)×Int)->Option ((List Int))
 |0,_=>none
 |n+1,(i,n_,args,j)=>
 if decide (j≥0)then
 if n_≠0 then
 if inb j args then
 if n_≠0 then
 DB n (w64 (Int.tdiv i n_),n_,stt args j (Int.tmod i n_),w64 (j-1))
 else none
 else none
 else none
 else
 some args
def Gn (i:Int) (k:Int) (n_:Int):Option ((List Int)):=
 if 0<=k/\k<=k/\k<=lim then
 (DB Aa (i,n_,List.replicate (Int.toNat k) (0:Int),w64 (k-1))).bind λs1=>
 some s1
 else none
def Bl:Nat->(Unit×Int×Int×(Int×(Int×(List (List ((List Int)×(List ByteArray))))))×(Int×(List (List Int)))×(List ByteArray)×(List ByteArray)×Int×(List Int)×(List Int)×Int×Int×(List (Int×(List (List Int))))×Int×Int×Int×Int×Int×Int)->Option (Int×Int×(Int×(Int×(List (List ((List Int)×(List ByteArray))))))×(Int×(List (List Int)))×(List ByteArray)×(List ByteArray)×Int×(List Int)×(List Int)×Int×Int×(List (Int×(List (List Int))))×Int×Int×Int×Int)
 |0,_=>none
 |n+1,(al60,t0,t2,t7,t9,t10,t11,t12,t13,t14,t15,t16,t28,t29,t30,t56,t57,t61,t62)=>
 if decide (t62<t61)then
 if inb t62 t13 then
 if inb t16 t14 then
 if inb (gd t13 t62 0) t9.2 then
 if inb t16 (gd t9.2 (gd t13 t62 0) [])then
 if inb t16 t14 then
 Bl n ((),t0,t2,(t7.1,(t7.2.1,t7.2.2)),(t9.1,t9.2),t10,t11,t12,t13,stt t14 t16 (w64 ((w64 ((gd t14 t16 0)*t0))+(gd (gd t9.2 (gd t13 t62 0) []) t16 0))),t15,t16,t28,t29,t30,t56,t57,t61,w64 (t62+1))
 else none
 else none
 else none
 else none
 else none
 else
 some (t0,t2,(t7.1,(t7.2.1,t7.2.2)),(t9.1,t9.2),t10,t11,t12,t13,t14,t15,t16,t28,t29,t30,t56,t57)
def Bk:Nat->(Int×Int×(Int×(Int×(List (List ((List Int)×(List ByteArray))))))×(Int×(List (List Int)))×(List ByteArray)×(List ByteArray)×Int×(List Int)×(List Int)×Int×(List (Int×(List (List Int))))×Int×Int×Int×Int)->Option (Int×Int×(Int×(Int×(List (List ((List Int)×(List ByteArray))))))×(Int×(List (List Int)))×(List ByteArray)×(List ByteArray)×Int×(List Int)×Int×(List (Int×(List (List Int))))×Int×Int)
 |0,_=>none
 |n+1,(t0,t2,t7,t9,t10,t11,t12,t13,t14,t15,t28,t29,t30,t56,t57)=>
 if decide (t57<t56)then
 (Bl Aa ((),t0,t2,(t7.1,(t7.2.1,t7.2.2)),(t9.1,t9.2),t10,t11,t12,t13,t14,t15,t57,t28,t29,t30,t56,t57,(t13.length:Int),0)).bind λs5=>
 if inb s5.2.2.2.2.2.2.2.2.2.2.1 s5.2.2.2.2.2.2.2.2.1 then
 Bk n (s5.1,s5.2.1,(s5.2.2.1.1,(s5.2.2.1.2.1,s5.2.2.1.2.2)),(s5.2.2.2.1.1,s5.2.2.2.1.2),s5.2.2.2.2.1,s5.2.2.2.2.2.1,s5.2.2.2.2.2.2.1,s5.2.2.2.2.2.2.2.1,s5.2.2.2.2.2.2.2.2.1,Yht s5.2.2.2.2.2.2.2.2.2.1 (gd s5.2.2.2.2.2.2.2.2.1 s5.2.2.2.2.2.2.2.2.2.2.1 0),s5.2.2.2.2.2.2.2.2.2.2.2.1,s5.2.2.2.2.2.2.2.2.2.2.2.2.1,s5.2.2.2.2.2.2.2.2.2.2.2.2.2.1,s5.2.2.2.2.2.2.2.2.2.2.2.2.2.2.1,w64 (s5.2.2.2.2.2.2.2.2.2.2.2.2.2.2.2+1))
 else none
 else
 some (t0,t2,(t7.1,(t7.2.1,t7.2.2)),(t9.1,t9.2),t10,t11,t12,t14,t15,t28,t29,t30)
def AU:Nat->(Int×Int×(Int×(Int×(List (List ((List Int)×(List ByteArray))))))×(Int×(List (List Int)))×(List ByteArray)×(List ByteArray)×Int×(List (Int×(List (List Int))))×Int×Int)->Option (Int×Int×(Int×(Int×(List (List ((List Int)×(List ByteArray))))))×(List (Int×(List (List Int))))×Int×Int)
 |0,_=>none
 |n+1,(t0,t2,t7,t9,t10,t11,t12,t28,t29,t30)=>
 (Dd (t9.2.length:Int) t2).bind λr3=>
 if decide (t12<r3)then
 (Gn t12 t2 (t9.2.length:Int)).bind λr4=>
 if 0<=t9.1/\t9.1<=t9.1/\t9.1<=lim then
 (Bk Aa (t0,t2,(t7.1,(t7.2.1,t7.2.2)),(t9.1,t9.2),t10,t11,t12,r4,List.replicate (Int.toNat t9.1) (0:Int),0,t28,t29,t30,((List.replicate (Int.toNat t9.1) (0:Int)).length:Int),0)).bind λs5=>
 (DE s5.2.2.2.2.2.2.2.1).bind λr6=>
 if !(Ybm s5.2.2.2.2.2.1 r6)then
 if inb s5.2.2.2.2.2.2.2.2.1 s5.2.2.1.2.2 then
 if(gd s5.2.2.1.2.2 s5.2.2.2.2.2.2.2.2.1 []).length+ [(s5.2.2.2.2.2.2.2.1,s5.2.2.2.2.1)].length<=lim then
 if inb s5.2.2.2.2.2.2.2.2.1 s5.2.2.1.2.2 then
 if s5.2.2.2.2.2.2.2.2.1=s5.2.2.2.2.2.2.2.2.1 then
 AU n (s5.1,s5.2.1,(s5.2.2.1.1,(s5.2.2.1.2.1,stt s5.2.2.1.2.2 s5.2.2.2.2.2.2.2.2.1 ((gd s5.2.2.1.2.2 s5.2.2.2.2.2.2.2.2.1 [])++ [(s5.2.2.2.2.2.2.2.1,s5.2.2.2.2.1)]))),(s5.2.2.2.1.1,s5.2.2.2.1.2),s5.2.2.2.2.1,YgL s5.2.2.2.2.2.1 r6,w64 (s5.2.2.2.2.2.2.1+1),s5.2.2.2.2.2.2.2.2.2.1,s5.2.2.2.2.2.2.2.2.2.2.1,s5.2.2.2.2.2.2.2.2.2.2.2)
 else none
 else none
 else none
 else none
 else
 AU n (s5.1,s5.2.1,(s5.2.2.1.1,(s5.2.2.1.2.1,s5.2.2.1.2.2)),(s5.2.2.2.1.1,s5.2.2.2.1.2),s5.2.2.2.2.1,s5.2.2.2.2.2.1,w64 (s5.2.2.2.2.2.2.1+1),s5.2.2.2.2.2.2.2.2.2.1,s5.2.2.2.2.2.2.2.2.2.2.1,s5.2.2.2.2.2.2.2.2.2.2.2)
 else none
 else
 some (t0,t2,(t7.1,(t7.2.1,t7.2.2)),t28,t29,t30)
def BA:Nat->(Int×Int×(Int×(Int×(List (List ((List Int)×(List ByteArray))))))×(List (Int×(List (List Int))))×Int×Int)->Option ((Int×(Int×(List (List ((List Int)×(List ByteArray)))))))
 |0,_=>none
 |n+1,(t0,t2,t7,t28,t29,t30)=>
 if decide (t30<t29)then
 if inb t30 t28 then
 (DW ((gd t28 t30 (0,[])).1,(gd t28 t30 (0,[])).2)).bind λr2=>
 (AU Aa (t0,t2,(t7.1,(t7.2.1,t7.2.2)),((gd t28 t30 (0,[])).1,(gd t28 t30 (0,[])).2),r2,[],0,t28,t29,t30)).bind λs3=>
 BA n (s3.1,s3.2.1,(s3.2.2.1.1,(s3.2.2.1.2.1,s3.2.2.1.2.2)),s3.2.2.2.1,s3.2.2.2.2.1,w64 (s3.2.2.2.2.2+1))
 else none
 else
 some (t7.1,(t7.2.1,t7.2.2))
def Ee (t0:Int) (t1:List (Int×(List (List Int)))) (t2:Int):Option ((Bool×Int×Int×(List (List ((List Int)×(List ByteArray)))))):=
 (Dd t0 t2).bind λr1=>
 if 0<=r1/\r1<=r1/\r1<=lim then
 (BA Aa (t0,t2,(t0,(t2,List.replicate (Int.toNat r1) ([]:List ((List Int)×(List ByteArray))))),t1,(t1.length:Int),0)).bind λs2=>
 some (true,(s2.1,(s2.2.1,s2.2.2)))
 else none
def Cv (list:List Int):Option ((List Int)):=
 if([]:List Int).length+list.length<=lim then
 some ([]++list)
 else none
def AL:Nat->((List Int)×(List ((List Int)×(List ByteArray)))×Int×Int)->Option ((Unit)⊕(Bool))
 |0,_=>none
 |n+1,(table,t15,t16,t17)=>
 if decide (t17<t16)then
 if inb t17 t15 then
 (Dc ((gd t15 t17 ([],[])).1) table).bind λr1=>
 (DE r1).bind λr2=>
 if !(Ybm ((gd t15 t17 ([],[])).2) r2)then
 some (.inr false)
 else
 AL n (table,t15,t16,w64 (t17+1))
 else none
 else
 some (.inl ())
def Au (s:Bool×Int×Int×(List (List ((List Int)×(List ByteArray))))) (table:List Int) (at_:Int):Option (Bool):=
 if s.1=true then
  if inb at_ s.2.2.2 then
   (AL Aa (table,gd s.2.2.2 at_ [],((gd s.2.2.2 at_ []).length:Int),0)).bind λs1=>
    match s1 with
    | .inl s2=>
     some true
    | .inr s3=>
     some s3
  else none
 else none
def BG:Nat->(Int×Int×(List Int)×Int×Int×Int)->Option (Int×Int×(List Int)×Int×Int)
 |0,_=>none
 |n+1,(n_,k,out,x,at_,i)=>
 if decide (i<k)then
 BG n (n_,k,out,x,w64 ((w64 (at_*n_))+x),w64 (i+1))
 else
 some (n_,k,out,x,at_)
def BF:Nat->(Int×Int×(List Int)×Int)->Option ((List Int))
 |0,_=>none
 |n+1,(n_,k,out,x)=>
 if decide (x<n_)then
 (BG Aa (n_,k,out,x,0,0)).bind λs3=>
 if inb s3.2.2.2.2 s3.2.2.1 then
 BF n (s3.1,s3.2.1,stt s3.2.2.1 s3.2.2.2.2 s3.2.2.2.1,w64 (s3.2.2.2.1+1))
 else none
 else
 some out
def Df (n_:Int) (k:Int):Option ((List Int)):=
 (Cz n_ k).bind λr1=>
 (FZ r1).bind λr2=>
 (BF Aa (n_,k,r2,0)).bind λs3=>
 some s3
def AZ:Nat->(Int×Int×(List Int)×Int×Int×Int)->Option (Int×Int×(List Int)×Int×Int)
 |0,_=>none
 |n+1,(n_,k,list,x,at_,i)=>
 if decide (i<k)then
 AZ n (n_,k,list,x,w64 ((w64 (at_*n_))+x),w64 (i+1))
 else
 some (n_,k,list,x,at_)
def AY:Nat->(Int×Int×(List Int)×Int)->Option ((List Int))
 |0,_=>none
 |n+1,(n_,k,list,x)=>
 if decide (x<n_)then
 (AZ Aa (n_,k,list,x,0,0)).bind λs3=>
 if inb s3.2.2.2.2 s3.2.2.1 then
 AY n (s3.1,s3.2.1,stt s3.2.2.1 s3.2.2.2.2 s3.2.2.2.1,w64 (s3.2.2.2.1+1))
 else none
 else
 some list
def CN (n_:Int) (k:Int):Option ((List Int)):=
 (Dd n_ k).bind λr1=>
 (Fk r1).bind λr2=>
 (AY Aa (n_,k,r2,0)).bind λs3=>
 some s3
end T
open Go Go.Va
namespace T
theorem M1 {a b:Nat} (ha:a<4611686018427387904):w64 (Int.tdiv (a:Int) (b:Int))=((a/b:Nat):Int):=by
 rw[Int.tdiv_eq_ediv_of_nonneg (by omega),←Int.natCast_ediv]
 have:=Nat.div_le_self a b
 generalize a/b=q at this
 exact AE (by omega) (by omega)
theorem M3 {a b:Nat}:Int.tmod (a:Int) (b:Int)=((a%b:Nat):Int):=by
 rw[Int.tmod_eq_emod_of_nonneg (by omega),←Int.natCast_emod]
section
variable {n:Nat}
end
end T
open Go Go.Va
namespace T
abbrev AT:=Int×List (List Int)
structure ROk (n m:Nat) (r:AT):Prop where
 ar:r.1=(m:Int)
 hm:1<=m/\m<=3
 tl: ∀t∈r.2,t.length=m
 tv: ∀t∈r.2,∀x∈t,0<=x/\x<(n:Int)
 many:r.2.length<=64
 inc:Ef r.2=true
theorem Ns {n:Nat} {r:AT} (hn:1<=n/\n<=4) (h:E9 (n:Int) r=true):ROk n r.1.toNat r:=by
 unfold E9 at h
 simp only[Bool.and_eq_true,decide_eq_true_eq,List.all_eq_true]at h
 obtain⟨⟨h1,h2⟩,h3⟩:=h
 refine⟨by omega,by omega,λt ht=>by have:=(h2 t ht).1;omega,λt ht x hx=>?_,?_,h3⟩
 ·obtain⟨j,hj,rfl⟩:=List.mem_iff_getElem.1 hx
  exact FT (h2 t ht).2 j hj
 ·rcases HC (n:=(n:Int)) (k:=r.1.toNat) h3 λt ht=>⟨by have:=(h2 t ht).1;omega,(h2 t ht).2⟩with h6|h6
  ·have h7:((n:Int))^r.1.toNat=((n^r.1.toNat:Nat):Int):=by push_cast;rfl
   have h8:=Dx hn.2 (show r.1.toNat<=3 by omega)
   omega
  ·rw[h6];simp
theorem LY {b:Nat} (hb:b<=64): ∀(m k j:Nat),j+k<=3->k<m->CT m ((b:Int),(k:Int),((b^j:Nat):Int))=some (((b^(j+k):Nat):Int)):=by
 intro m
 induction m with
 |zero=>intro k j _ h;omega
 |succ m ih=>
  intro k j hj hk
  simp only[CT]
  cases k with
  |zero=>simp
  |succ k=>
   have e:w64 (((k+1:Nat):Int)-1)=(k:Int):=by rw[AE (by omega) (by omega)];omega
   rw[e,J0 hb (by omega),if_pos (by simp),ih k (j+1) (by omega) (by omega)]
   congr 3;omega
theorem Fu {b k:Nat} (hb:b<=64) (hk:k<=3):Cz (b:Int) (k:Int)=some (((b^k:Nat):Int)):=by
 unfold Cz
 have:=LY hb Aa k 0 (by omega) (by unfold Aa;omega)
 have this:CT Aa ((b:Int),(k:Int),1)=_:=this
 rw[this];simp
theorem Lt {l:List Nat} {s:List Nat} {x y:Nat}:(cI (l++x::s)).set l.length (y:Int)=cI (l++y::s):=by
 unfold cI
 rw[List.map_append,List.map_append,List.map_cons,List.map_cons,List.set_append_right _ _ (by simp)]
 simp
theorem Mh {b:Nat} (hb:0<b): ∀(j i f:Nat) (s:List Nat),j<f->i<4611686018427387904->j<=1000->
  DB f ((i:Int),(b:Int),cI (List.replicate j 0++s),(j:Int)-1)=some (cI (dg b j i++s)):=by
 intro j
 induction j with
 |zero=>
  intro i f s hf hi hj
  obtain⟨f,rfl⟩: ∃z,f=z+1:=⟨f-1,by omega⟩
  simp only[DB]
  rw[if_neg (by simp)];rfl
 |succ j ih=>
  intro i f s hf hi hj
  obtain⟨f,rfl⟩: ∃z,f=z+1:=⟨f-1,by omega⟩
  have e1:((j+1:Nat):Int)-1=(j:Int):=by omega
  have hz:List.replicate (j+1) 0++s=List.replicate j 0++0::s:=by rw[List.replicate_succ'];simp
  have hlen:j<(cI (List.replicate j 0++0::s)).length:=by rw[Dz];simp
  have hset:=Lt (l:=List.replicate j 0) (s:=s) (x:=0) (y:=i%b)
  rw[List.length_replicate]at hset
  have w2:w64 ((j:Int)-1)=(j:Int)-1:=AE (by omega) (by omega)
  have hle:=Nat.div_le_self i b
  rw[e1,hz]
  simp only[DB,M1 hi,M3,Ae,hlen,CY,hset,w2]
  rw[if_pos (by simp),if_pos (by omega),if_pos trivial,if_pos (by omega),ih (i/b) f _ (by omega) (by omega) (by omega)]
  simp[dg]
theorem Ij {b k i:Nat} (hb:0<b) (hk:k<=1000) (hi:i<4611686018427387904):Gn (i:Int) (k:Int) (b:Int)=some (cI (dg b k i)):=by
 have h:=Mh hb k i Aa [] (by unfold Aa;omega) hi hk
 have e:cI (List.replicate k 0++ [])=List.replicate (Int.toNat (k:Int)) (0:Int):=by unfold cI;simp
 rw[e,List.append_nil]at h
 unfold Gn
 rw[AE (x:=(k:Int)-1) (by omega) (by omega),h,if_pos (by unfold lim;omega)];rfl
theorem La {b:Nat} (hb:0<b): ∀(j i f:Nat) (s:List Nat),j<f->i<4611686018427387904->j<=1000->
  DK f ((b:Int),(i:Int),cI (List.replicate j 0++s),(j:Int)-1)=some (cI (dg b j i++s)):=by
 intro j
 induction j with
 |zero=>
  intro i f s hf hi hj
  obtain⟨f,rfl⟩: ∃z,f=z+1:=⟨f-1,by omega⟩
  simp only[DK]
  rw[if_neg (by simp)];rfl
 |succ j ih=>
  intro i f s hf hi hj
  obtain⟨f,rfl⟩: ∃z,f=z+1:=⟨f-1,by omega⟩
  have e1:((j+1:Nat):Int)-1=(j:Int):=by omega
  have hz:List.replicate (j+1) 0++s=List.replicate j 0++0::s:=by rw[List.replicate_succ'];simp
  have hlen:j<(cI (List.replicate j 0++0::s)).length:=by rw[Dz];simp
  have hset:=Lt (l:=List.replicate j 0) (s:=s) (x:=0) (y:=i%b)
  rw[List.length_replicate]at hset
  have w2:w64 ((j:Int)-1)=(j:Int)-1:=AE (by omega) (by omega)
  have hle:=Nat.div_le_self i b
  rw[e1,hz]
  simp only[DK,M1 hi,M3,Ae,hlen,CY,hset,w2]
  rw[if_pos (by simp),if_pos (by omega),if_pos trivial,if_pos (by omega),ih (i/b) f _ (by omega) (by omega) (by omega)]
  simp[dg]
theorem GH {b k i:Nat} (hb:0<b) (hk:k<=1000) (hi:i<4611686018427387904):FE (b:Int) (k:Int) (i:Int)=some (cI (dg b k i)):=by
 have h:=La hb k i Aa [] (by unfold Aa;omega) hi hk
 have e:cI (List.replicate k 0++ [])=List.replicate (Int.toNat (k:Int)) (0:Int):=by unfold cI;simp
 rw[e,List.append_nil]at h
 unfold FE
 rw[AE (x:=(k:Int)-1) (by omega) (by omega),h,if_pos (by unfold lim;omega)];rfl
def PL (n k:Nat) (r:AT) (i:Nat):List Nat:=(List.range r.1.toNat).map λj=>atF n r.2 j (dg r.2.length k i)
def BJ (l:List Nat):Nat:=l.foldl max 0
theorem Gx: ∀(l:List Nat) (a:Nat),a<=l.foldl max a/\ ∀x∈l,x<=l.foldl max a
 | [],a=>⟨Nat.le_refl _,λx h=>by simp at h⟩
 |y::l,a=>by
  obtain⟨h1,h2⟩:=Gx l (max a y)
  refine⟨by rw[List.foldl_cons];omega,λx hx=>?_⟩
  rw[List.foldl_cons]
  rcases List.mem_cons.1 hx with rfl|hx
  ·omega
  ·exact h2 x hx
theorem Im {l:List Nat} {b:Nat} (hb:0<b) (h: ∀x∈l,x<b):BJ l<b:=by
 unfold BJ
 have key: ∀(l:List Nat) (a:Nat),a<b->(∀x∈l,x<b)->l.foldl max a<b:=by
  intro l
  induction l with
  |nil=>intro a ha _;exact ha
  |cons y l ih=>intro a ha hl;rw[List.foldl_cons];exact ih _ (by have:=hl y (by simp);omega) λx hx=>hl x (List.mem_cons_of_mem _ hx)
 exact key l 0 hb h
section
variable {n k m:Nat} {r:AT}
theorem ROk.vt_lt (h:ROk n m r) {x j:Nat} (hx:x<r.2.length) (hj:j<m):vt r.2 x j<n/\(r.2.getD x []).getD j 0=((vt r.2 x j:Nat):Int)/\j<(r.2.getD x []).length:=by
 have hmem:r.2[x]∈r.2:=List.getElem_mem hx
 have hl:=h.tl _ hmem
 have hj':j<(r.2[x]).length:=by omega
 have hv:=h.tv _ hmem _ (List.getElem_mem hj')
 unfold vt
 rw[Ag hx,Ag hj']
 exact⟨by omega,by omega,by omega⟩
theorem ROk.at_lt (h:ROk n m r) {j:Nat} (hj:j<m) (a:List Nat) (ha: ∀x∈a,x<r.2.length):atF n r.2 j a<n^a.length:=by
 have:=KD (n:=n) (v:=λx=>vt r.2 x j) a 0 λx hx=>(h.vt_lt (ha x hx) hj).1
 unfold atF;omega
theorem ROk.pl_lt (h:ROk n m r) {i:Nat} (hb:0<r.2.length): ∀x∈PL n k r i,x<n^k:=λx hx=>by
 unfold PL at hx
 obtain⟨j,hj,rfl⟩:=List.mem_map.1 hx
 have:=h.at_lt (j:=j) (by have:=List.mem_range.1 hj;have:=h.ar;omega) (dg r.2.length k i) (Kz hb)
 rw[Hv]at this
 exact this
theorem ROk.pl_len (h:ROk n m r) {i:Nat}:(PL n k r i).length=m:=by unfold PL;simp;have:=h.ar;omega
end
end T
open Go Go.Va
namespace T
def HP {α:Type} (X:List (List α)) (p:Nat) (d:α):List (List α):=X.set p (X.getD p []++ [d])
theorem IV {α:Type} {X:List (List α)} {p:Nat} {d:α}:(HP X p d).length=X.length:=by unfold HP;simp
theorem Hu {α:Type} {X:List (List α)} {p q:Nat} {d:α} (hp:p<X.length):(HP X p d).getD q []=if q=p then X.getD p []++ [d]else X.getD q []:=by
 unfold HP
 by_cases e:q=p
 ·subst e;rw[if_pos rfl,Ag (by simp;exact hp)];simp
 ·rw[if_neg e]
  simp only[List.getD_eq_getElem?_getD]
  rw[List.getElem?_set_ne (by omega)]
abbrev DT:=List (List (List Int×List ByteArray))
def E3 (n k:Nat) (r:AT) (X:DT×List ByteArray) (i:Nat):DT×List ByteArray:=
 if Ybm X.2 (FG (cI (PL n k r i)))then X else(HP X.1 (BJ (PL n k r i)) (cI (PL n k r i),El r.2),YgL X.2 (FG (cI (PL n k r i))))
def HH (n k:Nat) (D:DT) (r:AT):DT:=((List.range (r.2.length^k)).foldl (E3 n k r) (D,[])).1
abbrev NT:=List (List (List Int×Int×List (List Int)))
def GL (n k:Nat) (r:AT) (X:NT) (i:Nat):NT:=HP X (BJ (PL n k r i)) (cI (PL n k r i),r)
def G6 (n k:Nat) (X:NT) (r:AT):NT:=(List.range (r.2.length^k)).foldl (GL n k r) X
section
variable {n k m:Nat} {r:AT}
theorem Nm (h:ROk n m r) (hn:1<=n/\n<=4) (hk:k<=3) {args:List Nat} (hl:args.length<=3) (ha: ∀x∈args,x<r.2.length) {j:Nat} (hj:j<m) {o:List Int} (ho:j<o.length) (h0:o.getD j 0=0)
  (p q:Int) (D:DT) (t10 t11:List ByteArray) (t12 t15:Int) (t28:List AT) (t29 t30 t56:Int):
  Bl Aa ((),(n:Int),(k:Int),(p,(q,D)),(r.1,r.2),t10,t11,t12,cI args,o,t15,(j:Int),t28,t29,t30,t56,(j:Int),((cI args).length:Int),0)
   =some ((n:Int),(k:Int),(p,(q,D)),(r.1,r.2),t10,t11,t12,cI args,o.set j ((atF n r.2 j args:Nat):Int),t15,(j:Int),t28,t29,t30,t56,(j:Int)):=by
 have:=Ca args.length (λf o i=>Bl f ((),(n:Int),(k:Int),(p,(q,D)),(r.1,r.2),t10,t11,t12,cI args,o,t15,(j:Int),t28,t29,t30,t56,(j:Int),((cI args).length:Int),i)) (λz=>o.set j ((atF n r.2 j (args.take z):Nat):Int))
  (r:=some ((n:Int),(k:Int),(p,(q,D)),(r.1,r.2),t10,t11,t12,cI args,o.set j ((atF n r.2 j args:Nat):Int),t15,(j:Int),t28,t29,t30,t56,(j:Int))) (λf z hz=>?_) (λf=>?_) (n:=Aa) (by unfold Aa;omega)
 ·have e:o.set j ((atF n r.2 j (args.take 0):Nat):Int)=o:=by
   have:((atF n r.2 j (args.take 0):Nat):Int)=o[j]:=by rw[Ag ho]at h0;rw[h0];rfl
   rw[this,List.set_getElem_self]
  rw[e]at this
  exact this
 ·have hzc:z<(cI args).length:=by rw[Dz];exact hz
  have hx:=ha _ (List.getElem_mem hz)
  have hg:(cI args).getD z 0=((args[z]:Nat):Int):=by rw[Ag hzc];simp[cI]
  obtain⟨v1,v2,v3⟩:=h.vt_lt hx hj
  have hlt:=h.at_lt hj (args.take z) λx hx=>ha x (List.mem_of_mem_take hx)
  have hp:=Dx (n:=n) (k:=(args.take z).length) hn.2 (by rw[List.length_take];omega)
  have hstep:=Ht (n:=n) hn.2 (x:=atF n r.2 j (args.take z)) (v:=vt r.2 args[z] j) (by omega) v1
  have htk:args.take (z+1)=args.take z++ [args[z]]:=List.take_succ_eq_append_getElem hz
  have hos:j<(o.set j ((atF n r.2 j (args.take z):Nat):Int)).length:=by simp;exact ho
  have hog:(o.set j ((atF n r.2 j (args.take z):Nat):Int)).getD j 0=((atF n r.2 j (args.take z):Nat):Int):=by rw[Ag hos];simp
  have hoo: ∀y:Int,(o.set j ((atF n r.2 j (args.take z):Nat):Int)).set j y=o.set j y:=λy=>by simp
  simp only[Bl,Ae,hzc,Jm,hg,hos,hog,hx,v3,v2,hstep,CY,hoo,htk,H7,Ac (show z<4611686018427387904 by omega),if_true]
  rw[if_pos (by simp;rw[Dz];exact hz)]
 ·simp only[Bl,List.take_length]
  rw[if_neg (by rw[Dz];simp)]
theorem Ji {i j:Nat} (hj:j<(PL n k r i).length):(PL n k r i)[j]=atF n r.2 j (dg r.2.length k i):=by simp[PL]
theorem Io {l:List Nat} {j:Nat} (hj:j<l.length):BJ (l.take (j+1))=max (BJ (l.take j)) l[j]:=by
 unfold BJ;rw[List.take_succ_eq_append_getElem hj,List.foldl_append];rfl
theorem LS (a b:Nat):Yht (a:Int) (b:Int)=((max a b:Nat):Int):=by
 unfold Yht
 by_cases h:b>a
 ·rw[if_pos (by omega)];omega
 ·rw[if_neg (by omega)];omega
theorem Nl (h:ROk n m r) (hn:1<=n/\n<=4) (hk:k<=3) (hb:0<r.2.length) (i:Nat) (p q:Int) (D:DT) (t10 t11:List ByteArray) (t12:Int) (t28:List AT) (t29 t30:Int):
  Bk Aa ((n:Int),(k:Int),(p,(q,D)),(r.1,r.2),t10,t11,t12,cI (dg r.2.length k i),List.replicate (Int.toNat r.1) (0:Int),0,t28,t29,t30,((List.replicate (Int.toNat r.1) (0:Int)).length:Int),0)
   =some ((n:Int),(k:Int),(p,(q,D)),(r.1,r.2),t10,t11,t12,cI (PL n k r i),((BJ (PL n k r i):Nat):Int),t28,t29,t30):=by
 have hm:=h.hm
 have har:=h.ar
 have hpl:=h.pl_len (k:=k) (i:=i)
 have hrep:List.replicate (Int.toNat r.1) (0:Int)=List.replicate m 0:=by rw[har];simp
 rw[hrep]
 have:=Ca m (λf (s:List Int×Int) j=>Bk f ((n:Int),(k:Int),(p,(q,D)),(r.1,r.2),t10,t11,t12,cI (dg r.2.length k i),s.1,s.2,t28,t29,t30,((List.replicate m (0:Int)).length:Int),j))
  (λj=>(cI ((PL n k r i).take j)++List.replicate (m-j) 0,((BJ ((PL n k r i).take j):Nat):Int)))
  (r:=some ((n:Int),(k:Int),(p,(q,D)),(r.1,r.2),t10,t11,t12,cI (PL n k r i),((BJ (PL n k r i):Nat):Int),t28,t29,t30)) (λf j hj=>?_) (λf=>?_) (n:=Aa) (by unfold Aa;omega)
 ·exact this
 ·have hjl:j<(PL n k r i).length:=by omega
  have htl:((PL n k r i).take j).length=j:=by rw[List.length_take];omega
  have hol:j<(cI ((PL n k r i).take j)++List.replicate (m-j) 0).length:=by rw[List.length_append,Dz,htl];simp;omega
  have hog:(cI ((PL n k r i).take j)++List.replicate (m-j) 0).getD j 0=0:=by
   rw[Ag hol,List.getElem_append_right (by rw[Dz];omega)];simp
  have h17:=Nm h hn hk (args:=dg r.2.length k i) (by rw[Hv];exact hk) (Kz hb) hj hol hog p q D t10 t11 t12 ((BJ ((PL n k r i).take j):Nat):Int) t28 t29 t30 ((List.replicate m (0:Int)).length:Int)
  have hset:(cI ((PL n k r i).take j)++List.replicate (m-j) 0).set j ((atF n r.2 j (dg r.2.length k i):Nat):Int)=cI ((PL n k r i).take (j+1))++List.replicate (m-(j+1)) 0:=by
   rw[List.take_succ_eq_append_getElem hjl,Ji hjl,IX,show m-j=(m-(j+1))+1 by omega,List.replicate_succ,List.set_append_right _ _ (by rw[Dz];omega),Dz,htl]
   simp[cI]
  have hol':j<(cI ((PL n k r i).take (j+1))++List.replicate (m-(j+1)) 0).length:=by rw[←hset];simpa using hol
  have hog':(cI ((PL n k r i).take (j+1))++List.replicate (m-(j+1)) 0).getD j 0=(((PL n k r i)[j]:Nat):Int):=by
   rw[←hset,Ag (by rw[List.length_set];exact hol),Ji hjl];simp
  rw[hset]at h17
  simp only[Bk,h17,Option.bind_some,Ae,hol',Jm,hog',LS,Io hjl,Ac (show j<4611686018427387904 by omega),if_true]
  rw[if_pos (by simp;omega)]
 ·have e:(PL n k r i).take m=PL n k r i:=List.take_of_length_le (by omega)
  simp only[Bk,e]
  rw[if_neg (by simp)];simp
theorem Ll (X:DT×List ByteArray) (i:Nat):(E3 n k r X i).1.length=X.1.length:=by unfold E3;split<;>simp[IV]
theorem GN: ∀(l:List Nat) (X:DT×List ByteArray),(l.foldl (E3 n k r) X).1.length=X.1.length
 | [],X=>rfl
 |i::l,X=>by rw[List.foldl_cons,GN l];exact Ll X i
theorem J1 (D:DT):(HH n k D r).length=D.length:=GN _ _
def FB {α:Type} (X:List (List α)) (B:Nat):Prop:= ∀p,(X.getD p []).length<=B
theorem H5 {α:Type} {X:List (List α)} {B:Nat} (h:FB X B) {p:Nat} {d:α}:FB (HP X p d) (B+1):=λq=>by
 rcases Nat.lt_or_ge p X.length with hp|hp
 ·rw[Hu hp]
  have h1:=h p
  have h2:=h q
  split
  ·rw[List.length_append,List.length_singleton];omega
  ·omega
 ·unfold HP;rw[List.set_eq_of_length_le hp];have:=h q;omega
theorem Kr {X:DT×List ByteArray} {B:Nat} (h:FB X.1 B) (i:Nat):FB (E3 n k r X i).1 (B+1):=by
 unfold E3
 split
 ·intro p;have:=h p;omega
 ·exact H5 h
theorem G3: ∀(l:List Nat) (X:DT×List ByteArray) (B:Nat),FB X.1 B->FB (l.foldl (E3 n k r) X).1 (B+l.length)
 | [],X,B,h=>h
 |i::l,X,B,h=>by
  have:=G3 l _ _ (Kr (n:=n) (k:=k) (r:=r) h i)
  rw[List.foldl_cons,List.length_cons,show B+(l.length+1)=B+1+l.length by omega]
  exact this
theorem De {α:Type} {f:α->Nat->α} {a:α} {i:Nat}:(List.range (i+1)).foldl f a=f ((List.range i).foldl f a) i:=by rw[List.range_succ,List.foldl_append];rfl
theorem Ix (h:ROk n m r) (hn:1<=n/\n<=4) (hk:k<=3) (hb:0<r.2.length) (i:Nat): ∀x∈cI (PL n k r i),0<=x/\x<256:=λx hx=>by
 unfold cI at hx
 obtain⟨y,hy,rfl⟩:=List.mem_map.1 hx
 have:=h.pl_lt hb y hy
 have:=Dx hn.2 hk
 omega
theorem NI (h:ROk n m r) (hn:1<=n/\n<=4) (hk:k<=3) (hk1:0<k) {D:DT} (hD:D.length=n^k) {B:Nat} (hroom:FB D B) (hB:B<=100000000) (p q:Int) (t28:List AT) (t29 t30:Int):
  AU Aa ((n:Int),(k:Int),(p,(q,D)),(r.1,r.2),El r.2,[],0,t28,t29,t30)
   =some ((n:Int),(k:Int),(p,(q,HH n k D r)),t28,t29,t30):=by
 have hm:=h.hm
 have har:=h.ar
 have hN:=KM h.many hk
 have hmany:=h.many
 have:=Ca (r.2.length^k) (λf (s:DT×List ByteArray) i=>AU f ((n:Int),(k:Int),(p,(q,s.1)),(r.1,r.2),El r.2,s.2,i,t28,t29,t30)) (λi=>(List.range i).foldl (E3 n k r) (D,[]))
  (r:=some ((n:Int),(k:Int),(p,(q,HH n k D r)),t28,t29,t30)) (λf i hi=>?_) (λf=>?_) (n:=Aa) (by unfold Aa;omega)
 ·exact this
 ·have hb:0<r.2.length:=by
   rcases Nat.eq_zero_or_pos r.2.length with e2|e2
   ·rw[e2,Nat.zero_pow hk1]at hi;omega
   ·exact e2
  have hlen:((List.range i).foldl (E3 n k r) (D,[])).1.length=n^k:=by rw[GN];exact hD
  have hro:=G3 (n:=n) (k:=k) (r:=r) (List.range i) (D,[]) B hroom
  rw[List.length_range]at hro
  generalize hX:(List.range i).foldl (E3 n k r) (D,[])=X at hlen hro
  have hlast:BJ (PL n k r i)<X.1.length:=by
   rw[hlen];exact Im (Nat.pow_pos (by omega)) (h.pl_lt hb)
  have hkey:=EM (l:=cI (PL n k r i)) (by rw[Dz,h.pl_len];omega) (Ix h hn hk hb i)
  have h14:=Nl h hn hk hb i p q X.1 (El r.2) X.2 (i:Int) t28 t29 t30
  have hlim:=hro (BJ (PL n k r i))
  rw[De,hX]
  simp only[AU,E8 hmany hk,Ij (k:=k) hb (by omega) (show i<4611686018427387904 by omega),Option.bind_some,h14,hkey,Ae,hlast,Jm,CY,Ac (show i<4611686018427387904 by omega)]
  rw[if_pos (decide_eq_true (show(i:Int)<((r.2.length^k:Nat):Int) from Int.ofNat_lt.2 hi)),if_pos (by unfold lim;omega)]
  unfold E3
  cases Ybm X.2 (FG (cI (PL n k r i)))with
  |true=>simp
  |false=>
   simp only[Bool.not_false,if_true,Bool.false_eq_true,if_false]
   rw[if_pos (by rw[List.length_singleton];unfold lim;omega)]
   rfl
 ·simp only[AU,E8 hmany hk,Option.bind_some]
  rw[if_neg (by simp)];rfl
end
end T
open Go Go.Va
namespace T
structure RelsOk (n k:Nat) (rels:List AT):Prop where
 hn:1<=n/\n<=4
 hk:1<=k/\k<=3
 len:rels.length<=8
 ok: ∀r∈rels,ROk n r.1.toNat r
def EP (n k:Nat) (rels:List AT):DT:=rels.foldl (HH n k) (List.replicate (n^k) [])
def E5 (n k:Nat) (rels:List AT):NT:=rels.foldl (G6 n k) (List.replicate (n^k) [])
section
variable {n k m:Nat} {r:AT} {rels:List AT}
theorem RelsOk.cnt (h:RelsOk n k rels) (hr:r∈rels):r.2.length^k<=262144:=KM (h.ok r hr).many h.hk.2
theorem JC (h:RelsOk n k rels) (t:Nat) (ht:t<=rels.length):((rels.take t).foldl (HH n k) (List.replicate (n^k) [])).length=n^k/\FB ((rels.take t).foldl (HH n k) (List.replicate (n^k) [])) (262144*t):=by
 induction t with
 |zero=>exact⟨by simp,λp=>by simp[List.getD_eq_getElem?_getD,List.getElem?_replicate];split<;>simp⟩
 |succ t ih=>
  obtain⟨h1,h2⟩:=ih (by omega)
  have htl:t<rels.length:=by omega
  rw[List.take_succ_eq_append_getElem htl,List.foldl_append]
  simp only[List.foldl_cons,List.foldl_nil]
  refine⟨by rw[J1];exact h1,λp=>?_⟩
  have h3:=h.cnt (List.getElem_mem htl)
  have:=G3 (n:=n) (k:=k) (r:=rels[t]) (List.range (rels[t].2.length^k)) (_,[]) _ h2 p
  rw[List.length_range]at this
  exact Nat.le_trans this (by omega)
theorem Gh (h:RelsOk n k rels):Ee (n:Int) rels (k:Int)=some (true,(n:Int),(k:Int),EP n k rels):=by
 have hk:=h.hk
 have hn:=h.hn
 have hl:=h.len
 have hp:=Dx (n:=n) (k:=k) hn.2 hk.2
 unfold Ee
 rw[E8 (by omega) hk.2]
 simp only[Option.bind_some]
 have:=Ca rels.length (λf (s:DT) i=>BA f ((n:Int),(k:Int),((n:Int),((k:Int),s)),rels,(rels.length:Int),i)) (λt=>(rels.take t).foldl (HH n k) (List.replicate (n^k) []))
  (r:=some ((n:Int),((k:Int),EP n k rels))) (λf t ht=>?_) (λf=>?_) (n:=Aa) (by unfold Aa;omega)
 ·have e:((rels.take 0).foldl (HH n k) (List.replicate (n^k) []))=List.replicate (Int.toNat ((n^k:Nat):Int)) ([]:List (List Int×List ByteArray)):=by rw[Int.toNat_natCast];rfl
  rw[e]at this
  have this:BA Aa ((n:Int),(k:Int),((n:Int),((k:Int),List.replicate (Int.toNat ((n^k:Nat):Int)) ([]:List (List Int×List ByteArray)))),rels,(rels.length:Int),0)=_:=this
  rw[this,if_pos (by unfold lim;omega)];rfl
 ·have hr:=h.ok _ (List.getElem_mem ht)
  obtain⟨h1,h2⟩:=JC h t (by omega)
  have hm:=hr.hm
  have h8:=NI hr hn hk.2 (by omega) h1 h2 (by omega) (n:Int) (k:Int) rels (rels.length:Int) (t:Int)
  have hts:=FO (r:=rels[t]) (by have:=hr.many;omega) (λu hu=>⟨by have:=hr.tl u hu;omega,λx hx=>by have:=hr.tv u hu x hx;omega⟩)
  have hts:DW (rels[t].1,rels[t].2)=_:=hts
  have htk:(rels.take (t+1)).foldl (HH n k) (List.replicate (n^k) [])=HH n k ((rels.take t).foldl (HH n k) (List.replicate (n^k) [])) rels[t]:=by
   rw[List.take_succ_eq_append_getElem ht,List.foldl_append];rfl
  simp only[BA,Ae,ht,Af ht,hts,Option.bind_some,h8,htk,Ac (show t<4611686018427387904 by omega)]
  rw[if_pos (by simp;omega)];rfl
 ·simp only[BA,List.take_length]
  rw[if_neg (by simp)];rfl
theorem Nj (h:ROk n m r) (hn:1<=n/\n<=4) {t:Nat} (ht:t<rels.length) (er:rels[t]=r) {args:List Nat} (hl:args.length<=3) (ha: ∀x∈args,x<r.2.length) {j:Nat} (hj:j<m)
  (t7:NT) (t10 t11:Int) (t13:List Int×Int×List (List Int)) (t14:Int):
  Cg Aa ((n:Int),rels,(args.length:Int),t7,(t:Int),t10,t11,cI args,(t13.1,(t13.2.1,t13.2.2)),t14,(j:Int),0,0)
   =some ((n:Int),rels,(args.length:Int),t7,(t:Int),t10,t11,cI args,(t13.1,(t13.2.1,t13.2.2)),t14,(j:Int),((atF n r.2 j args:Nat):Int)):=by
 have:=Ca args.length (λf (s:Int) i=>Cg f ((n:Int),rels,(args.length:Int),t7,(t:Int),t10,t11,cI args,(t13.1,(t13.2.1,t13.2.2)),t14,(j:Int),s,i)) (λz=>((atF n r.2 j (args.take z):Nat):Int))
  (r:=some ((n:Int),rels,(args.length:Int),t7,(t:Int),t10,t11,cI args,(t13.1,(t13.2.1,t13.2.2)),t14,(j:Int),((atF n r.2 j args:Nat):Int))) (λf z hz=>?_) (λf=>?_) (n:=Aa) (by unfold Aa;omega)
 ·exact this
 ·have hzc:z<(cI args).length:=by rw[Dz];exact hz
  have hx:=ha _ (List.getElem_mem hz)
  have hg:(cI args).getD z 0=((args[z]:Nat):Int):=by rw[Ag hzc];simp[cI]
  obtain⟨v1,v2,v3⟩:=h.vt_lt hx hj
  have hlt:=h.at_lt hj (args.take z) λx hx=>ha x (List.mem_of_mem_take hx)
  have hp:=Dx (n:=n) (k:=(args.take z).length) hn.2 (by rw[List.length_take];omega)
  have hstep:=Ht (n:=n) hn.2 (x:=atF n r.2 j (args.take z)) (v:=vt r.2 args[z] j) (by omega) v1
  have htk:args.take (z+1)=args.take z++ [args[z]]:=List.take_succ_eq_append_getElem hz
  simp only[Cg,Ae,ht,Af ht,er,hzc,Jm,hg,hx,v3,v2,hstep,htk,H7,Ac (show z<4611686018427387904 by omega),if_true]
  rw[if_pos (by simp;omega)]
 ·simp only[Cg,List.take_length]
  rw[if_neg (by simp)]
theorem HV (a b:Nat):DH (a:Int) (b:Int)=some ((max a b:Nat):Int):=by
 unfold DH
 by_cases h:(a:Int)>(b:Int)
 ·rw[if_pos (by simpa using h)];congr 2;omega
 ·rw[if_neg (by simpa using h)];congr 2;omega
theorem Ni (h:ROk n m r) (hn:1<=n/\n<=4) (hk:k<=3) (hb:0<r.2.length) {t:Nat} (ht:t<rels.length) (er:rels[t]=r) (i:Nat) (t7:NT) (t10 t11:Int) (q:Int×List (List Int)):
  Cf Aa ((n:Int),rels,(k:Int),t7,(t:Int),t10,t11,cI (dg r.2.length k i),([],(q.1,q.2)),0,0)
   =some ((n:Int),rels,(k:Int),t7,(t:Int),t10,t11,(cI (PL n k r i),(q.1,q.2)),((BJ (PL n k r i):Nat):Int)):=by
 have hm:=h.hm
 have har:=h.ar
 have hpl:=h.pl_len (k:=k) (i:=i)
 have:=Ca m (λf (s:List Int×Int) j=>Cf f ((n:Int),rels,(k:Int),t7,(t:Int),t10,t11,cI (dg r.2.length k i),(s.1,(q.1,q.2)),s.2,j))
  (λj=>(cI ((PL n k r i).take j),((BJ ((PL n k r i).take j):Nat):Int)))
  (r:=some ((n:Int),rels,(k:Int),t7,(t:Int),t10,t11,(cI (PL n k r i),(q.1,q.2)),((BJ (PL n k r i):Nat):Int))) (λf j hj=>?_) (λf=>?_) (n:=Aa) (by unfold Aa;omega)
 ·exact this
 ·have hjl:j<(PL n k r i).length:=by omega
  have htl:((PL n k r i).take j).length=j:=by rw[List.length_take];omega
  have h21:=Nj h hn ht er (args:=dg r.2.length k i) (by rw[Hv];exact hk) (Kz hb) hj t7 t10 t11 (cI ((PL n k r i).take j),(q.1,q.2)) ((BJ ((PL n k r i).take j):Nat):Int)
  rw[Hv]at h21
  have e1:cI ((PL n k r i).take (j+1))=cI ((PL n k r i).take j)++ [((atF n r.2 j (dg r.2.length k i):Nat):Int)]:=by
   rw[List.take_succ_eq_append_getElem hjl,Ji hjl,IX];rfl
  have e2:BJ ((PL n k r i).take (j+1))=max (BJ ((PL n k r i).take j)) (atF n r.2 j (dg r.2.length k i)):=by rw[Io hjl,Ji hjl]
  simp only[Cf,Ae,ht,Af ht,er,har,h21,Option.bind_some,HV,e1,e2,Ac (show j<4611686018427387904 by omega),if_true]
  rw[if_pos (by simp;omega),if_pos (by rw[Dz,htl,List.length_singleton];unfold lim;omega)]
 ·have e:(PL n k r i).take m=PL n k r i:=List.take_of_length_le (by omega)
  simp only[Cf,Ae,ht,Af ht,er,har,e,if_true]
  rw[if_neg (by simp)]
theorem Lm (X:NT) (i:Nat):(GL n k r X i).length=X.length:=IV
theorem FL: ∀(l:List Nat) (X:NT),(l.foldl (GL n k r) X).length=X.length
 | [],X=>rfl
 |i::l,X=>by rw[List.foldl_cons,FL l];exact Lm X i
theorem G4: ∀(l:List Nat) (X:NT) (B:Nat),FB X B->FB (l.foldl (GL n k r) X) (B+l.length)
 | [],X,B,h=>h
 |i::l,X,B,h=>by
  have:=G4 l _ _ (H5 (p:=BJ (PL n k r i)) (d:=(cI (PL n k r i),r)) h)
  rw[List.foldl_cons,List.length_cons,show B+(l.length+1)=B+1+l.length by omega]
  exact this
theorem Nh (h:ROk n m r) (hn:1<=n/\n<=4) (hk:k<=3) (hk1:0<k) {t:Nat} (ht:t<rels.length) (er:rels[t]=r) {X:NT} (hX:X.length=n^k) {B:Nat} (hroom:FB X B) (hB:B<=100000000):
  Ce Aa ((n:Int),rels,(k:Int),X,(t:Int),(r.2.length:Int),0)=some ((n:Int),rels,(k:Int),G6 n k X r,(t:Int)):=by
 have hm:=h.hm
 have hN:=KM h.many hk
 have hmany:=h.many
 have:=Ca (r.2.length^k) (λf (s:NT) i=>Ce f ((n:Int),rels,(k:Int),s,(t:Int),(r.2.length:Int),i)) (λi=>(List.range i).foldl (GL n k r) X)
  (r:=some ((n:Int),rels,(k:Int),G6 n k X r,(t:Int))) (λf i hi=>?_) (λf=>?_) (n:=Aa) (by unfold Aa;omega)
 ·exact this
 ·have hb:0<r.2.length:=by
   rcases Nat.eq_zero_or_pos r.2.length with e2|e2
   ·rw[e2,Nat.zero_pow hk1]at hi;omega
   ·exact e2
  have hlen:((List.range i).foldl (GL n k r) X).length=n^k:=by rw[FL];exact hX
  have hro:=G4 (n:=n) (k:=k) (r:=r) (List.range i) X B hroom
  rw[List.length_range]at hro
  generalize hY:(List.range i).foldl (GL n k r) X=Y at hlen hro
  have hlast:BJ (PL n k r i)<Y.length:=by
   rw[hlen];exact Im (Nat.pow_pos (by omega)) (h.pl_lt hb)
  have h17:=Ni h hn hk hb ht er i Y (r.2.length:Int) (i:Int) r
  have hlim:=hro (BJ (PL n k r i))
  rw[De,hY]
  simp only[Ce,Fu hmany hk,GH (k:=k) hb (by omega) (show i<4611686018427387904 by omega),Option.bind_some,Ae,ht,Af ht,er,h17,hlast,Jm,CY,Ac (show i<4611686018427387904 by omega),if_true]
  rw[if_pos (decide_eq_true (show(i:Int)<((r.2.length^k:Nat):Int) from Int.ofNat_lt.2 hi)),if_pos (by rw[List.length_singleton];unfold lim;omega)]
  rfl
 ·simp only[Ce,Fu hmany hk,Option.bind_some]
  rw[if_neg (by simp)];rfl
theorem JE (h:RelsOk n k rels) (t:Nat) (ht:t<=rels.length):((rels.take t).foldl (G6 n k) (List.replicate (n^k) [])).length=n^k/\FB ((rels.take t).foldl (G6 n k) (List.replicate (n^k) [])) (262144*t):=by
 induction t with
 |zero=>exact⟨by simp,λp=>by simp[List.getD_eq_getElem?_getD,List.getElem?_replicate];split<;>simp⟩
 |succ t ih=>
  obtain⟨h1,h2⟩:=ih (by omega)
  have htl:t<rels.length:=by omega
  rw[List.take_succ_eq_append_getElem htl,List.foldl_append]
  simp only[List.foldl_cons,List.foldl_nil]
  refine⟨by unfold G6;rw[FL];exact h1,λp=>?_⟩
  have h3:=h.cnt (List.getElem_mem htl)
  have:=G4 (n:=n) (k:=k) (r:=rels[t]) (List.range (rels[t].2.length^k)) _ _ h2 p
  rw[List.length_range]at this
  exact Nat.le_trans this (by omega)
theorem HJ (h:RelsOk n k rels):FH (n:Int) rels (k:Int)=some (E5 n k rels):=by
 have hk:=h.hk
 have hn:=h.hn
 have hl:=h.len
 have hp:=Dx (n:=n) (k:=k) hn.2 hk.2
 unfold FH
 have h3:=Ca (n^k) (λf (s:NT) i=>Cr f ((n:Int),rels,(k:Int),s,i)) (λt=>List.replicate t []) (r:=some ((n:Int),rels,(k:Int),List.replicate (n^k) [])) (λf t ht=>?_) (λf=>?_) (n:=Aa) (by unfold Aa;omega)
 ·have h3:Cr Aa ((n:Int),rels,(k:Int),[],0)=_:=h3
  simp only[h3,Option.bind_some]
  have:=Ca rels.length (λf (s:NT) i=>Cs f ((n:Int),rels,(k:Int),s,i)) (λt=>(rels.take t).foldl (G6 n k) (List.replicate (n^k) [])) (r:=some (E5 n k rels)) (λf t ht=>?_) (λf=>?_) (n:=Aa) (by unfold Aa;omega)
  ·have e:((rels.take 0).foldl (G6 n k) (List.replicate (n^k) []))=List.replicate (n^k) []:=by simp
   rw[e]at this
   have this:Cs Aa ((n:Int),rels,(k:Int),List.replicate (n^k) [],0)=_:=this
   rw[this];rfl
  ·have hr:=h.ok _ (List.getElem_mem ht)
   obtain⟨h1,h2⟩:=JE h t (by omega)
   have h11:=Nh hr hn hk.2 (by omega) ht rfl h1 h2 (by omega)
   have htk:(rels.take (t+1)).foldl (G6 n k) (List.replicate (n^k) [])=G6 n k ((rels.take t).foldl (G6 n k) (List.replicate (n^k) [])) rels[t]:=by
    rw[List.take_succ_eq_append_getElem ht,List.foldl_append];rfl
   simp only[Cs,Ae,ht,Af ht,Option.bind_some,h11,htk,Ac (show t<4611686018427387904 by omega)]
   rw[if_pos (by simp;omega)];rfl
  ·simp only[Cs,List.take_length]
   rw[if_neg (by simp)];rfl
 ·simp only[Cr,Fu (show n<=64 by omega) hk.2,Option.bind_some,List.replicate_succ',Ac (show t<4611686018427387904 by omega)]
  rw[if_pos (decide_eq_true (show(t:Int)<((n^k:Nat):Int) from Int.ofNat_lt.2 ht)),if_pos (by simp;unfold lim;omega)]
 ·simp only[Cr,Fu (show n<=64 by omega) hk.2,Option.bind_some]
  rw[if_neg (by simp)]
end
end T
open Go Go.Va
namespace T
section
variable {n k m:Nat} {r:AT} {rels:List AT}
theorem Ju (h:ROk n m r) (hn:1<=n/\n<=4) (hk1:0<k) {i:Nat} (hi:i<r.2.length^k):BJ (PL n k r i)<n^k:=by
 have hb:0<r.2.length:=by
  rcases Nat.eq_zero_or_pos r.2.length with e2|e2
  ·rw[e2,Nat.zero_pow hk1]at hi;omega
  ·exact e2
 exact Im (Nat.pow_pos (by omega)) (h.pl_lt hb)
theorem K6 (h:ROk n m r) (hn:1<=n/\n<=4) (hk1:0<k) {X:NT} (hX:X.length=n^k): ∀(i:Nat),i<=r.2.length^k-> ∀at' d,d∈((List.range i).foldl (GL n k r) X).getD at' []↔d∈X.getD at' []∨ ∃j,j<i/\BJ (PL n k r j)=at'/\d=(cI (PL n k r j),r):=by
 intro i
 induction i with
 |zero=>intro _ a d;simp
 |succ i ih=>
  intro hi a d
  have hlen:((List.range i).foldl (GL n k r) X).length=n^k:=by rw[FL];exact hX
  have hl:=Ju h hn hk1 (i:=i) (by omega)
  have ih:=ih (by omega)
  rw[De]
  generalize (List.range i).foldl (GL n k r) X=Y at ih hlen
  unfold GL
  rw[Hu (by rw[hlen];exact hl)]
  by_cases e:a=BJ (PL n k r i)
  ·rw[if_pos e,List.mem_append,←e,ih,List.mem_singleton]
   constructor
   ·rintro ((h1|⟨j,h1,h2⟩)|h1)
    ·exact .inl h1
    ·exact .inr ⟨j,by omega,h2⟩
    ·exact .inr ⟨i,by omega,e.symm,h1⟩
   ·rintro (h1|⟨j,h1,h2,h3⟩)
    ·exact .inl (.inl h1)
    ·by_cases e2:j=i
     ·subst e2;exact .inr h3
     ·exact .inl (.inr ⟨j,by omega,h2,h3⟩)
  ·rw[if_neg e,ih]
   constructor
   ·rintro (h1|⟨j,h1,h2⟩)
    ·exact .inl h1
    ·exact .inr ⟨j,by omega,h2⟩
   ·rintro (h1|⟨j,h1,h2,h3⟩)
    ·exact .inl h1
    ·by_cases e2:j=i
     ·subst e2;exact absurd h2.symm e
     ·exact .inr ⟨j,by omega,h2,h3⟩
theorem L0 {X:NT}:(G6 n k X r).length=X.length:=by unfold G6;rw[FL]
theorem Ie (hn:1<=n/\n<=4) (hk1:0<k): ∀(l:List AT) (X:NT),X.length=n^k->(∀r∈l,ROk n r.1.toNat r)-> ∀at' d,d∈(l.foldl (G6 n k) X).getD at' []↔d∈X.getD at' []∨ ∃r∈l,∃j,j<r.2.length^k/\BJ (PL n k r j)=at'/\d=(cI (PL n k r j),r)
 | [],X,_,_,a,d=>by simp
 |r::l,X,hX,hl,a,d=>by
  rw[List.foldl_cons,Ie hn hk1 l _ (by rw[L0];exact hX) (λr hr=>hl r (List.mem_cons_of_mem _ hr))]
  unfold G6
  rw[K6 (hl r (by simp)) hn hk1 hX _ (Nat.le_refl _)]
  constructor
  ·rintro ((h1|⟨j,h1⟩)|⟨q,h1,h2⟩)
   ·exact .inl h1
   ·exact .inr ⟨r,by simp,j,h1⟩
   ·exact .inr ⟨q,by simp[h1],h2⟩
  ·rintro (h1|⟨q,h1,h2⟩)
   ·exact .inl (.inl h1)
   ·rcases List.mem_cons.1 h1 with rfl|h1
    ·exact .inl (.inr h2)
    ·exact .inr ⟨q,h1,h2⟩
theorem J3 {α:Type} {N a:Nat} {d:α}: ¬d∈(List.replicate N ([]:List α)).getD a []:=by
 simp[List.getD_eq_getElem?_getD,List.getElem?_replicate];split<;>simp
theorem JG (h:RelsOk n k rels) (at':Nat) (d):d∈(E5 n k rels).getD at' []↔ ∃r∈rels,∃j,j<r.2.length^k/\BJ (PL n k r j)=at'/\d=(cI (PL n k r j),r):=by
 unfold E5
 rw[Ie h.hn h.hk.1 rels _ (by simp) h.ok]
 constructor
 ·rintro (h1|h1)
  ·exact absurd h1 J3
  ·exact h1
 ·exact .inr
theorem M8 {a b:List Nat} (h:cI a=cI b):a=b:=by
 unfold cI at h
 exact List.map_inj_right (λx y e=>by exact Int.ofNat_inj.1 e)|>.1 h
theorem K5 (h:ROk n m r) (hn:1<=n/\n<=4) (hk:k<=3) (hk1:0<k) {X:DT} (hX:X.length=n^k): ∀(i:Nat),i<=r.2.length^k->
  (∀at' d,d∈((List.range i).foldl (E3 n k r) (X,[])).1.getD at' []↔d∈X.getD at' []∨ ∃j,j<i/\BJ (PL n k r j)=at'/\d=(cI (PL n k r j),El r.2))/\
  (∀s,s∈((List.range i).foldl (E3 n k r) (X,[])).2↔ ∃j,j<i/\s=FG (cI (PL n k r j))):=by
 intro i
 induction i with
 |zero=>intro _;exact⟨λa d=>by simp,λs=>by simp⟩
 |succ i ih=>
  intro hi
  obtain⟨ih1,ih2⟩:=ih (by omega)
  have hlen:((List.range i).foldl (E3 n k r) (X,[])).1.length=n^k:=by rw[GN];exact hX
  have hl:=Ju h hn hk1 (i:=i) (by omega)
  have hb:0<r.2.length:=by
   rcases Nat.eq_zero_or_pos r.2.length with e2|e2
   ·rw[e2,Nat.zero_pow hk1]at hi;omega
   ·exact e2
  rw[De]
  generalize (List.range i).foldl (E3 n k r) (X,[])=Y at ih1 ih2 hlen
  unfold E3
  by_cases hc:Ybm Y.2 (FG (cI (PL n k r i)))=true
  ·rw[if_pos hc]
   obtain⟨j0,hj0,e0⟩:=(ih2 _).1 (Iq.1 hc)
   have e1:=JU (Ix h hn hk hb i) (Ix h hn hk hb j0) e0
   have e2:=M8 e1
   refine⟨λa d=>?_,λs=>?_⟩
   ·rw[ih1]
    constructor
    ·rintro (h1|⟨j,h1,h2⟩)
     ·exact .inl h1
     ·exact .inr ⟨j,by omega,h2⟩
    ·rintro (h1|⟨j,h1,h2,h3⟩)
     ·exact .inl h1
     ·by_cases e3:j=i
      ·subst e3;exact .inr ⟨j0,hj0,by rw[←e2];exact h2,by rw[←e2];exact h3⟩
      ·exact .inr ⟨j,by omega,h2,h3⟩
   ·rw[ih2]
    constructor
    ·rintro ⟨j,h1,h2⟩;exact⟨j,by omega,h2⟩
    ·rintro ⟨j,h1,h2⟩
     by_cases e3:j=i
     ·subst e3;exact⟨j0,hj0,by rw[←e2];exact h2⟩
     ·exact⟨j,by omega,h2⟩
  ·rw[if_neg hc]
   refine⟨λa d=>?_,λs=>?_⟩
   ·rw[Hu (by rw[hlen];exact hl)]
    by_cases e:a=BJ (PL n k r i)
    ·rw[if_pos e,List.mem_append,←e,ih1,List.mem_singleton]
     constructor
     ·rintro ((h1|⟨j,h1,h2⟩)|h1)
      ·exact .inl h1
      ·exact .inr ⟨j,by omega,h2⟩
      ·exact .inr ⟨i,by omega,e.symm,h1⟩
     ·rintro (h1|⟨j,h1,h2,h3⟩)
      ·exact .inl (.inl h1)
      ·by_cases e2:j=i
       ·subst e2;exact .inr h3
       ·exact .inl (.inr ⟨j,by omega,h2,h3⟩)
    ·rw[if_neg e,ih1]
     constructor
     ·rintro (h1|⟨j,h1,h2⟩)
      ·exact .inl h1
      ·exact .inr ⟨j,by omega,h2⟩
     ·rintro (h1|⟨j,h1,h2,h3⟩)
      ·exact .inl h1
      ·by_cases e2:j=i
       ·subst e2;exact absurd h2.symm e
       ·exact .inr ⟨j,by omega,h2,h3⟩
   ·rw[JW,ih2]
    constructor
    ·rintro (⟨j,h1,h2⟩|h1)
     ·exact⟨j,by omega,h2⟩
     ·exact⟨i,by omega,h1⟩
    ·rintro ⟨j,h1,h2⟩
     by_cases e2:j=i
     ·subst e2;exact .inr h2
     ·exact .inl ⟨j,by omega,h2⟩
theorem Ic (hn:1<=n/\n<=4) (hk:k<=3) (hk1:0<k): ∀(l:List AT) (X:DT),X.length=n^k->(∀r∈l,ROk n r.1.toNat r)-> ∀at' d,d∈(l.foldl (HH n k) X).getD at' []↔d∈X.getD at' []∨ ∃r∈l,∃j,j<r.2.length^k/\BJ (PL n k r j)=at'/\d=(cI (PL n k r j),El r.2)
 | [],X,_,_,a,d=>by simp
 |r::l,X,hX,hl,a,d=>by
  rw[List.foldl_cons,Ic hn hk hk1 l _ (by rw[J1];exact hX) (λr hr=>hl r (List.mem_cons_of_mem _ hr))]
  unfold HH
  rw[(K5 (hl r (by simp)) hn hk hk1 hX _ (Nat.le_refl _)).1]
  constructor
  ·rintro ((h1|⟨j,h1⟩)|⟨q,h1,h2⟩)
   ·exact .inl h1
   ·exact .inr ⟨r,by simp,j,h1⟩
   ·exact .inr ⟨q,by simp[h1],h2⟩
  ·rintro (h1|⟨q,h1,h2⟩)
   ·exact .inl (.inl h1)
   ·rcases List.mem_cons.1 h1 with rfl|h1
    ·exact .inl (.inr h2)
    ·exact .inr ⟨q,h1,h2⟩
theorem JD (h:RelsOk n k rels) (at':Nat) (d):d∈(EP n k rels).getD at' []↔ ∃r∈rels,∃j,j<r.2.length^k/\BJ (PL n k r j)=at'/\d=(cI (PL n k r j),El r.2):=by
 unfold EP
 rw[Ic h.hn h.hk.2 h.hk.1 rels _ (by simp) h.ok]
 constructor
 ·rintro (h1|h1)
  ·exact absurd h1 J3
  ·exact h1
 ·exact .inr
def HD (n k:Nat) (rels:List AT) (at':Nat) (tab:List Int):Bool:=
 rels.all λr=>(List.range (r.2.length^k)).all λj=>!decide (BJ (PL n k r j)=at')||decide ((cI (PL n k r j)).map (B9 tab)∈r.2)
theorem Ln {t:List Int} {x q:Nat} (h:x<q):B9 (t.take q) (x:Int)=B9 t (x:Int):=by
 simp[B9,List.getD_eq_getElem?_getD,List.getElem?_take,h]
theorem I8 {at':Nat} {tab:List Int}:HD n k rels at' (tab.take (at'+1))=HD n k rels at' tab:=by
 unfold HD
 congr 1;funext r;congr 1;funext j
 by_cases e:BJ (PL n k r j)=at'
 ·have:(cI (PL n k r j)).map (B9 (tab.take (at'+1)))=(cI (PL n k r j)).map (B9 tab):=by
   refine List.map_congr_left λx hx=>?_
   unfold cI at hx
   obtain⟨y,hy,rfl⟩:=List.mem_map.1 hx
   have:=(Gx (PL n k r j) 0).2 y hy
   unfold BJ at e
   exact Ln (by omega)
  rw[this]
 ·simp[e]
theorem Mn (h:RelsOk n k rels):(EP n k rels).length=n^k/\FB (EP n k rels) 2097152:=by
 have:=JC h rels.length (Nat.le_refl _)
 rw[List.take_length]at this
 have hl:=h.len
 exact⟨this.1,λp=>by have:=this.2 p;unfold EP;omega⟩
theorem JF (h:RelsOk n k rels):(E5 n k rels).length=n^k/\FB (E5 n k rels) 2097152:=by
 have:=JE h rels.length (Nat.le_refl _)
 rw[List.take_length]at this
 have hl:=h.len
 exact⟨this.1,λp=>by have:=this.2 p;unfold E5;omega⟩
theorem Mt (h:RelsOk n k rels) {tab:List Int} (ht:tab.length=n^k) (hv: ∀x∈tab,0<=x/\x<256) {at':Nat} (ha:at'<n^k):
  Au (true,(n:Int),(k:Int),EP n k rels) tab (at':Int)=some (HD n k rels at' tab):=by
 obtain⟨hlen,hroom⟩:=Mn h
 have hp:=Dx h.hn.2 h.hk.2
 have hkey: ∀d∈(EP n k rels).getD at' [],∃r∈rels,∃j,j<r.2.length^k/\BJ (PL n k r j)=at'/\d=(cI (PL n k r j),El r.2)/\Dc d.1 tab=some (d.1.map (B9 tab))/\DE (d.1.map (B9 tab))=some (FG (d.1.map (B9 tab)))/\Ybm d.2 (FG (d.1.map (B9 tab)))=decide (d.1.map (B9 tab)∈r.2):=λd hd=>by
  obtain⟨r,hr,j,hj,hla,rfl⟩:=(JD h at' d).1 hd
  have hrk:=h.ok r hr
  have hm:=hrk.hm
  have hpl: ∀v∈cI (PL n k r j),0<=v/\v<tab.length:=λv hv=>by
   unfold cI at hv
   obtain⟨y,hy,rfl⟩:=List.mem_map.1 hv
   have:=(Gx (PL n k r j) 0).2 y hy
   unfold BJ at hla
   omega
  have hval: ∀x∈(cI (PL n k r j)).map (B9 tab),0<=x/\x<256:=λx hx=>by
   obtain⟨v,hvv,rfl⟩:=List.mem_map.1 hx
   obtain⟨h1,h2⟩:=hpl v hvv
   have:v.toNat<tab.length:=by omega
   unfold B9
   rw[Ag this]
   exact hv _ (List.getElem_mem this)
  refine⟨r,hr,j,hj,hla,rfl,EW (by rw[Dz,hrk.pl_len];omega) hpl,EM (by rw[List.length_map,Dz,hrk.pl_len];omega) hval,?_⟩
  exact HE (λu hu x hx=>by have:=hrk.tv u hu x hx;have:=h.hn;omega) hval
 have e:HD n k rels at' tab=((EP n k rels).getD at' []).all λd=>Ybm d.2 (FG (d.1.map (B9 tab))):=by
  rw[Bool.eq_iff_iff,List.all_eq_true]
  unfold HD
  simp only[List.all_eq_true,Bool.or_eq_true,Bool.not_eq_true',decide_eq_false_iff_not,decide_eq_true_eq,List.mem_range]
  constructor
  ·intro h1 d hd
   obtain⟨r,hr,j,hj,hla,e1,_,_,h2⟩:=hkey d hd
   rw[h2,decide_eq_true_eq,e1]
   rcases h1 r hr j hj with h3|h3
   ·exact absurd hla h3
   ·exact h3
  ·intro h1 r hr j hj
   by_cases hla:BJ (PL n k r j)=at'
   ·right
    have hd:=(JD h at' (cI (PL n k r j),El r.2)).2 ⟨r,hr,j,hj,hla,rfl⟩
    have h2:=h1 _ hd
    have hrk:=h.ok r hr
    rw[HE (λu hu x hx=>by have:=hrk.tv u hu x hx;have:=h.hn;omega) (λx hx=>by
     obtain⟨v,hvv,rfl⟩:=List.mem_map.1 hx
     unfold cI at hvv
     obtain⟨y,hy,rfl⟩:=List.mem_map.1 hvv
     have:=(Gx (PL n k r j) 0).2 y hy
     unfold BJ at hla
     have hyt:y<tab.length:=by omega
     unfold B9
     rw[Ag (by simpa using hyt)]
     exact hv _ (List.getElem_mem _)),decide_eq_true_eq]at h2
    exact h2
   ·exact .inl hla
 have hgd:gd (EP n k rels) (at':Int) []=(EP n k rels).getD at' []:=rfl
 unfold Au
 simp only[if_true,Ae,hlen,ha,hgd]
 have hro:=hroom at'
 generalize (EP n k rels).getD at' []=l at hkey e hro
 rw[e]
 have:=FR l (λf i=>AL f (tab,l,(l.length:Int),i)) (λd=>Ybm d.2 (FG (d.1.map (B9 tab)))) (.inr false) (.inl ()) (λf i hi=>?_) (λf=>?_) (n:=Aa) (by unfold Aa;omega)
 ·have this:AL Aa (tab,l,(l.length:Int),0)=_:=this
  rw[this]
  cases l.all λd=>Ybm d.2 (FG (d.1.map (B9 tab)))<;>rfl
 ·obtain⟨r,hr,j,hj,hla,e1,h1,h2,_⟩:=hkey _ (List.getElem_mem hi)
  simp only[AL,Ae,hi,Af hi,h1,h2,Option.bind_some,Ac (show i<4611686018427387904 by omega)]
  rw[if_pos (by simp;omega)]
  cases Ybm l[i].2 (FG (l[i].1.map (B9 tab)))<;>simp
 ·simp[AL]
end
end T
open Go Go.Va
namespace T
abbrev PS:=Bool×Int×Int×DT
abbrev SIn (σ:Type):=Int×List Int×σ×PS×List Int×Unit
abbrev KW (σ:Type):=List Int×σ×PS×List Int×Bool
def gL {σ:Type} (rec:SIn σ->Option (KW σ)):Nat->(Int×List Int×σ×PS×List Int×Unit×Int)->Option ((List Int×σ×PS×List Int×Unit)⊕(List Int×σ×PS×List Int×Unit×Bool))
 |0,_=>none
 |n+1,(at_,t1,t2,t3,t4,t5,x)=>
 if t3.1=true then
 if decide (x<t3.2.1)then
 if inb at_ t4 then
 if decide ((gd t4 at_ 0)≥0)then
 if inb at_ t4 then
 if(gd t4 at_ 0) !=x then
 gL rec n (at_,t1,t2,t3,t4,(),w64 (x+1))
 else
 if inb at_ t1 then
 (Au t3 (stt t1 at_ x) at_).bind λr2=>
 if r2 then
 (rec (w64 (at_+1),stt t1 at_ x,t2,t3,t4,())).bind λr3=>
 if !r3.2.2.2.2 then
 some (.inr (r3.1,r3.2.1,r3.2.2.1,r3.2.2.2.1,(),false))
 else
 gL rec n (at_,r3.1,r3.2.1,r3.2.2.1,r3.2.2.2.1,(),w64 (x+1))
 else
 gL rec n (at_,stt t1 at_ x,t2,t3,t4,(),w64 (x+1))
 else none
 else none
 else
 if inb at_ t1 then
 (Au t3 (stt t1 at_ x) at_).bind λr4=>
 if r4 then
 (rec (w64 (at_+1),stt t1 at_ x,t2,t3,t4,())).bind λr5=>
 if !r5.2.2.2.2 then
 some (.inr (r5.1,r5.2.1,r5.2.2.1,r5.2.2.2.1,(),false))
 else
 gL rec n (at_,r5.1,r5.2.1,r5.2.2.1,r5.2.2.2.1,(),w64 (x+1))
 else
 gL rec n (at_,stt t1 at_ x,t2,t3,t4,(),w64 (x+1))
 else none
 else none
 else
 some (.inl (t1,t2,t3,t4,()))
 else none
def KE {σ:Type} (cb:List Int->σ->Option (σ×Bool)) (rec:SIn σ->Option (KW σ)) (x:SIn σ):Option (KW σ):=
 if x.1==(x.2.1.length:Int)then
  (cb x.2.1 x.2.2.1).bind λr1=>some (x.2.1,r1.1,x.2.2.2.1,x.2.2.2.2.1,r1.2)
 else
  (gL rec Aa (x.1,x.2.1,x.2.2.1,x.2.2.2.1,x.2.2.2.2.1,(),0)).bind λs2=>
   match s2 with
   | .inl s3=>some (s3.1,s3.2.1,s3.2.2.1,s3.2.2.2.1,true)
   | .inr s4=>some (s4.1,s4.2.1,s4.2.2.1,s4.2.2.2.1,s4.2.2.2.2.2)
def gF {σ:Type} (cb:List Int->σ->Option (σ×Bool)):Nat->SIn σ->Option (KW σ)
 |0,_=>none
 |d+1,x=>KE cb (gF cb d) x
def BR {σ:Type} (cb:List Int->σ->Option (σ×Bool)):List (List Int)->σ->Option (σ×Bool)
 | [],s=>some (s,true)
 |t::l,s=>match cb t s with|some (s',true)=>BR cb l s'|some (s',false)=>some (s',false)|none=>none
theorem E6 {σ:Type} {cb:List Int->σ->Option (σ×Bool)}: ∀(l l':List (List Int)) (s:σ),BR cb (l++l') s=match BR cb l s with|some (s',true)=>BR cb l' s'|some (s',false)=>some (s',false)|none=>none
 | [],l',s=>rfl
 |t::l,l',s=>by
  simp only[List.cons_append,BR]
  cases hc:cb t s with
  |none=>rfl
  |some q=>
   obtain⟨s',b⟩:=q
   cases b with
   |false=>rfl
   |true=>exact E6 l l' s'
def DQ (given:List Int) (at' x:Nat):Bool:=!(decide (given.getD at' 0≥0)&&given.getD at' 0 !=(x:Int))
def Dh (n:Nat) (given:List Int) (ok:List Int->Bool):Nat->List Int->List (List Int)
 |0,pre=> [pre]
 |m+1,pre=>(List.range n).flatMap λx=>if DQ given pre.length x&&ok (pre++ [(x:Int)])then Dh n given ok m (pre++ [(x:Int)])else []
section
variable {n k:Nat} {rels:List AT} {given:List Int}
def okB (n k:Nat) (rels:List AT) (pre:List Int):Bool:=HD n k rels (pre.length-1) pre
theorem NB (h:RelsOk n k rels) (hg:given.length=n^k) {σ:Type} (cb:List Int->σ->Option (σ×Bool)): ∀(m d at':Nat) (tab:List Int) (s:σ),at'+m=n^k->m<d->tab.length=n^k->(∀x∈tab,0<=x/\x<256)->
    ∀s' b,BR cb (Dh n given (okB n k rels) m (tab.take at')) s=some (s',b)->
    ∃tab':List Int,tab'.length=n^k/\(∀x∈tab',0<=x/\x<256)/\tab'.take at'=tab.take at'/\gF cb d ((at':Int),tab,s,(true,(n:Int),(k:Int),EP n k rels),given,())=some (tab',s',(true,(n:Int),(k:Int),EP n k rels),given,b):=by
  have hn:=h.hn
  have hp:=Dx (n:=n) (k:=k) hn.2 h.hk.2
  intro m
  induction m with
  |zero=>
    intro d a tab s ha hd ht hv s' b hf
    obtain⟨d,rfl⟩: ∃z,d=z+1:=⟨d-1,by omega⟩
    have e:tab.take a=tab:=List.take_of_length_le (by omega)
    rw[e]at hf
    simp only[Dh,BR]at hf
    refine⟨tab,ht,hv,rfl,?_⟩
    simp only[gF,KE]
    rw[if_pos (by simp;omega)]
    cases hc:cb tab s with
    |none=>rw[hc]at hf;exact absurd hf (by simp)
    |some q=>
      obtain⟨s1,b1⟩:=q
      rw[hc]at hf
      have:s1=s'/\b1=b:=by cases b1<;>simpa using hf
      obtain⟨rfl,rfl⟩:=this
      rfl
  |succ m ih=>
    intro d a tab s ha hd ht hv s' b hf
    obtain⟨d,rfl⟩: ∃z,d=z+1:=⟨d-1,by omega⟩
    have hat:a<n^k:=by omega
    have key: ∀(c x f:Nat) (tab1:List Int) (s1:σ),x+c=n->c<f->tab1.length=n^k->(∀x∈tab1,0<=x/\x<256)->tab1.take a=tab.take a-> ∀s' b,
        BR cb ((List.range' x c).flatMap λx=>if DQ given (tab.take a).length x&&okB n k rels (tab.take a++ [(x:Int)])then Dh n given (okB n k rels) m (tab.take a++ [(x:Int)])else []) s1=some (s',b)->
        ∃tab':List Int,tab'.length=n^k/\(∀x∈tab',0<=x/\x<256)/\tab'.take a=tab.take a/\gL (gF cb d) f ((a:Int),tab1,s1,(true,(n:Int),(k:Int),EP n k rels),given,(),(x:Int))=some (if b then .inl (tab',s',(true,(n:Int),(k:Int),EP n k rels),given,())else .inr (tab',s',(true,(n:Int),(k:Int),EP n k rels),given,(),false)):=by
      intro c
      induction c with
      |zero=>
        intro x f tab1 s1 hx hf1 ht1 hv1 htk s' b hf2
        obtain⟨f,rfl⟩: ∃z,f=z+1:=⟨f-1,by omega⟩
        have:s1=s'/\true=b:=by simpa[BR]using hf2
        obtain⟨rfl,rfl⟩:=this
        refine⟨tab1,ht1,hv1,htk,?_⟩
        simp only[gL]
        rw[if_pos trivial,if_neg (by simp;omega)];rfl
      |succ c ihc=>
        intro x f tab1 s1 hx hf1 ht1 hv1 htk s' b hf2
        obtain⟨f,rfl⟩: ∃z,f=z+1:=⟨f-1,by omega⟩
        have hlen:(tab.take a).length=a:=by rw[List.length_take];omega
        have hag:a<given.length:=by omega
        have hat1:a<tab1.length:=by omega
        rw[List.range'_succ,List.flatMap_cons,E6,hlen]at hf2
        rw[hlen]at ihc
        have hset:(tab1.set a (x:Int)).take (a+1)=tab.take a++ [(x:Int)]:=by
          rw[List.take_succ_eq_append_getElem (by simp;omega),List.take_set_of_le (Nat.le_refl _),List.getElem_set_self,htk]
        have hsl:(tab1.set a (x:Int)).length=n^k:=by simp[ht1]
        have hsv: ∀y∈tab1.set a (x:Int),0<=y/\y<256:=λy hy=>by
          rcases List.mem_or_eq_of_mem_set hy with h1|h1
          · exact hv1 y h1
          · subst h1;omega
        have hst:(tab1.set a (x:Int)).take a=tab.take a:=by rw[List.take_set_of_le (Nat.le_refl _),htk]
        have hfit:=Mt h hsl hsv hat
        have hokB:okB n k rels (tab.take a++ [(x:Int)])=HD n k rels a (tab1.set a (x:Int)):=by
          unfold okB
          rw[List.length_append,hlen,List.length_singleton,Nat.add_sub_cancel,←hset,I8]
        have hw:w64 ((x:Int)+1)=((x+1:Nat):Int):=Ac (by omega)
        have hwa:w64 ((a:Int)+1)=((a+1:Nat):Int):=Ac (by omega)
        have step : DQ given a x = true → ∀ R, R = (Au (true, (n : Int), (k : Int), EP n k rels) (tab1.set a (x : Int)) (a : Int)).bind (fun r4 =>
                if r4 then
                  (gF cb d (w64 ((a:Int)+1),tab1.set a (x:Int),s1,(true,(n:Int),(k:Int),EP n k rels),given,())).bind λr5=>
                    if !r5.2.2.2.2 then
                      some (.inr (r5.1,r5.2.1,r5.2.2.1,r5.2.2.2.1,(),false))
                    else
                      gL (gF cb d) f ((a:Int),r5.1,r5.2.1,r5.2.2.1,r5.2.2.2.1,(),w64 ((x:Int)+1))
                else
                  gL (gF cb d) f ((a:Int),tab1.set a (x:Int),s1,(true,(n:Int),(k:Int),EP n k rels),given,(),w64 ((x:Int)+1)))->
            ∃tab':List Int,tab'.length=n^k/\(∀x∈tab',0<=x/\x<256)/\tab'.take a=tab.take a/\R=some (if b then .inl (tab',s',(true,(n:Int),(k:Int),EP n k rels),given,())else .inr (tab',s',(true,(n:Int),(k:Int),EP n k rels),given,(),false)):=by
          intro hm R hR
          rw[hfit]at hR
          simp only[Option.bind_some]at hR
          rw[hm,hokB]at hf2
          cases hfi:HD n k rels a (tab1.set a (x:Int))with
          |false=>
            rw[hfi]at hf2 hR
            simp only[Bool.and_false,Bool.false_eq_true,if_false,BR]at hf2 hR
            rw[hw]at hR
            rw[hR]
            exact ihc (x+1) f _ s1 (by omega) (by omega) hsl hsv hst s' b hf2
          |true=>
            rw[hfi]at hf2 hR
            simp only[Bool.and_true,if_true]at hf2 hR
            rw[hwa]at hR
            cases hq:BR cb (Dh n given (okB n k rels) m (tab.take a++ [(x:Int)])) s1 with
            |none=>rw[hq]at hf2;exact absurd hf2 (by simp)
            |some q=>
              obtain⟨s2,b2⟩:=q
              rw[hq]at hf2
              rw[←hset]at hq
              obtain⟨tab2,h1,h2,h3,h4⟩:=ih d (a+1) _ s1 (by omega) (by omega) hsl hsv s2 b2 hq
              have h3':tab2.take a=tab.take a:=by
                have:=congrArg (List.take a) h3
                rw[List.take_take,List.take_take,Nat.min_eq_left (by omega)]at this
                rw[this,hst]
              rw[h4]at hR
              simp only[Option.bind_some]at hR
              cases b2 with
              |false=>
                have:s2=s'/\false=b:=by simpa using hf2
                obtain⟨rfl,rfl⟩:=this
                refine⟨tab2,h1,h2,h3',?_⟩
                rw[hR];rfl
              |true=>
                simp only[Bool.not_true,Bool.false_eq_true,if_false,hw]at hR
                rw[hR]
                exact ihc (x+1) f tab2 s2 (by omega) (by omega) h1 h2 h3' s' b hf2
        simp only[gL,CY,Ae,hag,hat1,if_true]
        rw[if_pos (by simp;omega)]
        by_cases hc1:gd given (a:Int) 0≥0
        · rw[if_pos (decide_eq_true hc1)]
          by_cases hc2:gd given (a:Int) 0=(x:Int)
          · rw[if_neg (by simpa using hc2)]
            exact step (by unfold DQ;rw[show given.getD a 0=(x:Int) from hc2];simp) _ rfl
          · rw[if_pos (by simpa using hc2),hw]
            have hm:DQ given a x=false:=by
              unfold DQ
              rw[decide_eq_true (show given.getD a 0≥0 from hc1)]
              simp only[Bool.true_and,Bool.not_eq_false',bne_iff_ne];exact hc2
            rw[hm]at hf2
            simp only[Bool.false_and,Bool.false_eq_true,if_false,BR]at hf2
            exact ihc (x+1) f tab1 s1 (by omega) (by omega) ht1 hv1 htk s' b hf2
        · rw[if_neg (by simpa using hc1)]
          exact step (by unfold DQ;rw[decide_eq_false (show¬given.getD a 0≥0 from hc1)];rfl) _ rfl
    simp only[Dh]at hf
    rw[List.range_eq_range']at hf
    obtain⟨tab',h1,h2,h3,h4⟩:=key n 0 Aa tab s (by omega) (by unfold Aa;omega) ht hv rfl s' b hf
    refine⟨tab',h1,h2,h3,?_⟩
    simp only[gF,KE]
    rw[if_neg (by simp;omega)]
    have h4:gL (gF cb d) Aa ((a:Int),tab,s,(true,(n:Int),(k:Int),EP n k rels),given,(),0)=_:=h4
    rw[h4]
    cases b<;>rfl
end
end T
open Go Go.Va
namespace T
section
variable {n k:Nat} {rels:List AT} {given:List Int}
theorem IB {m:Nat} {r:AT} (h:ROk n m r) {t:List Int} (ht:t.length=m):Ek r t=some (decide (t∈r.2)):=by
 have hm:=h.hm
 have har:=h.ar
 have hmany:=h.many
 unfold Ek
 obtain⟨q,h3,_⟩:=Ft (list:=r.2) (t:=t) (k:=m) (by omega) (by omega) h.tl ht h.inc
 rw[if_neg (by simp;omega),h3];rfl
theorem LH (h:RelsOk n k rels) {tab:List Int} {at':Nat} (ht:tab.length=at'+1):DX ((E5 n k rels).getD at' []) tab=some (okB n k rels tab):=by
 obtain⟨hlen,hroom⟩:=JF h
 have hkey: ∀d∈(E5 n k rels).getD at' [],∃r∈rels,∃j,j<r.2.length^k/\BJ (PL n k r j)=at'/\d=(cI (PL n k r j),r)/\(∀v∈d.1,0<=v/\v<tab.length)/\d.1.length<=3/\Ek d.2 (d.1.map (B9 tab))=some (decide (d.1.map (B9 tab)∈d.2.2)):=λd hd=>by
  obtain⟨r,hr,j,hj,hla,rfl⟩:=(JG h at' d).1 hd
  have hrk:=h.ok r hr
  have hm:=hrk.hm
  have hpl: ∀v∈cI (PL n k r j),0<=v/\v<tab.length:=λv hv=>by
   unfold cI at hv
   obtain⟨y,hy,rfl⟩:=List.mem_map.1 hv
   have:=(Gx (PL n k r j) 0).2 y hy
   unfold BJ at hla
   omega
  refine⟨r,hr,j,hj,hla,rfl,hpl,by rw[Dz,hrk.pl_len];omega,IB hrk (by rw[List.length_map,Dz,hrk.pl_len])⟩
 have e:okB n k rels tab=((E5 n k rels).getD at' []).all λd=>decide (d.1.map (B9 tab)∈d.2.2):=by
  rw[Bool.eq_iff_iff,List.all_eq_true]
  unfold okB HD
  rw[show tab.length-1=at' by omega]
  simp only[List.all_eq_true,Bool.or_eq_true,Bool.not_eq_true',decide_eq_false_iff_not,decide_eq_true_eq,List.mem_range]
  constructor
  ·intro h1 d hd
   obtain⟨r,hr,j,hj,hla,e1,_⟩:=hkey d hd
   rw[e1]
   rcases h1 r hr j hj with h3|h3
   ·exact absurd hla h3
   ·exact h3
  ·intro h1 r hr j hj
   by_cases hla:BJ (PL n k r j)=at'
   ·right
    exact h1 _ ((JG h at' (cI (PL n k r j),r)).2 ⟨r,hr,j,hj,hla,rfl⟩)
   ·exact .inl hla
 have hro:=hroom at'
 rw[e]
 generalize (E5 n k rels).getD at' []=l at hkey hro
 unfold DX
 have:=FR l (λf i=>Cp f (l,tab,i)) (λd=>decide (d.1.map (B9 tab)∈d.2.2)) (.inr false) (.inl ()) (λf i hi=>?_) (λf=>?_) (n:=Aa) (by unfold Aa;omega)
 ·have this:Cp Aa (l,tab,0)=_:=this
  rw[this]
  cases l.all λd=>decide (d.1.map (B9 tab)∈d.2.2)<;>rfl
 ·obtain⟨r,hr,j,hj,hla,e1,h1,h2,h3⟩:=hkey _ (List.getElem_mem hi)
  have h6:=Ca l[i].1.length (λf (o:List Int) q=>Cq f (l,tab,(i:Int),o,q)) (λq=>(l[i].1.take q).map (B9 tab)) (r:=some (l,tab,(i:Int),l[i].1.map (B9 tab))) (λf q hq=>?_) (λf=>?_) (n:=Aa) (by unfold Aa;omega)
  ·have h6:Cq Aa (l,tab,(i:Int),[],0)=_:=h6
   simp only[Cp,h6,Option.bind_some,Ae,hi,Af hi,h3,Ac (show i<4611686018427387904 by omega),if_true]
   rw[if_pos (by simp;omega)]
   by_cases hc:l[i].1.map (B9 tab)∈l[i].2.2
   ·rw[decide_eq_true hc];simp
   ·rw[decide_eq_false hc];simp
  ·obtain⟨hv0,hv1⟩:=h1 _ (List.getElem_mem hq)
   have hin:inb l[i].1[q] tab:=⟨hv0,hv1⟩
   have hval:gd tab l[i].1[q] 0=B9 tab l[i].1[q]:=rfl
   have htk:(l[i].1.take (q+1)).map (B9 tab)=(l[i].1.take q).map (B9 tab)++ [B9 tab l[i].1[q]]:=by
    rw[List.take_succ_eq_append_getElem hq,List.map_append];rfl
   simp only[Cq,Ae,hi,Af hi,hq,Af hq,hin,hval,htk,if_true,Ac (show q<4611686018427387904 by omega)]
   rw[if_pos (by simp;omega),if_pos (by simp;unfold lim;omega)]
  ·simp only[Cq,Ae,hi,Af hi,List.take_length,if_true]
   rw[if_neg (by simp)]
 ·simp[Cp]
abbrev SS:=List (List Int)×Int×Int
def E4 (s:SS):Bool:=s.2.2==1&&decide (s.2.1>0)
def sCb (t:List Int) (s:SS):Option (SS×Bool):=
 let s':SS:=(if decide ((s.1.length:Int)<s.2.2)then s.1++ [t]else s.1,s.2.1+1,s.2.2)
 some (s',!E4 s')
theorem I3: ∀(l:List (List Int)) (s s':SS) (b:Bool),BR sCb l s=some (s',b)->s.2.1<=s'.2.1/\s'.2.1<=s.2.1+l.length/\s'.1.length<=s.1.length+l.length/\s'.2.2=s.2.2/\(E4 s=false->b=!E4 s')
 | [],s,s',b,h=>by
  have:s=s'/\true=b:=by simpa[BR]using h
  obtain⟨rfl,rfl⟩:=this
  exact⟨by omega,by simp,by simp,rfl,λh=>by simp[h]⟩
 |t::l,s,s',b,h=>by
  simp only[BR,sCb]at h
  generalize hs1:((if decide ((s.1.length:Int)<s.2.2)then s.1++ [t]else s.1,s.2.1+1,s.2.2):SS)=s1 at h
  have h1:s1.2.1=s.2.1+1:=by rw[←hs1]
  have h2:s1.1.length<=s.1.length+1:=by
   rw[←hs1]
   show(if decide ((s.1.length:Int)<s.2.2)then s.1++ [t]else s.1).length<=_
   split<;>simp
  have h3:s1.2.2=s.2.2:=by rw[←hs1]
  cases hb:E4 s1 with
  |true=>
   rw[hb]at h
   have:s1=s'/\false=b:=by simpa using h
   obtain⟨rfl,rfl⟩:=this
   rw[List.length_cons]
   exact⟨by omega,by omega,by omega,h3,λ_=>by rw[hb];rfl⟩
  |false=>
   rw[hb]at h
   obtain⟨g1,g2,g3,g4,g5⟩:=I3 l s1 s' b h
   rw[List.length_cons]
   exact⟨by omega,by push_cast;omega,by omega,by omega,λ_=>g5 hb⟩
theorem Hx: ∀(l:List (List Int)) (s:SS),∃q,BR sCb l s=some q
 | [],s=>⟨_,rfl⟩
 |t::l,s=>by
  simp only[BR,sCb]
  generalize ((if decide ((s.1.length:Int)<s.2.2)then s.1++ [t]else s.1,s.2.1+1,s.2.2):SS)=s1
  cases hb:E4 s1 with
  |true=>exact⟨_,rfl⟩
  |false=>exact Hx l s1
theorem NC (h:RelsOk n k rels) (hg:given.length=n^k): ∀(m d:Nat) (pre:List Int) (s:SS),pre.length+m=n^k->m<d->E4 s=false->0<=s.2.1->s.2.2<=1000000->s.2.1+(Dh n given (okB n k rels) m pre).length<=4611686018427387904->
    ∀s' b,BR sCb (Dh n given (okB n k rels) m pre) s=some (s',b)->B4 d ((n:Int),E5 n k rels,given,pre,s)=some s':=by
  have hn:=h.hn
  have hp:=Dx (n:=n) (k:=k) hn.2 h.hk.2
  obtain⟨hlenN,_⟩:=JF h
  intro m
  induction m with
  |zero=>
    intro d pre s hpre hd hst h0 hr1 hr2 s' b hf
    obtain⟨d,rfl⟩: ∃z,d=z+1:=⟨d-1,by omega⟩
    simp only[Dh,BR,sCb]at hf
    simp only[B4,EZ]
    simp only[Dh,List.length_singleton]at hr2
    have hs':s'=(if decide ((s.1.length:Int)<s.2.2)then s.1++ [pre]else s.1,s.2.1+1,s.2.2):=by
      cases hb:E4 ((if decide ((s.1.length:Int)<s.2.2)then s.1++ [pre]else s.1,s.2.1+1,s.2.2):SS)<;>rw[hb]at hf<;>simp at hf<;>rw[←hf.1]<;>simp
    have hw:w64 (s.2.1+1)=s.2.1+1:=AE (by omega) (by omega)
    rw[if_pos (by simp;omega),hs',hw,DZ (by omega)]
    by_cases hc:(s.1.length:Int)<s.2.2
    · rw[if_pos (decide_eq_true hc),if_pos (decide_eq_true hc)]
      simp only[Option.bind_some]
      rw[if_pos (by rw[List.length_singleton];unfold lim;omega)]
    · rw[if_neg (by simpa using hc),if_neg (by simpa using hc)]
  |succ m ih=>
    intro d pre s hpre hd hst h0 hr1 hr2 s' b hf
    obtain⟨d,rfl⟩: ∃z,d=z+1:=⟨d-1,by omega⟩
    have hat:pre.length<n^k:=by omega
    have key: ∀(c x f:Nat) (s1:SS),x+c=n->c<f->E4 s1=false->0<=s1.2.1->
        s1.2.2<=1000000->
        s1.2.1+((List.range' x c).flatMap λx=>if DQ given pre.length x&&okB n k rels (pre++ [(x:Int)])then Dh n given (okB n k rels) m (pre++ [(x:Int)])else []).length<=4611686018427387904-> ∀s' b,
        BR sCb ((List.range' x c).flatMap λx=>if DQ given pre.length x&&okB n k rels (pre++ [(x:Int)])then Dh n given (okB n k rels) m (pre++ [(x:Int)])else []) s1=some (s',b)->
        Av (B4 d) f ((n:Int),E5 n k rels,given,pre,s1,([],(0,0)),(pre.length:Int),(x:Int))=some (if b then .inl (s',([],(0,0)))else .inr s'):=by
      intro c
      induction c with
      |zero=>
        intro x f s1 hx hf1 hst1 h01 hr1 hr2 s' b hf2
        obtain⟨f,rfl⟩: ∃z,f=z+1:=⟨f-1,by omega⟩
        have:s1=s'/\true=b:=by simpa[BR]using hf2
        obtain⟨rfl,rfl⟩:=this
        simp only[Av]
        rw[if_neg (by simp;omega)];rfl
      |succ c ihc=>
        intro x f s1 hx hf1 hst1 h01 hr1 hr2 s' b hf2
        obtain⟨f,rfl⟩: ∃z,f=z+1:=⟨f-1,by omega⟩
        have hag:pre.length<given.length:=by omega
        have haN:pre.length<(E5 n k rels).length:=by omega
        rw[List.range'_succ,List.flatMap_cons,E6]at hf2
        rw[List.range'_succ,List.flatMap_cons,List.length_append]at hr2
        have hol:=LH h (tab:=pre++ [(x:Int)]) (at':=pre.length) (by simp)
        have hw:w64 ((x:Int)+1)=((x+1:Nat):Int):=Ac (by omega)
        have step : DQ given pre.length x = true → ∀ R, R = (DX (gd (E5 n k rels) (pre.length : Int) []) (pre ++ [(x : Int)])).bind (fun r6 =>
                  if r6 then
                    (B4 d ((n:Int),E5 n k rels,given,pre++ [(x:Int)],(s1.1,(s1.2.1,s1.2.2)))).bind λr7=>
                      if r7.2.2==1 then
                        if decide (r7.2.1>0)then
                          some (.inr (r7.1,(r7.2.1,r7.2.2)))
                        else
                          Av (B4 d) f ((n:Int),E5 n k rels,given,pre,(r7.1,(r7.2.1,r7.2.2)),([],(0,0)),(pre.length:Int),w64 ((x:Int)+1))
                      else
                        Av (B4 d) f ((n:Int),E5 n k rels,given,pre,(r7.1,(r7.2.1,r7.2.2)),([],(0,0)),(pre.length:Int),w64 ((x:Int)+1))
                  else
                    if s1.2.2==1 then
                      if decide (s1.2.1>0)then
                        some (.inr (s1.1,(s1.2.1,s1.2.2)))
                      else
                        Av (B4 d) f ((n:Int),E5 n k rels,given,pre,(s1.1,(s1.2.1,s1.2.2)),([],(0,0)),(pre.length:Int),w64 ((x:Int)+1))
                    else
                      Av (B4 d) f ((n:Int),E5 n k rels,given,pre,(s1.1,(s1.2.1,s1.2.2)),([],(0,0)),(pre.length:Int),w64 ((x:Int)+1)))->
            R=some (if b then .inl (s',([],(0,0)))else .inr s'):=by
          intro hm R hR
          have hgd:gd (E5 n k rels) (pre.length:Int) []=(E5 n k rels).getD pre.length []:=rfl
          rw[hgd,hol]at hR
          simp only[Option.bind_some,hw]at hR
          rw[hm]at hf2 hr2
          have hnst: ∀(z:SS) {γ:Type} (A B:γ),E4 z=false->(if z.2.2==1 then if decide (z.2.1>0)then A else B else B)=B:=λz γ A B hz=>by
            unfold E4 at hz
            by_cases h1:z.2.2=1
            · rw[if_pos (by simpa using h1),if_neg (by simp[h1]at hz;simpa using hz)]
            · rw[if_neg (by simpa using h1)]
          have hyst: ∀(z:SS) {γ:Type} (A B:γ),E4 z=true->(if z.2.2==1 then if decide (z.2.1>0)then A else B else B)=A:=λz γ A B hz=>by
            unfold E4 at hz
            simp only[Bool.and_eq_true]at hz
            rw[if_pos hz.1,if_pos hz.2]
          cases hfi:okB n k rels (pre++ [(x:Int)])with
          |false=>
            rw[hfi]at hf2 hr2 hR
            simp only[Bool.and_false,Bool.false_eq_true,if_false,BR,List.length_nil,Nat.zero_add]at hf2 hr2 hR
            rw[hnst s1 _ _ hst1]at hR
            rw[hR]
            exact ihc (x+1) f s1 (by omega) (by omega) hst1 h01 hr1 hr2 s' b hf2
          |true=>
            rw[hfi]at hf2 hr2 hR
            simp only[Bool.and_true,if_true]at hf2 hr2 hR
            obtain⟨⟨s2,b2⟩,hq⟩:=Hx (Dh n given (okB n k rels) m (pre++ [(x:Int)])) s1
            obtain⟨g1,g2,g3,g4,g5⟩:=I3 _ _ _ _ hq
            have g5:=g5 hst1
            rw[hq]at hf2
            have hrec:=ih d (pre++ [(x:Int)]) s1 (by simp;omega) (by omega) hst1 h01 (by omega) (by push_cast at hr2;omega) s2 b2 hq
            have hrec:B4 d ((n:Int),E5 n k rels,given,pre++ [(x:Int)],(s1.1,(s1.2.1,s1.2.2)))=some s2:=hrec
            rw[hrec]at hR
            simp only[Option.bind_some]at hR
            cases hb2:E4 s2 with
            |true=>
              rw[hb2]at g5
              subst g5
              have:s2=s'/\false=b:=by simpa using hf2
              obtain⟨rfl,rfl⟩:=this
              rw[hyst s2 _ _ hb2]at hR
              rw[hR];rfl
            |false=>
              rw[hb2]at g5
              subst g5
              rw[hnst s2 _ _ hb2]at hR
              rw[hR]
              exact ihc (x+1) f s2 (by omega) (by omega) hb2 (by omega) (by push_cast at hr2;omega) (by push_cast at hr2;omega) s' b hf2
        simp only[Av,Ae,hag,haN,if_true,DZ (show pre.length<=1099511627775 by omega),Option.bind_some]
        rw[if_pos (by simp;omega)]
        have hlim:pre.length+ [(x:Int)].length<=lim:=by rw[List.length_singleton];unfold lim;omega
        rw[if_pos hlim]
        by_cases hc1:gd given (pre.length:Int) 0≥0
        · rw[if_pos (decide_eq_true hc1)]
          by_cases hc2:gd given (pre.length:Int) 0=(x:Int)
          · rw[if_neg (by simpa using hc2)]
            exact step (by unfold DQ;rw[show given.getD pre.length 0=(x:Int) from hc2];simp) _ rfl
          · rw[if_pos (by simpa using hc2),hw]
            have hm:DQ given pre.length x=false:=by
              unfold DQ
              rw[decide_eq_true (show given.getD pre.length 0≥0 from hc1)]
              simp only[Bool.true_and,Bool.not_eq_false',bne_iff_ne];exact hc2
            rw[hm]at hf2 hr2
            simp only[Bool.false_and,Bool.false_eq_true,if_false,BR,List.length_nil,Nat.zero_add]at hf2 hr2
            exact ihc (x+1) f s1 (by omega) (by omega) hst1 h01 hr1 hr2 s' b hf2
        · rw[if_neg (by simpa using hc1)]
          exact step (by unfold DQ;rw[decide_eq_false (show¬given.getD pre.length 0≥0 from hc1)];rfl) _ rfl
    simp only[Dh]at hf hr2
    rw[List.range_eq_range']at hf hr2
    have h4:=key n 0 Aa s (by omega) (by unfold Aa;omega) hst h0 hr1 hr2 s' b hf
    simp only[B4,EZ]
    rw[if_neg (by simp;omega)]
    have h4:Av (B4 d) Aa ((n:Int),E5 n k rels,given,pre,(s.1,(s.2.1,s.2.2)),([],(0,0)),(pre.length:Int),0)=_:=h4
    rw[h4]
    cases b<;>rfl
end
end T
open Go Go.Va
namespace T
section
variable {n k:Nat} {rels:List AT} {given:List Int}
theorem KA {ok:List Int->Bool}: ∀(m:Nat) (pre:List Int),(Dh n given ok m pre).length<=n^m
 |0,pre=>by simp[Dh]
 |m+1,pre=>by
  simp only[Dh]
  have key: ∀(l:List Nat),(l.flatMap λx=>if DQ given pre.length x&&ok (pre++ [(x:Int)])then Dh n given ok m (pre++ [(x:Int)])else []).length<=l.length*n^m:=by
   intro l
   induction l with
   |nil=>simp
   |cons x l ih=>
    rw[List.flatMap_cons,List.length_append,List.length_cons,Nat.succ_mul]
    have:(if DQ given pre.length x&&ok (pre++ [(x:Int)])then Dh n given ok m (pre++ [(x:Int)])else []).length<=n^m:=by
     split
     ·exact KA m _
     ·simp
    omega
  have:=key (List.range n)
  rw[List.length_range]at this
  rw[Nat.pow_succ,Nat.mul_comm]
  exact this
theorem Jk {ok:List Int->Bool}: ∀(m:Nat) (pre t:List Int),t∈Dh n given ok m pre->t.length=pre.length+m/\((∀x∈pre,0<=x/\x<(n:Int))-> ∀x∈t,0<=x/\x<(n:Int))
 |0,pre,t,h=>by simp only[Dh,List.mem_singleton]at h;subst h;exact⟨rfl,λh=>h⟩
 |m+1,pre,t,h=>by
  simp only[Dh,List.mem_flatMap]at h
  obtain⟨x,hx,h⟩:=h
  have hx:=List.mem_range.1 hx
  split at h
  ·obtain⟨h1,h2⟩:=Jk m _ t h
   refine⟨by rw[h1];simp;omega,λhp=>h2 λy hy=>?_⟩
   rcases List.mem_append.1 hy with h3|h3
   ·exact hp y h3
   ·rw[List.mem_singleton.1 h3];omega
  ·simp at h
def Yhi (n k:Nat) (rels:List AT) (given:List Int):List (List Int):=Dh n given (okB n k rels) (n^k) []
theorem Lo:(Yhi n k rels given).length<=n^n^k:=KA _ _
theorem If {most:Int} (h1:most≠1): ∀(l:List (List Int)) (f:List (List Int)) (c:Int),BR sCb l (f,c,most)=some ((f++l.take (most-f.length).toNat,c+l.length,most),true)
 | [],f,c=>by simp[BR]
 |t::l,f,c=>by
  have hns: ∀(f':List (List Int)) (c':Int),E4 (f',c',most)=false:=λf' c'=>by unfold E4;simp[h1]
  simp only[BR,sCb,hns,Bool.not_false]
  rw[If h1 l]
  by_cases hc:(f.length:Int)<most
  ·rw[if_pos (by simpa using hc)]
   have e1:(most-(f.length:Int)).toNat=(most-((f++ [t]).length:Int)).toNat+1:=by rw[List.length_append,List.length_singleton];omega
   rw[e1,List.take_succ_cons]
   simp;omega
  ·rw[if_neg (by simpa using hc)]
   have e1:(most-(f.length:Int)).toNat=0:=by omega
   rw[e1];simp;omega
theorem IC (h:RelsOk n k rels) (hg:given.length=n^k) (hz:n^n^k<=4611686018427387904) {most:Int} (hm:most<=1000000):
  ∃s b,BR sCb (Yhi n k rels given) ([],0,most)=some (s,b)/\FC (n:Int) rels (k:Int) given most=some s:=by
 obtain⟨⟨s,b⟩,hf⟩:=Hx (Yhi n k rels given) ([],0,most)
 refine⟨s,b,hf,?_⟩
 have:=NC h hg (n^k) Aa [] ([],0,most) (by simp) (by have:=Dx (n:=n) (k:=k) h.hn.2 h.hk.2;unfold Aa;omega) (by unfold E4;simp) (by simp) hm (by have:=Lo (n:=n) (k:=k) (rels:=rels) (given:=given);unfold Yhi at this;simp;omega) s b hf
 unfold FC
 rw[HJ h]
 simp only[Option.bind_some,this]
theorem Mp (h:RelsOk n k rels) (hg:given.length=n^k) {σ:Type} (cb:List Int->σ->Option (σ×Bool)) {s s':σ} {b:Bool} (hf:BR cb (Yhi n k rels given) s=some (s',b)):
  ∃r:KW σ,gF cb Aa (0,List.replicate (Int.toNat (given.length:Int)) (0:Int),s,(true,(n:Int),(k:Int),EP n k rels),given,())=some r/\r.2.1=s':=by
 have hp:=Dx (n:=n) (k:=k) h.hn.2 h.hk.2
 obtain⟨tab',h1,h2,h3,h4⟩:=NB h hg cb (n^k) Aa 0 (List.replicate (Int.toNat (given.length:Int)) (0:Int)) s (by omega) (by unfold Aa;omega) (by rw[List.length_replicate,hg,Int.toNat_natCast]) (λx hx=>by rw[(List.mem_replicate.1 hx).2];omega) s' b hf
 exact⟨_,h4,rfl⟩
def Fi (k:Nat) (l:List (List Int)):Opn×Bool:=match l with| []=>((0,[]),false)|t::_=>(((k:Int),t),true)
end
end T
open Go Go.Va
namespace T
def Je (a:List AT):Prop:=a.length<=1048576/\ ∀r∈a,KO r.2
def G1 (n:Int) (rels:List AT):Bool:=decide (1<=n/\n<=4)&&decide (rels.length<=4)&&rels.all (E9 n)
def Kd (k:Int) (rels:List AT):Bool:=rels.all λr=>!(k==3&&decide ((r.2.length:Int)>12))
theorem Ik {n k:Int} {rels:List AT} (h:Je rels):Gr n rels k=some (G1 n rels&&Kd k rels):=by
 have hl:=h.1
 unfold Gr CU Gc G1
 by_cases h1:1<=n/\n<=4
 ·rw[if_pos (by simp;omega)]
  simp only[Option.bind_some]
  rw[if_neg (by simp;omega)]
  by_cases h2:rels.length<=4
  ·rw[if_neg (by simp;omega)]
   have e1:=FR rels (λf i=>Cw f (n,rels,(rels.length:Int),i)) (E9 n) (.inr false) (.inl ()) (λf i hi=>by
    have:=h.2 _ (List.getElem_mem hi)
    simp only[Cw,Ae,hi,Af hi,Fl (r:=(rels[i].1,rels[i].2)) this,Option.bind_some,Ac (show i<4611686018427387904 by omega)]
    rw[if_pos (by simp;omega)]
    cases E9 n rels[i]<;>simp) (λf=>by simp[Cw]) (n:=Aa) (by unfold Aa;omega)
   have e2:=FR rels (λf i=>C1 f (k,rels,(rels.length:Int),i)) (λr=>!(k==3&&decide ((r.2.length:Int)>12))) (.inr false) (.inl ()) (λf i hi=>by
    simp only[C1,Ae,hi,Af hi,Ac (show i<4611686018427387904 by omega)]
    rw[if_pos (by simp;omega)]
    by_cases c1:k=3
    ·by_cases c2:(rels[i].2.length:Int)>12
     ·simp[c1,c2]
     ·simp[c1,c2]
    ·simp[c1]) (λf=>by simp[C1]) (n:=Aa) (by unfold Aa;omega)
   rw[e1]
   unfold Kd
   cases hr:rels.all (E9 n)with
   |false=>simp
   |true=>
    simp only[Option.bind_some,if_true,Bool.not_true,Bool.false_eq_true,if_false]
    rw[e2]
    cases rels.all λr=>!(k==3&&decide ((r.2.length:Int)>12))<;>simp[h1,h2]
  ·rw[if_pos (by simp;omega)]
   simp[h2]
 ·by_cases h2:n≥1
  ·rw[if_pos (by simpa using h2)]
   have: ¬n<=4:=by omega
   simp[this]
  ·rw[if_neg (by simpa using h2)]
   have: ¬1<=n:=by omega
   simp[this]
theorem HK {n k:Int} {rels:List AT} (h:Je rels):FI n rels k=some (G1 n rels&&decide (1<=k/\k<=3)&&Kd k rels):=by
 have hl:=h.1
 unfold FI Ey Ex G1
 rw[Bt,Bt]
 by_cases h1:1<=n/\n<=4
 ·simp only[Option.bind_some]
  rw[if_neg (by simp;omega)]
  by_cases h2:rels.length<=4
  ·rw[if_neg (by simp;omega)]
   have e1:=FR rels (λf i=>BZ f (n,rels,i)) (E9 n) (.inr false) (.inl ()) (λf i hi=>by
    have:=h.2 _ (List.getElem_mem hi)
    simp only[BZ,Ae,hi,Af hi,EY (n:=n) this (by omega),Option.bind_some,Ac (show i<4611686018427387904 by omega)]
    rw[if_pos (by simp;omega)]
    cases E9 n rels[i]<;>simp) (λf=>by simp[BZ]) (n:=Aa) (by unfold Aa;omega)
   have e2:=FR rels (λf i=>Ct f (rels,k,i)) (λr=>!(k==3&&decide ((r.2.length:Int)>12))) (.inr false) (.inl ()) (λf i hi=>by
    simp only[Ct,Ae,hi,Af hi,Ac (show i<4611686018427387904 by omega)]
    rw[if_pos (by simp;omega)]
    by_cases c1:k=3
    ·by_cases c2:(rels[i].2.length:Int)>12
     ·simp[c1,c2]
     ·simp[c1,c2]
    ·simp[c1]) (λf=>by simp[Ct]) (n:=Aa) (by unfold Aa;omega)
   rw[e1]
   unfold Kd
   cases hr:rels.all (E9 n)with
   |false=>simp
   |true=>
    simp only[Option.bind_some,if_true,Bool.not_true,Bool.false_eq_true,if_false]
    rw[e2]
    by_cases hk:1<=k/\k<=3
    ·rw[if_neg (by simp;omega)]
     cases rels.all λr=>!(k==3&&decide ((r.2.length:Int)>12))<;>simp[h1,h2,hk]
    ·rw[if_pos (by simp;omega)];simp[hk]
  ·rw[if_pos (by simp;omega)]
   simp[h2]
 ·simp[h1]
theorem KU {n:Int} {rels:List AT} (h:G1 n rels=true):(1<=n/\n<=4)/\rels.length<=4/\ ∀r∈rels,ROk n.toNat r.1.toNat r:=by
 unfold G1 at h
 simp only[Bool.and_eq_true,decide_eq_true_eq,List.all_eq_true]at h
 obtain⟨⟨h1,h2⟩,h3⟩:=h
 refine⟨h1,h2,λr hr=>Ns (by omega) ?_⟩
 rw[Int.toNat_of_nonneg (by omega)];exact h3 r hr
theorem MN {n:Int} {rels:List AT} {k:Nat} (h:G1 n rels=true) (hk:1<=k/\k<=3):RelsOk n.toNat k rels:=by
 obtain⟨h1,h2,h3⟩:=KU h
 exact⟨by omega,hk,by omega,h3⟩
theorem LF {N:Nat} (h:N<=1000):Fk (N:Int)=some (List.replicate N (-1)):=by
 unfold Fk
 rw[Int.toNat_natCast,if_pos (by unfold lim;omega)]
 have:=Ca N (λf o i=>Cd f (o,((List.replicate N (0:Int)).length:Int),i)) (λj=>List.replicate j (-1)++List.replicate (N-j) (0:Int)) (r:=some (List.replicate N (-1))) (λf j hj=>?_) (λf=>?_) (n:=Aa) (by unfold Aa;omega)
 ·have this:Cd Aa (List.replicate N (0:Int),((List.replicate N (0:Int)).length:Int),0)=_:=this
  rw[this];rfl
 ·have hin:j<(List.replicate j (-1)++List.replicate (N-j) (0:Int)).length:=by simp;omega
  have e:(List.replicate j (-1)++List.replicate (N-j) (0:Int)).set j (-1)=List.replicate (j+1) (-1)++List.replicate (N-(j+1)) (0:Int):=by
   rw[show N-j=(N-(j+1))+1 by omega,List.replicate_succ,List.set_append_right _ _ (by simp),List.replicate_succ']
   simp
  simp only[Cd,Ae,hin,CY,e,if_true,Ac (show j<4611686018427387904 by omega)]
  rw[if_pos (by simp;omega)]
 ·simp only[Cd]
  rw[if_neg (by simp)];simp
theorem LG {N:Nat} (h:N<=1000):FZ (N:Int)=some (List.replicate N (-1)):=by
 unfold FZ
 have:=Ca N (λf o i=>CH f ((N:Int),o,i)) (λj=>List.replicate j (-1)) (r:=some (List.replicate N (-1))) (λf j hj=>?_) (λf=>?_) (n:=Aa) (by unfold Aa;omega)
 ·have this:CH Aa ((N:Int),[],0)=_:=this
  rw[this];rfl
 ·simp only[CH,List.replicate_succ',Ac (show j<4611686018427387904 by omega)]
  rw[if_pos (by simp;omega),if_pos (by simp;unfold lim;omega)]
 ·simp only[CH]
  rw[if_neg (by simp)]
end T
open Go Go.Va
namespace T
section
variable {n k:Int} {rels:List AT}
def BS (n k x:Nat):Nat:=(List.range k).foldl (λa _=>a*n+x) 0
theorem GQ {n x:Nat} (hx:x<n) (hn:n<=4): ∀k,k<=3->BS n k x<n^k/\BS n k x<=64:=by
 intro k hk
 have: ∀k,BS n k x<n^k:=by
  intro k
  induction k with
  |zero=>simp[BS]
  |succ k ih=>
   have e:BS n (k+1) x=BS n k x*n+x:=by unfold BS;rw[De]
   rw[e,Nat.pow_succ]
   have:(BS n k x+1)*n<=n^k*n:=Nat.mul_le_mul_right _ ih
   rw[Nat.succ_mul]at this
   omega
 have h1:=this k
 have h2:=Dx hn hk
 omega
def CZ (n k:Nat):List Int:=(List.range n).foldl (λo x=>o.set (BS n k x) (x:Int)) (List.replicate (n^k) (-1))
theorem I5 {n k:Nat}:(CZ n k).length=n^k:=by
 unfold CZ
 have: ∀(l:List Nat) (o:List Int),(l.foldl (λo x=>o.set (BS n k x) (x:Int)) o).length=o.length:=by
  intro l
  induction l with
  |nil=>intro o;rfl
  |cons x l ih=>intro o;rw[List.foldl_cons,ih];simp
 rw[this];simp
theorem Hy {n k:Nat}: ∀(l:List Nat) (o:List Int),(l.foldl (λo x=>o.set (BS n k x) (x:Int)) o).length=o.length
 | [],o=>rfl
 |x::l,o=>by rw[List.foldl_cons,Hy l];simp
theorem MA {n k:Nat} (hn:1<=n/\n<=4) (hk:1<=k/\k<=3):CN (n:Int) (k:Int)=some (CZ n k)/\Df (n:Int) (k:Int)=some (CZ n k):=by
 have h64:=Dx hn.2 hk.2
 have i7: ∀(o:List Int) (x:Nat),x<n->AZ Aa ((n:Int),(k:Int),o,(x:Int),0,0)=some ((n:Int),(k:Int),o,(x:Int),((BS n k x:Nat):Int)):=λo x hx=>by
  have:=Ca k (λf s i=>AZ f ((n:Int),(k:Int),o,(x:Int),s,i)) (λi=>((BS n i x:Nat):Int)) (r:=some ((n:Int),(k:Int),o,(x:Int),((BS n k x:Nat):Int))) (λf i hi=>by
   have e:BS n (i+1) x=BS n i x*n+x:=by unfold BS;rw[De]
   have:=GQ hx hn.2 i (by omega)
   simp only[AZ,Ht hn.2 this.2 hx,e,Ac (show i<4611686018427387904 by omega)]
   rw[if_pos (by simp;omega)]) (λf=>by simp[AZ]) (n:=Aa) (by unfold Aa;omega)
  exact this
 have s7: ∀(o:List Int) (x:Nat),x<n->BG Aa ((n:Int),(k:Int),o,(x:Int),0,0)=some ((n:Int),(k:Int),o,(x:Int),((BS n k x:Nat):Int)):=λo x hx=>by
  have:=Ca k (λf s i=>BG f ((n:Int),(k:Int),o,(x:Int),s,i)) (λi=>((BS n i x:Nat):Int)) (r:=some ((n:Int),(k:Int),o,(x:Int),((BS n k x:Nat):Int))) (λf i hi=>by
   have e:BS n (i+1) x=BS n i x*n+x:=by unfold BS;rw[De]
   have:=GQ hx hn.2 i (by omega)
   simp only[BG,Ht hn.2 this.2 hx,e,Ac (show i<4611686018427387904 by omega)]
   rw[if_pos (by simp;omega)]) (λf=>by simp[BG]) (n:=Aa) (by unfold Aa;omega)
  exact this
 have i3:=Ca n (λf o x=>AY f ((n:Int),(k:Int),o,x)) (λj=>(List.range j).foldl (λo x=>o.set (BS n k x) (x:Int)) (List.replicate (n^k) (-1))) (r:=some (CZ n k)) (λf x hx=>by
  have h1:=GQ hx hn.2 k hk.2
  have h2:BS n k x<((List.range x).foldl (λo x=>o.set (BS n k x) (x:Int)) (List.replicate (n^k) (-1))).length:=by rw[Hy];simp;exact h1.1
  simp only[AY,i7 _ x hx,Option.bind_some,Ae,h2,CY,De,if_true,Ac (show x<4611686018427387904 by omega)]
  rw[if_pos (by simp;omega)]) (λf=>by simp only[AY];rw[if_neg (by simp)];rfl) (n:=Aa) (by unfold Aa;omega)
 have s3:=Ca n (λf o x=>BF f ((n:Int),(k:Int),o,x)) (λj=>(List.range j).foldl (λo x=>o.set (BS n k x) (x:Int)) (List.replicate (n^k) (-1))) (r:=some (CZ n k)) (λf x hx=>by
  have h1:=GQ hx hn.2 k hk.2
  have h2:BS n k x<((List.range x).foldl (λo x=>o.set (BS n k x) (x:Int)) (List.replicate (n^k) (-1))).length:=by rw[Hy];simp;exact h1.1
  simp only[BF,s7 _ x hx,Option.bind_some,Ae,h2,CY,De,if_true,Ac (show x<4611686018427387904 by omega)]
  rw[if_pos (by simp;omega)]) (λf=>by simp only[BF];rw[if_neg (by simp)];rfl) (n:=Aa) (by unfold Aa;omega)
 have i3:AY Aa ((n:Int),(k:Int),List.replicate (n^k) (-1),0)=_:=i3
 have s3:BF Aa ((n:Int),(k:Int),List.replicate (n^k) (-1),0)=_:=s3
 unfold CN Df
 rw[E8 (by omega) hk.2,Fu (by omega) hk.2]
 simp only[Option.bind_some,LF (show n^k<=1000 by omega),LG (show n^k<=1000 by omega),i3,s3,and_self]
end
end T
open Go Go.Va
namespace T
section
variable {n:Int} {rels:List AT}
end
def HT (V:List Int) (x:Nat):Int:=match V.findIdx? (λy=>y==(x:Int))with|some i=>(i:Int)|none=> -1
section
variable {n:Nat} {t:List Int}
end
section
variable {n m:Nat} {t:List Int} {r:AT} {rels:List AT}
end
end T
set_option linter.unusedVariables false
open Go Go.Va
namespace T
def Cc:Nat->((List (List Int))×(List (List Int))×Int×Int)->Option ((List (List Int)))
 |0,_=>none
 |n+1,(list,t7,t8,t9)=>
 if decide (t9<t8)then
 if inb t9 t7 then
 (Cv (gd t7 t9 [])).bind λr1=>
 if list.length+ [r1].length<=lim then
 Cc n (list++ [r1],t7,t8,w64 (t9+1))
 else none
 else none
 else
 some list
def Ep (rows:List (List Int)):Option ((List (List Int))):=
 (Cc Aa ([],rows,(rows.length:Int),0)).bind λs1=>
 some s1
end T
open Go Go.Va
namespace T
section
variable {α:Type} {nw old:Nat->α} {N i:Nat}
end
def pr4 (p:Int):Prop:=p=2∨p=3∨p=5∨p=7
def KI (p:Int) (W:Nat) (r:List Int):Prop:=r.length=W/\ ∀x∈r,0<=x/\x<p
section
variable {p:Int} {W:Nat} {r row:List Int}
theorem Nn (h:KI p W r) {i:Nat} (hi:i<W):0<=r.getD i 0/\r.getD i 0<p:=by
 have:i<r.length:=by rw[h.1];exact hi
 rw[Ag this];exact h.2 _ (List.getElem_mem this)
end
abbrev ES:=List (List Int)×List Int×List (List Int)
structure ESok (p:Int) (W N v:Nat) (s:ES):Prop where
 t: ∀r∈s.1,KI p W r
 l: ∀r∈s.2.2,KI p W r
 bl:s.2.1.length=s.1.length
 n:s.1.length+s.2.2.length=N
 bv: ∀x∈s.2.1,0<=x/\x<(v:Int)
 bn:s.2.1.Nodup
section
variable {p:Int} {W N:Nat}
end
end T
open Go Go.Va
namespace T
section
variable {p:Int} {W N V:Nat}
theorem Le {b:List Int} {u:Nat} (h:(u:Int)∉b):HT b u= -1:=by
 unfold HT
 have h1:(b.findIdx? λy=>y==(u:Int))=none:=by
  rw[List.findIdx?_eq_none_iff]
  intro y hy
  simp only[beq_eq_false_iff_ne]
  intro e;exact h (e▸hy)
 rw[h1]
theorem KK {b:List Int} {u:Nat} (h:(u:Int)∈b): ∃i,∃hi:i<b.length,HT b u=(i:Int)/\b[i]=(u:Int):=by
 unfold HT
 have h1:(b.findIdx? λy=>y==(u:Int)).isSome=true:=by
  rw[List.findIdx?_isSome,List.any_eq_true]
  exact⟨_,h,by simp⟩
 obtain⟨i,hi⟩:=Option.isSome_iff_exists.1 h1
 rw[hi]
 obtain⟨g1,g2,_⟩:=List.findIdx?_eq_some_iff_getElem.1 hi
 exact⟨i,g1,rfl,by simpa using g2⟩
theorem Hg {rows:List (List Int)} (hN:rows.length<=100000) (hr: ∀r∈rows,r.length<=100000):Ep rows=some rows:=by
 unfold Ep
 have:=Ca rows.length (λf o i=>Cc f (o,rows,(rows.length:Int),i)) (λk=>rows.take k) (r:=some rows) (λf k hk=>by
  have hl:=hr _ (List.getElem_mem hk)
  have hcl:Cv rows[k]=some rows[k]:=by
   unfold Cv
   rw[if_pos (by simp;unfold lim;omega)];simp
  simp only[Cc,Ae,hk,Af hk,hcl,Option.bind_some,List.take_succ_eq_append_getElem hk,if_true,Ac (show k<4611686018427387904 by omega)]
  rw[if_pos (by simp;omega),if_pos (by simp;unfold lim;omega)]) (λf=>by
  simp only[Cc,List.take_length]
  rw[if_neg (by simp)]) (n:=Aa) (by unfold Aa;omega)
 have this:Cc Aa ([],rows,(rows.length:Int),0)=_:=this
 rw[this];rfl
end
end T
open Go Go.Va
namespace T
def NA (N:Nat) (b:List Int):List Int:=((List.range N).filter λv:Nat=>!decide ((v:Int)∈b)).map λv:Nat=>(v:Int)
section
variable {p:Int} {W N V:Nat}
theorem LX {b:List Int} {u:Nat}:HT b u<0↔(u:Int)∉b:=by
 by_cases h:(u:Int)∈b
 ·obtain⟨i,hi,h1,_⟩:=KK h
  rw[h1];simp[h]
 ·rw[Le h];simp[h]
def L5 (V:Nat) (s:ES) (u:Nat):Int:=if HT s.2.1 u<0 then 0 else(s.1.getD (HT s.2.1 u).toNat []).getD V 0
def NM (V:Nat) (s:ES):List Int:=(List.range V).map (L5 V s)
end
end T
open Go Go.Va
namespace T
def cg (p a b:Int):Prop:= ∃k,a=b+p*k
section
variable {p a b c d:Int}
theorem Kw (h:a=b):cg p a b:=⟨0,by rw[h];simp⟩
theorem M9 (h:cg p a b) (g:cg p c d):cg p (a+c) (b+d):=by obtain⟨k,h⟩:=h;obtain⟨m,g⟩:=g;exact⟨k+m,by grind⟩
theorem Na (x:Int) (h:cg p a b):cg p (x*a) (x*b):=by obtain⟨k,h⟩:=h;exact⟨x*k,by grind⟩
end
inductive Sp (p:Int) (V:Nat) (A:List (List Int)):(Nat->Int)->Prop
 |zero:Sp p V A λ_=>0
 |add {f:Nat->Int} (r:List Int) (c:Int):r∈A->Sp p V A f->Sp p V A λi=>f i+c*r.getD i 0
 |cgr {f g:Nat->Int}:Sp p V A f->(∀i,i<V->cg p (g i) (f i))->Sp p V A g
section
variable {p:Int} {V W N:Nat} {A B:List (List Int)} {f g:Nat->Int}
theorem Sp.lin (hf:Sp p V A f) (hg:Sp p V A g) (c:Int):Sp p V A λi=>f i+c*g i:=by
 induction hg with
 |zero=>exact hf.cgr λi _=>Kw (by simp)
 |add r d hr _ ih=>exact(ih.add r (c*d) hr).cgr λi _=>Kw (by grind)
 |cgr _ h ih=>exact ih.cgr λi hi=>M9 (Kw rfl) (Na c (h i hi))
theorem Sp.mem {r:List Int} (h:r∈A):Sp p V A λi=>r.getD i 0:=(Sp.add r 1 h .zero).cgr λi _=>Kw (by simp)
theorem Sp.sub (h: ∀r∈A,Sp p V B λi=>r.getD i 0) (hf:Sp p V A f):Sp p V B f:=by
 induction hf with
 |zero=>exact .zero
 |add r c hr _ ih=>exact ih.lin (h r hr) c
 |cgr _ h ih=>exact ih.cgr h
def eqSp (p:Int) (V:Nat) (A B:List (List Int)):Prop:= ∀f,Sp p V A f↔Sp p V B f
theorem Mq (h: ∀r∈A,Sp p V B λi=>r.getD i 0) (g: ∀r∈B,Sp p V A λi=>r.getD i 0):eqSp p V A B:=λ_=>⟨Sp.sub h,Sp.sub g⟩
end
end T
open Go Go.Va
namespace T
section
variable {p:Int} {V W N:Nat} {A B:List (List Int)} {f g:Nat->Int}
theorem JO {α:Type} {l:List α} {i:Nat} {d:α} (hi:i<l.length):l.getD i d∈l:=by rw[Ag hi];exact List.getElem_mem hi
end
end T
open Go Go.Va
namespace T
section
variable {p:Int} {V W N:Nat} {A B C D:List (List Int)} {f g:Nat->Int}
theorem eqSp.symm (h:eqSp p V A B):eqSp p V B A:=λf=>(h f).symm
theorem eqSp.trans (h:eqSp p V A B) (g:eqSp p V B C):eqSp p V A C:=λf=>(h f).trans (g f)
theorem eqSp.app (h:eqSp p V A B):eqSp p V (A++C) (B++C):=by
 have key: ∀ {A B:List (List Int)},eqSp p V A B-> ∀r∈A++C,Sp p V (B++C) λi=>r.getD i 0:=fun {A B} h r hr=>by
  rcases List.mem_append.1 hr with hr|hr
  ·exact Sp.sub (λq hq=>Sp.mem (List.mem_append_left _ hq)) ((h _).1 (Sp.mem hr))
  ·exact Sp.mem (List.mem_append_right _ hr)
 exact Mq (key h) (key h.symm)
end
end T
open Go Go.Va
namespace T
def i64 (x:Int):Prop:= -9223372036854775808<=x/\x<=9223372036854775807
section
variable {c:List Int} {ar:Int}
end
end T
set_option linter.unusedVariables false
open Go Go.Va
namespace T
def BP:Nat->((Int×((List (List (List Int)))×(List (List (List ByteArray)))))×((List Int)×Int×(List (List Int)))×Int×(List ((List Int)×Int×(List (List Int))))×Int×Int×(List Int)×Int×Int)->Option ((Int×((List (List (List Int)))×(List (List (List ByteArray)))))×((List Int)×Int×(List (List Int)))×Int×(List ((List Int)×Int×(List (List Int))))×Int×Int)
 |0,_=>none
 |n+1,(t3,t5,t6,t20,t21,t22,t27,t28,t29)=>
 if decide (t29<t28)then
 if inb t29 t27 then
 BP n ((t3.1,(t3.2.1,t3.2.2)),(t5.1,(t5.2.1,t5.2.2)),Yht t6 (gd t27 t29 0),t20,t21,t22,t27,t28,w64 (t29+1))
 else none
 else
 some ((t3.1,(t3.2.1,t3.2.2)),(t5.1,(t5.2.1,t5.2.2)),t6,t20,t21,t22)
def BO:Nat->((Int×((List (List (List Int)))×(List (List (List ByteArray)))))×(List ((List Int)×Int×(List (List Int))))×Int×Int)->Option ((Int×((List (List (List Int)))×(List (List (List ByteArray))))))
 |0,_=>none
 |n+1,(t3,t20,t21,t22)=>
 if decide (t22<t21)then
 if inb t22 t20 then
 (BP Aa ((t3.1,(t3.2.1,t3.2.2)),((gd t20 t22 ([],(0,[]))).1,(((gd t20 t22 ([],(0,[]))).2).1,((gd t20 t22 ([],(0,[]))).2).2)),0,t20,t21,t22,(gd t20 t22 ([],(0,[]))).1,(((gd t20 t22 ([],(0,[]))).1).length:Int),0)).bind λs1=>
 if inb s1.2.2.1 s1.1.2.1 then
 if(gd s1.1.2.1 s1.2.2.1 []).length+ [s1.2.1.1].length<=lim then
 if inb s1.2.2.1 s1.1.2.1 then
 if s1.2.2.1=s1.2.2.1 then
 if inb s1.2.2.1 s1.1.2.2 then
 (DW (s1.2.1.2.1,s1.2.1.2.2)).bind λr2=>
 if(gd s1.1.2.2 s1.2.2.1 []).length+ [r2].length<=lim then
 if inb s1.2.2.1 s1.1.2.2 then
 if s1.2.2.1=s1.2.2.1 then
 BO n ((s1.1.1,(stt s1.1.2.1 s1.2.2.1 ((gd s1.1.2.1 s1.2.2.1 [])++ [s1.2.1.1]),stt s1.1.2.2 s1.2.2.1 ((gd s1.1.2.2 s1.2.2.1 [])++ [r2]))),s1.2.2.2.1,s1.2.2.2.2.1,w64 (s1.2.2.2.2.2+1))
 else none
 else none
 else none
 else none
 else none
 else none
 else none
 else none
 else none
 else
 some (t3.1,(t3.2.1,t3.2.2))
def Eu (t0:Int×Int×(List ((List Int)×Int×(List (List Int))))):Option ((Bool×Int×(List (List (List Int)))×(List (List (List ByteArray))))):=
 if 0<=t0.1/\t0.1<=t0.1/\t0.1<=lim then
 if 0<=t0.1/\t0.1<=t0.1/\t0.1<=lim then
 (BO Aa ((t0.2.1,(List.replicate (Int.toNat t0.1) ([]:List (List Int)),List.replicate (Int.toNat t0.1) ([]:List (List ByteArray)))),t0.2.2,(t0.2.2.length:Int),0)).bind λs1=>
 some (true,(s1.1,(s1.2.1,s1.2.2)))
 else none
 else none
def Hk (list:List Int):Option ((Bool×(List Int))):=
 if([]:List Int).length+list.length<=lim then
 some (true,[]++list)
 else none
def CD (values:List Int) (t1:Bool×(List Int)):Option ((Bool×(List Int))×Bool):=
 (Hk values).bind λr1=>
 some ((r1.1,r1.2),false)
def Ak (rec:(Int×(List Int)×(Bool×(List Int))×(Bool×Int×(List (List (List Int)))×(List (List (List ByteArray))))×(List Int)×Unit)->Option ((List Int)×(Bool×(List Int))×(Bool×Int×(List (List (List Int)))×(List (List (List ByteArray))))×(List Int)×Bool)):Nat->(Int×(List Int)×(Bool×(List Int))×(Bool×Int×(List (List (List Int)))×(List (List (List ByteArray))))×(List Int)×Unit×Int×Bool×(List (List Int))×Int×Int)->Option (Int×(List Int)×(Bool×(List Int))×(Bool×Int×(List (List (List Int)))×(List (List (List ByteArray))))×(List Int)×Unit×Int×Bool)
 |0,_=>none
 |n+1,(t0,t1,t2,t3,t4,t5,t8,t9,t50,t51,t52)=>
 if decide (t52<t51)then
 if inb t52 t50 then
 if t9 then
 if t3.1=true then
 if inb t0 t3.2.2.2 then
 if inb t52 (gd t3.2.2.2 t0 [])then
 (Dc (gd t50 t52 []) t1).bind λr2=>
 (DE r2).bind λr3=>
 Ak rec n (t0,t1,(t2.1,t2.2),t3,t4,(),t8,Ybm (gd (gd t3.2.2.2 t0 []) t52 []) r3,t50,t51,w64 (t52+1))
 else none
 else none
 else none
 else
 Ak rec n (t0,t1,(t2.1,t2.2),t3,t4,(),t8,false,t50,t51,w64 (t52+1))
 else none
 else
 some (t0,t1,(t2.1,t2.2),t3,t4,(),t8,t9)
def Ai (rec:(Int×(List Int)×(Bool×(List Int))×(Bool×Int×(List (List (List Int)))×(List (List (List ByteArray))))×(List Int)×Unit)->Option ((List Int)×(Bool×(List Int))×(Bool×Int×(List (List (List Int)))×(List (List (List ByteArray))))×(List Int)×Bool)):Nat->(Int×(List Int)×(Bool×(List Int))×(Bool×Int×(List (List (List Int)))×(List (List (List ByteArray))))×(List Int)×Unit×Int)->Option (((List Int)×(Bool×(List Int))×(Bool×Int×(List (List (List Int)))×(List (List (List ByteArray))))×(List Int)×Unit)⊕((List Int)×(Bool×(List Int))×(Bool×Int×(List (List (List Int)))×(List (List (List ByteArray))))×(List Int)×Unit×Bool))
 |0,_=>none
 |n+1,(t0,t1,t2,t3,t4,t5,t8)=>
 if t3.1=true then
 if decide (t8<t3.2.1)then
 if inb t0 t4 then
 if decide ((gd t4 t0 0)≥0)then
 if inb t0 t4 then
 if(gd t4 t0 0) !=t8 then
 Ai rec n (t0,t1,(t2.1,t2.2),t3,t4,(),w64 (t8+1))
 else
 if inb t0 t1 then
 if t3.1=true then
 if inb t0 t3.2.2.1 then
 (Ak rec Aa (t0,stt t1 t0 t8,(t2.1,t2.2),t3,t4,(),t8,true,gd t3.2.2.1 t0 [],((gd t3.2.2.1 t0 []).length:Int),0)).bind λs2=>
 if s2.2.2.2.2.2.2.2 then
 (rec (w64 (s2.1+1),s2.2.1,(s2.2.2.1.1,s2.2.2.1.2),s2.2.2.2.1,s2.2.2.2.2.1,())).bind λr3=>
 if !r3.2.2.2.2 then
 some (.inr (r3.1,(r3.2.1.1,r3.2.1.2),r3.2.2.1,r3.2.2.2.1,(),false))
 else
 Ai rec n (s2.1,r3.1,(r3.2.1.1,r3.2.1.2),r3.2.2.1,r3.2.2.2.1,(),w64 (s2.2.2.2.2.2.2.1+1))
 else
 Ai rec n (s2.1,s2.2.1,(s2.2.2.1.1,s2.2.2.1.2),s2.2.2.2.1,s2.2.2.2.2.1,(),w64 (s2.2.2.2.2.2.2.1+1))
 else none
 else none
 else none
 else none
 else
 if inb t0 t1 then
 if t3.1=true then
 if inb t0 t3.2.2.1 then
 (Ak rec Aa (t0,stt t1 t0 t8,(t2.1,t2.2),t3,t4,(),t8,true,gd t3.2.2.1 t0 [],((gd t3.2.2.1 t0 []).length:Int),0)).bind λs4=>
 if s4.2.2.2.2.2.2.2 then
 (rec (w64 (s4.1+1),s4.2.1,(s4.2.2.1.1,s4.2.2.1.2),s4.2.2.2.1,s4.2.2.2.2.1,())).bind λr5=>
 if !r5.2.2.2.2 then
 some (.inr (r5.1,(r5.2.1.1,r5.2.1.2),r5.2.2.1,r5.2.2.2.1,(),false))
 else
 Ai rec n (s4.1,r5.1,(r5.2.1.1,r5.2.1.2),r5.2.2.1,r5.2.2.2.1,(),w64 (s4.2.2.2.2.2.2.1+1))
 else
 Ai rec n (s4.1,s4.2.1,(s4.2.2.1.1,s4.2.2.1.2),s4.2.2.2.1,s4.2.2.2.2.1,(),w64 (s4.2.2.2.2.2.2.1+1))
 else none
 else none
 else none
 else none
 else
 some (.inl (t1,(t2.1,t2.2),t3,t4,()))
 else none
def Bg (rec:(Int×(List Int)×(Bool×(List Int))×(Bool×Int×(List (List (List Int)))×(List (List (List ByteArray))))×(List Int)×Unit)->Option ((List Int)×(Bool×(List Int))×(Bool×Int×(List (List (List Int)))×(List (List (List ByteArray))))×(List Int)×Bool)) (t0:Int) (t1:List Int) (t2:Bool×(List Int)) (t3:Bool×Int×(List (List (List Int)))×(List (List (List ByteArray)))) (t4:List Int) (t5:Unit):Option ((List Int)×(Bool×(List Int))×(Bool×Int×(List (List (List Int)))×(List (List (List ByteArray))))×(List Int)×Bool):=
 if t0==(t1.length:Int)then
  (CD t1 (t2.1,t2.2)).bind λr1=>
   some (t1,(r1.1.1,r1.1.2),t3,t4,r1.2)
 else
  (Ai rec Aa (t0,t1,(t2.1,t2.2),t3,t4,(),0)).bind λs2=>
   match s2 with
   | .inl s3=>
    some (s3.1,(s3.2.1.1,s3.2.1.2),s3.2.2.1,s3.2.2.2.1,true)
   | .inr s4=>
    some (s4.1,(s4.2.1.1,s4.2.1.2),s4.2.2.1,s4.2.2.2.1,s4.2.2.2.2.2)
def Am:Nat->(Int×(List Int)×(Bool×(List Int))×(Bool×Int×(List (List (List Int)))×(List (List (List ByteArray))))×(List Int)×Unit)->Option ((List Int)×(Bool×(List Int))×(Bool×Int×(List (List (List Int)))×(List (List (List ByteArray))))×(List Int)×Bool)
 |0,_=>none
 |d+1,x=>Bg (Am d) x.1 x.2.1 x.2.2.1 x.2.2.2.1 x.2.2.2.2.1 x.2.2.2.2.2
def BY (s:Bool×Int×(List (List (List Int)))×(List (List (List ByteArray)))) (partial_:List Int) (found:Bool×(List Int)):Option ((Bool×(List Int))):=
 if 0<=(partial_.length:Int)/\(partial_.length:Int)<=(partial_.length:Int)/\(partial_.length:Int)<=lim then
 (Am Aa (0,List.replicate (Int.toNat (partial_.length:Int)) (0:Int),(found.1,found.2),s,partial_,())).bind λr1=>
 some (r1.2.1.1,r1.2.1.2)
 else none
def Ed (net:Int×Int×(List ((List Int)×Int×(List (List Int))))) (partial_:List Int):Option ((Bool×(List Int))):=
 (Eu (net.1,(net.2.1,net.2.2))).bind λr1=>
 (BY r1 partial_ (false,[])).bind λr2=>
 some (r2.1,r2.2)
end T
