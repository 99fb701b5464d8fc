/- Plain lemmas on the typed functions of the program, the first part; no conditions. -/
import Derived.Test.YtgeboeaoblppcaaV1
import Derived.Test.YtgeboeaoblppcaaV5
import Derived.KernelRfl
set_option linter.all false
namespace Go.Va
theorem ED (x:Int):w64 x=(x+9223372036854775808)%18446744073709551616-9223372036854775808:=by
 simp[w64,IntKind.wrap,IntKind.bits,IntKind.signed]
 split<;>omega
theorem AN {x:Int} (h1: -9223372036854775808<=x) (h2:x<=9223372036854775807):w64 x=x:=by
 rw[ED];omega
theorem Af {k:Nat} (h:k<4611686018427387904):w64 ((k:Int)+1)=((k+1:Nat):Int):=by
 rw[AN (by omega) (by omega)];rfl
theorem Aj {α:Type} {k:Nat} {xs:List α}:inb (k:Int) xs↔k<xs.length:=by
 unfold inb;omega
theorem AK {α:Type} {k:Nat} {xs:List α} {d:α} (h:k<xs.length):gd xs (k:Int) d=xs[k]:=by
 unfold gd;simp[h]
theorem Fi {α:Type} {k:Nat} {xs:List α} {x:α}:stt xs (k:Int) x=xs.set k x:=by
 unfold stt;simp
def Gb {α σ β:Type} (step:σ->α->Option (σ⊕β)) (fin:σ->Option β):List α->σ->Option β
 | [],s=>fin s
 |a::l,s=>match step s a with|some (.inl s')=>Gb step fin l s'|some (.inr r)=>some r|none=>none
theorem H6 {α σ β:Type} (xs:List α) (L:Nat->σ->Int->Option β) (step:σ->α->Option (σ⊕β)) (fin:σ->Option β)
  (hs: ∀n s (k:Nat) (hk:k<xs.length),L (n+1) s k=match step s xs[k]with|some (.inl s')=>L n s' ((k+1:Nat):Int)|some (.inr r)=>some r|none=>none)
  (he: ∀n s,L (n+1) s (xs.length:Nat)=fin s): ∀(n k:Nat) (s:σ),k<=xs.length->xs.length-k<n->L n s k=Gb step fin (xs.drop k) s:=by
 intro n
 induction n with
 |zero=>intro k s _ h;omega
 |succ n ih=>
  intro k s hk hn
  rcases Nat.lt_or_ge k xs.length with hlt|hge
  ·rw[hs n s k hlt,List.drop_eq_getElem_cons hlt]
   simp only[Gb]
   cases step s xs[k]with
   |none=>rfl
   |some q=>
    cases q with
    |inl s'=>exact ih (k+1) s' hlt (by omega)
    |inr r=>rfl
  ·have:k=xs.length:=by omega
   subst this
   rw[he,List.drop_length];rfl
theorem HK {α σ β:Type} (xs:List α) (L:Nat->σ->Int->Option β) (step:σ->α->Option (σ⊕β)) (fin:σ->Option β)
  (hs: ∀n s (k:Nat) (hk:k<xs.length),L (n+1) s k=match step s xs[k]with|some (.inl s')=>L n s' ((k+1:Nat):Int)|some (.inr r)=>some r|none=>none)
  (he: ∀n s,L (n+1) s (xs.length:Nat)=fin s) {n:Nat} (hn:xs.length<n) (s:σ):L n s 0=Gb step fin xs s:=by
 have:=H6 xs L step fin hs he n 0 s (Nat.zero_le _) (by omega)
 simpa using this
theorem Fy {α β:Type} {p:α->Bool} {step:Unit->α->Option (Unit⊕β)} {fin:Unit->Option β} {r:β}: ∀ {l:List α},(∀a∈l,step () a=if p a then some (.inl ())else some (.inr r))->Gb step fin l ()=if l.all p then fin ()else some r
 | [],_=>rfl
 |a::l,h=>by
  simp only[Gb]
  rw[h a (by simp)]
  cases hp:p a with
  |true=>simp only[if_true,List.all_cons,hp,Bool.true_and];exact Fy λb hb=>h b (List.mem_cons_of_mem _ hb)
  |false=>simp[List.all_cons,hp]
theorem eqX {α:Type} [DecidableEq α] (a b:List α) (hl:a.length=b.length) (L:Nat->Int->Option (Unit⊕Bool))
  (hs: ∀n (k:Nat) (h1:k<a.length) (h2:k<b.length),L (n+1) k=if a[k]=b[k]then L n ((k+1:Nat):Int)else some (.inr false)) (he: ∀n,L (n+1) (a.length:Nat)=some (.inl ())) {n:Nat} (hn:a.length<n):
  L n 0=some (if a=b then .inl ()else .inr false):=by
 have key: ∀(n k:Nat),k<=a.length->a.length-k<n->L n k=some (if a.drop k=b.drop k then .inl ()else .inr false):=by
  intro n
  induction n with
  |zero=>intro k _ h;omega
  |succ n ih=>
   intro k hk hn
   rcases Nat.lt_or_ge k a.length with hlt|hge
   ·have h2:k<b.length:=by omega
    have e:(a.drop k=b.drop k)↔(a[k]=b[k]/\a.drop (k+1)=b.drop (k+1)):=by
     rw[List.drop_eq_getElem_cons hlt,List.drop_eq_getElem_cons h2];exact List.cons_eq_cons
    rw[hs n k hlt h2]
    by_cases h:a[k]=b[k]
    ·rw[if_pos h,ih (k+1) hlt (by omega)]
     by_cases h3:a.drop (k+1)=b.drop (k+1)
     ·rw[if_pos h3,if_pos (e.2 ⟨h,h3⟩)]
     ·rw[if_neg h3,if_neg λh'=>h3 (e.1 h').2]
    ·rw[if_neg h,if_neg λh'=>h (e.1 h').1]
   ·have:k=a.length:=by omega
    subst this
    rw[he,List.drop_length,hl,List.drop_length];rfl
 have:=key n 0 (Nat.zero_le _) (by omega)
 simpa using this
theorem Gj {α β:Type} (xs:List α) (L:Nat->Int->Option β) (p:α->Bool) (r e:β)
  (hs: ∀n (k:Nat) (hk:k<xs.length),L (n+1) k=if p xs[k]then L n ((k+1:Nat):Int)else some r) (he: ∀n,L (n+1) (xs.length:Nat)=some e) {n:Nat} (hn:xs.length<n):
  L n 0=some (if xs.all p then e else r):=by
 have:=HK xs (λn (_:Unit) i=>L n i) (λ_ a=>if p a then some (.inl ())else some (.inr r)) (λ_=>some e) (λn s k hk=>by rw[hs n k hk];cases p xs[k]<;>simp) (λn s=>he n) hn ()
 rw[this,Fy (p:=p) (r:=r) λa _=>by cases p a<;>simp]
 cases xs.all p<;>simp
theorem DC {σ β:Type} (N:Nat) (L:Nat->σ->Int->Option β) (S:Nat->σ) {r:Option β}
  (hs: ∀n (k:Nat),k<N->L (n+1) (S k) k=L n (S (k+1)) ((k+1:Nat):Int)) (he: ∀n,L (n+1) (S N) (N:Nat)=r) {n:Nat} (hn:N<n):L n (S 0) 0=r:=by
 have key: ∀(n k:Nat),k<=N->N-k<n->L n (S k) k=r:=by
  intro n
  induction n with
  |zero=>intro k _ h;omega
  |succ n ih=>
   intro k hk hn
   rcases Nat.lt_or_ge k N with hlt|hge
   ·rw[hs n k hlt];exact ih (k+1) hlt (by omega)
   ·have:k=N:=by omega
    subst this;exact he n
 exact key n 0 (Nat.zero_le _) (by omega)
theorem Ih {σ β:Type} (N:Nat) (L:Nat->σ->Int->Option β) (S:Nat->σ) (p:Nat->Bool) {r e:Option β}
  (hs: ∀n (k:Nat),k<N->L (n+1) (S k) k=if p k then L n (S (k+1)) ((k+1:Nat):Int)else r) (he: ∀n,L (n+1) (S N) (N:Nat)=e) {n:Nat} (hn:N<n):
  L n (S 0) 0=if(List.range N).all p then e else r:=by
 have key: ∀(n k:Nat),k<=N->N-k<n->L n (S k) k=if(List.range' k (N-k)).all p then e else r:=by
  intro n
  induction n with
  |zero=>intro k _ h;omega
  |succ n ih=>
   intro k hk hn
   rcases Nat.lt_or_ge k N with hlt|hge
   ·rw[hs n k hlt,show N-k=(N-(k+1))+1 by omega,List.range'_succ,List.all_cons]
    cases hp:p k with
    |false=>simp
    |true=>simp only[if_true,Bool.true_and];exact ih (k+1) hlt (by omega)
   ·have:k=N:=by omega
    subst this;rw[he];simp
 have:=key n 0 (Nat.zero_le _) (by omega)
 rw[List.range_eq_range']
 simpa using this
theorem HE {σ β:Type} (N:Nat) (L:Nat->σ->Int->Option β) (S:Nat->σ) (q:Nat->Option (Option β)) {e:Option β}
  (hs: ∀n (k:Nat),k<N->(∀j,j<k->q j=none)->L (n+1) (S k) k=match q k with|none=>L n (S (k+1)) ((k+1:Nat):Int)|some r=>r) (he: ∀n,L (n+1) (S N) (N:Nat)=e) {n:Nat} (hn:N<n):
  L n (S 0) 0=((List.range N).findSome? q).getD e:=by
 have key: ∀(n k:Nat),k<=N->N-k<n->(∀j,j<k->q j=none)->L n (S k) k=((List.range' k (N-k)).findSome? q).getD e:=by
  intro n
  induction n with
  |zero=>intro k _ h;omega
  |succ n ih=>
   intro k hk hn hq
   rcases Nat.lt_or_ge k N with hlt|hge
   ·rw[hs n k hlt hq,show N-k=(N-(k+1))+1 by omega,List.range'_succ,List.findSome?_cons]
    cases hp:q k with
    |some r=>simp
    |none=>
     refine ih (k+1) hlt (by omega) λj hj=>?_
     rcases Nat.lt_or_ge j k with h|h
     ·exact hq j h
     ·have:j=k:=by omega
      rw[this];exact hp
   ·have:k=N:=by omega
    subst this;rw[he];simp
 have:=key n 0 (Nat.zero_le _) (by omega) (λj h=>by omega)
 rw[List.range_eq_range']
 simpa using this
end Go.Va
set_option linter.unusedVariables false
open Go Go.Va
namespace T
def Aa:Nat:=1099511627776
def Cq (x:Int) (a:Int) (b:Int):Option (Bool):=
 if decide (x≥a)then
 some (decide (x<=b))
 else
 some false
def Bu:Nat->(Int×(List Int)×Int)->Option ((Unit)⊕(Bool))
 |0,_=>none
 |n+1,(n_,list,i)=>
 if decide (i<(list.length:Int))then
 if inb i list then
 (Cq (gd list i 0) 0 (w64 (n_-1))).bind λr1=>
 if !r1 then
 some (.inr false)
 else
 Bu n (n_,list,w64 (i+1))
 else none
 else
 some (.inl ())
def CT (n_:Int) (list:List Int):Option (Bool):=
 (Bu Aa (n_,list,0)).bind λs1=>
  match s1 with
  | .inl s2=>
   some true
  | .inr s3=>
   some s3
def DA (n_:Int) (k:Int) (t:List Int):Option (Bool):=
 if(t.length:Int)==k then
 (CT n_ t).bind λr1=>
 some r1
 else
 some false
def BX:Nat->(Int×(List Int)×Int×Int)->Option ((Unit)⊕(Bool))
 |0,_=>none
 |n+1,(n_,t7,t8,t9)=>
 if decide (t9<t8)then
 if inb t9 t7 then
 if decide ((gd t7 t9 0)<0)then
 some (.inr false)
 else
 if decide ((gd t7 t9 0)≥n_)then
 some (.inr false)
 else
 BX n (n_,t7,t8,w64 (t9+1))
 else none
 else
 some (.inl ())
def CP (list:List Int) (n_:Int):Option (Bool):=
 (BX Aa (n_,list,(list.length:Int),0)).bind λs1=>
  match s1 with
  | .inl s2=>
   some true
  | .inr s3=>
   some s3
def Cs (n_:Int):Option (Bool):=
 (Cq n_ 1 8).bind λr1=>
 some r1
def CN:Nat->(Int×Int×Int)->Option (Int)
 |0,_=>none
 |n+1,(n_,k,out)=>
 if decide (k>0)then
 CN n (n_,w64 (k-1),w64 (out*n_))
 else
 some out
def Co (n_:Int) (k:Int):Option (Int):=
 (CN Aa (n_,k,1)).bind λs1=>
 some s1
def B4:Nat->((List Int)×(List Int)×Int)->Option ((Unit)⊕(Bool))
 |0,_=>none
 |n+1,(a,b,i)=>
 if decide (i<(a.length:Int))then
 if inb i a then
 if inb i b then
 if(gd a i 0) !=(gd b i 0)then
 if inb i a then
 if inb i b then
 some (.inr (decide ((gd a i 0)<(gd b i 0))))
 else none
 else none
 else
 B4 n (a,b,w64 (i+1))
 else none
 else none
 else
 some (.inl ())
def DM (a:List Int) (b:List Int):Option (Bool):=
 (B4 Aa (a,b,0)).bind λs1=>
  match s1 with
  | .inl s2=>
   some false
  | .inr s3=>
   some s3
def BJ:Nat->(Int×Int×(List (List Int))×Int)->Option ((Unit)⊕(Bool))
 |0,_=>none
 |n+1,(n_,k,tuples,i)=>
 if decide (i<(tuples.length:Int))then
 if inb i tuples then
 (DA n_ k (gd tuples i [])).bind λr4=>
 if !r4 then
 some (.inr false)
 else
 if decide (i>0)then
 if inb (w64 (i-1)) tuples then
 if inb i tuples then
 (DM (gd tuples (w64 (i-1)) []) (gd tuples i [])).bind λr5=>
 if !r5 then
 some (.inr false)
 else
 BJ n (n_,k,tuples,w64 (i+1))
 else none
 else none
 else
 BJ n (n_,k,tuples,w64 (i+1))
 else none
 else
 some (.inl ())
def Bl (n_:Int) (k:Int) (tuples:List (List Int)):Option (Bool):=
 (Cs n_).bind λr1=>
  if !r1 then
   some false
  else
   (Cq k 1 4).bind λr2=>
    if !r2 then
     some false
    else
     (Co n_ k).bind λr3=>
      if decide ((tuples.length:Int)>r3)then
       some false
      else
       (BJ Aa (n_,k,tuples,0)).bind λs4=>
        match s4 with
        | .inl s5=>
         some true
        | .inr s6=>
         some s6
def B1:Nat->((List Int)×(List Int)×Int)->Option ((Unit)⊕(Bool))
 |0,_=>none
 |n+1,(a,b,i)=>
 if decide (i<(a.length:Int))then
 if inb i a then
 if inb i b then
 if(gd a i 0) !=(gd b i 0)then
 some (.inr false)
 else
 B1 n (a,b,w64 (i+1))
 else none
 else none
 else
 some (.inl ())
def Da (a:List Int) (b:List Int):Option (Bool):=
 if(a.length:Int) !=(b.length:Int)then
  some false
 else
  (B1 Aa (a,b,0)).bind λs1=>
   match s1 with
   | .inl s2=>
    some true
   | .inr s3=>
    some s3
def BK:Nat->((List (List Int))×(List Int)×Int×Int)->Option ((List (List Int))×(List Int)×Int)
 |0,_=>none
 |n+1,(list,t,from_,to)=>
 if decide (from_<to)then
 if(2:Int)≠0 then
 if inb (w64 (Int.tdiv (w64 (from_+to)) 2)) list then
 (DM (gd list (w64 (Int.tdiv (w64 (from_+to)) 2)) []) t).bind λr1=>
 if r1 then
 BK n (list,t,w64 ((w64 (Int.tdiv (w64 (from_+to)) 2))+1),to)
 else
 BK n (list,t,from_,w64 (Int.tdiv (w64 (from_+to)) 2))
 else none
 else none
 else
 some (list,t,from_)
def BC (list:List (List Int)) (t:List Int):Option (Int×Bool):=
 (BK Aa (list,t,0,(list.length:Int))).bind λs1=>
 if decide (s1.2.2<(s1.1.length:Int))then
 if inb s1.2.2 s1.1 then
 (Da (gd s1.1 s1.2.2 []) s1.2.1).bind λr2=>
 some (s1.2.2,r2)
 else none
 else
 some (s1.2.2,false)
def C6 (n_:Int):Option (Bool):=
 if decide (n_≥1)then
 some (decide (n_<=8))
 else
 some false
def AW:Nat->((List Int)×(List Int)×Int)->Option (((List Int)×(List Int))⊕(Int))
 |0,_=>none
 |n+1,(s,t,i)=>
 if decide (i<(s.length:Int))then
 if decide (i<(t.length:Int))then
 if inb i s then
 if inb i t then
 if(gd s i 0) !=(gd t i 0)then
 if inb i s then
 if inb i t then
 if decide ((gd s i 0)<(gd t i 0))then
 some (.inr (-1))
 else
 some (.inr 1)
 else none
 else none
 else
 AW n (s,t,w64 (i+1))
 else none
 else none
 else
 some (.inl (s,t))
 else
 some (.inl (s,t))
def C5 (s:List Int) (t:List Int):Option (Int):=
 (AW Aa (s,t,0)).bind λs1=>
  match s1 with
  | .inl s2=>
   if decide ((s2.1.length:Int)<(s2.2.length:Int))then
    some (-1)
   else
    if decide ((s2.1.length:Int)>(s2.2.length:Int))then
     some 1
    else
     some 0
  | .inr s3=>
   some s3
def Bb:Nat->(Int×Int×(List (List Int))×(List (List Int))×Int×Int)->Option ((Unit)⊕(Bool))
 |0,_=>none
 |n+1,(n_,k,tuples,t20,t21,t22)=>
 if decide (t22<t21)then
 if inb t22 t20 then
 if((gd t20 t22 []).length:Int) !=k then
 some (.inr false)
 else
 (CP (gd t20 t22 []) n_).bind λr2=>
 if !r2 then
 some (.inr false)
 else
 if decide (t22>0)then
 if inb (w64 (t22-1)) tuples then
 (C5 (gd tuples (w64 (t22-1)) []) (gd t20 t22 [])).bind λr3=>
 if decide (r3≥0)then
 some (.inr false)
 else
 Bb n (n_,k,tuples,t20,t21,w64 (t22+1))
 else none
 else
 Bb n (n_,k,tuples,t20,t21,w64 (t22+1))
 else none
 else
 some (.inl ())
def BP (n_:Int) (k:Int) (tuples:List (List Int)):Option (Bool):=
 (C6 n_).bind λr1=>
  if !r1 then
   some false
  else
   if decide (k<1)then
    some false
   else
    if decide (k>4)then
     some false
    else
     (Bb Aa (n_,k,tuples,tuples,(tuples.length:Int),0)).bind λs2=>
      match s2 with
      | .inl s3=>
       some true
      | .inr s4=>
       some s4
def CJ:Nat->(Int×Int×Int)->Option (Int)
 |0,_=>none
 |n+1,(n_,k,p)=>
 if decide (k>0)then
 CJ n (n_,w64 (k-1),w64 (p*n_))
 else
 some p
def Dv (n_:Int) (k:Int):Option (Int):=
 (CJ Aa (n_,k,1)).bind λs1=>
 some s1
end T
open Go Go.Va
namespace T
abbrev Lin:=Int×Int×List (List Int)
theorem B9 (x a b:Int):Cq x a b=some (decide (a<=x/\x<=b)):=by
 unfold Cq
 by_cases h:a<=x<;>simp[h]
def AS (n:Int) (l:List Int):Bool:=l.all λx=>decide (0<=x/\x<n)
theorem CZ {l:List Int} (n:Int) (hl:l.length<=1099511627775):CP l n=some (AS n l):=by
 unfold CP
 rw[Gj l (λm i=>BX m (n,l,(l.length:Int),i)) (λx=>decide (0<=x/\x<n)) (.inr false) (.inl ()) ?_ ?_ (by unfold Aa;omega)]
 ·unfold AS;cases l.all (λx=>decide (0<=x/\x<n))<;>simp
 ·intro m k hk
  simp only[BX,Aj,AK hk,Af (show k<4611686018427387904 by omega)]
  by_cases h1:l[k]<0
  ·simp[hk,h1,show¬0<=l[k] by omega]
  ·by_cases h2:n<=l[k]
   ·simp[hk,h1,h2,show¬l[k]<n by omega]
   ·simp[hk,h1,h2,show 0<=l[k]/\l[k]<n by omega]
 ·intro m
  simp[BX]
theorem D8 {l:List Int} {n:Int} (hn: -9223372036854775808<n) (hn':n<=9223372036854775807) (hl:l.length<=1099511627775):CT n l=some (AS n l):=by
 unfold CT
 rw[Gj l (λm i=>Bu m (n,l,i)) (λx=>decide (0<=x/\x<n)) (.inr false) (.inl ()) ?_ ?_ (by unfold Aa;omega)]
 ·unfold AS;cases l.all (λx=>decide (0<=x/\x<n))<;>simp
 ·intro m k hk
  simp only[Bu,Aj,AK hk,Af (show k<4611686018427387904 by omega),B9,AN (show-9223372036854775808<=n-1 by omega) (show n-1<=9223372036854775807 by omega)]
  by_cases h1:0<=l[k]/\l[k]<n
  ·simp[hk,h1,show l[k]<=n-1 by omega]
  ·have: ¬(0<=l[k]/\l[k]<=n-1):=by omega
   simp[hk,h1,this]
 ·intro m
  simp[Bu]
theorem EC {l:List Int} {n:Int} (k:Int) (hn: -9223372036854775808<n) (hn':n<=9223372036854775807) (hl:l.length<=1099511627775):DA n k l=some (decide ((l.length:Int)=k)&&AS n l):=by
 unfold DA
 rw[D8 hn hn' hl]
 by_cases h:(l.length:Int)=k<;>simp[h]
end T
open Go Go.Va
namespace T
theorem D2 {n:Int} {l:List Int} (h:AS n l=true) (k:Nat) (hk:k<l.length):0<=l[k]/\l[k]<n:=by
 have:=(List.all_eq_true.1 h) l[k] (List.getElem_mem hk)
 simpa using this
section
variable {p v:Int} {rows:List (List Int)} {y:List Int}
end
end T
open Go Go.Va
namespace T
def cmpL:List Int->List Int->Int
 | [],[]=>0
 | [],_::_=> -1
 |_::_,[]=>1
 |a::s,b::t=>if a=b then cmpL s t else if a<b then-1 else 1
theorem FG {s t:List Int} (hs:s.length<=1099511627775): ∀(n k:Nat),k<=s.length->k<=t.length->s.length-k<n->
  (AW n (s,t,(k:Int))).bind (λs1=>match s1 with
   | .inl s2=>if decide ((s2.1.length:Int)<(s2.2.length:Int))then some (-1)else if decide ((s2.1.length:Int)>(s2.2.length:Int))then some 1 else some 0
   | .inr s3=>some s3)=some (cmpL (s.drop k) (t.drop k)):=by
 intro n
 induction n with
 |zero=>intro k _ _ h;omega
 |succ n ih=>
  intro k h1 h2 hn
  by_cases k1:k<s.length
  ·by_cases k2:k<t.length
   ·rw[List.drop_eq_getElem_cons k1,List.drop_eq_getElem_cons k2]
    simp only[AW,Aj,AK k1,AK k2,Af (show k<4611686018427387904 by omega),cmpL]
    by_cases he:s[k]=t[k]
    ·have:=ih (k+1) k1 k2 (by omega)
     simp[k1,k2,he]
     simpa using this
    ·by_cases hl:s[k]<t[k]<;>simp[k1,k2,he,hl]
   ·rw[List.drop_eq_getElem_cons k1,List.drop_of_length_le (show t.length<=k by omega)]
    have e:k=t.length:=by omega
    simp only[AW,cmpL]
    simp[k1,k2,show¬s.length<t.length by omega,show t.length<s.length by omega]
  ·rw[List.drop_of_length_le (show s.length<=k by omega)]
   simp only[AW]
   by_cases k2:k<t.length
   ·rw[List.drop_eq_getElem_cons k2]
    simp[k1,cmpL,show s.length<t.length by omega]
   ·rw[List.drop_of_length_le (show t.length<=k by omega)]
    simp[k1,cmpL,show¬s.length<t.length by omega,show¬t.length<s.length by omega]
theorem DE {s t:List Int} (hs:s.length<=1099511627775):C5 s t=some (cmpL s t):=by
 have:=FG (t:=t) hs Aa 0 (Nat.zero_le _) (Nat.zero_le _) (by unfold Aa;omega)
 rw[List.drop_zero,List.drop_zero]at this
 exact this
theorem DN {s t:List Int} (hs:s.length<=1099511627775) (hl:s.length=t.length):DM s t=some (decide (cmpL s t<0)):=by
 have key: ∀(n k:Nat),k<=s.length->s.length-k<n->(B4 n (s,t,(k:Int))).bind (λs1=>match s1 with| .inl _=>some false| .inr s3=>some s3)=some (decide (cmpL (s.drop k) (t.drop k)<0)):=by
  intro n
  induction n with
  |zero=>intro k _ h;omega
  |succ n ih=>
   intro k h1 hn
   by_cases k1:k<s.length
   ·have k2:k<t.length:=by omega
    rw[List.drop_eq_getElem_cons k1,List.drop_eq_getElem_cons k2]
    simp only[B4,Aj,AK k1,AK k2,Af (show k<4611686018427387904 by omega),cmpL]
    by_cases he:s[k]=t[k]
    ·have:=ih (k+1) k1 (by omega)
     simp[k1,k2,he]
     simpa using this
    ·by_cases hl:s[k]<t[k]<;>simp[k1,k2,he,hl]
   ·rw[List.drop_of_length_le (show s.length<=k by omega),List.drop_of_length_le (show t.length<=k by omega)]
    simp[B4,k1,cmpL]
 have:=key Aa 0 (Nat.zero_le _) (by unfold Aa;omega)
 rw[List.drop_zero,List.drop_zero]at this
 exact this
theorem DJ {a b:List Int} (ha:a.length<=1099511627775):Da a b=some (decide (a=b)):=by
 unfold Da
 by_cases hl:a.length=b.length
 ·rw[if_neg (by simp[hl]),eqX a b hl (λn i=>B1 n (a,b,i)) ?_ ?_ (by unfold Aa;omega)]
  ·by_cases h:a=b<;>simp[h]
  ·intro n k h1 h2
   simp only[B1,Aj,AK h1,AK h2,Af (show k<4611686018427387904 by omega)]
   by_cases h:a[k]=b[k]<;>simp[h1,h2,h]
  ·intro n
   simp[B1]
 ·rw[if_pos (by simp;omega),decide_eq_false (λe=>hl (by rw[e]))]
theorem cmpL_refl: ∀s,cmpL s s=0
 | []=>rfl
 |a::s=>by simp[cmpL,cmpL_refl s]
theorem cmpL_eq: ∀ {s t},cmpL s t=0↔s=t
 | [],[]=>by simp[cmpL]
 | [],_::_=>by simp[cmpL]
 |_::_,[]=>by simp[cmpL]
 |a::s,b::t=>by
  simp only[cmpL]
  by_cases h:a=b
  ·rw[if_pos h,cmpL_eq];simp[h]
  ·rw[if_neg h];split<;>simp[h]
theorem cmpL_symm: ∀s t,cmpL t s= -cmpL s t
 | [],[]=>by simp[cmpL]
 | [],_::_=>by simp[cmpL]
 |_::_,[]=>by simp[cmpL]
 |a::s,b::t=>by
  simp only[cmpL]
  by_cases h:a=b
  ·rw[if_pos h,if_pos h.symm,cmpL_symm s t]
  ·rw[if_neg h,if_neg (Ne.symm h)]
   by_cases h2:a<b
   ·rw[if_pos h2,if_neg (by omega)];rfl
   ·rw[if_neg h2,if_pos (by omega)]
theorem cmpL_trans: ∀ {s t u},cmpL s t<0->cmpL t u<0->cmpL s u<0
 | [],[],_,h,_=>by simp[cmpL]at h
 | [],_::_,[],_,h=>by simp[cmpL]at h
 | [],_::_,_::_,_,_=>by simp[cmpL]
 |_::_,[],_,h,_=>by simp[cmpL]at h
 |_::_,_::_,[],_,h=>by simp[cmpL]at h
 |a::s,b::t,c::u,h1,h2=>by
  simp only[cmpL]at*
  by_cases e1:a=b
  ·rw[if_pos e1]at h1
   by_cases e2:b=c
   ·rw[if_pos e2]at h2;rw[if_pos (e1.trans e2)];exact cmpL_trans h1 h2
   ·rw[if_neg e2]at h2;rw[e1,if_neg e2];exact h2
  ·rw[if_neg e1]at h1
   have l1:a<b:=by
    by_cases h:a<b
    ·exact h
    ·rw[if_neg h]at h1;omega
   by_cases e2:b=c
   ·rw[←e2,if_neg e1,if_pos l1];omega
   ·rw[if_neg e2]at h2
    have l2:b<c:=by
     by_cases h:b<c
     ·exact h
     ·rw[if_neg h]at h2;omega
    rw[if_neg (by omega),if_pos (by omega)];omega
def B7:List (List Int)->Bool
 |a::b::l=>decide (cmpL a b<0)&&B7 (b::l)
 |_=>true
theorem F7 {a:List Int} {l:List (List Int)} (h:B7 (a::l)=true):B7 l=true:=by
 cases l with
 |nil=>rfl
 |cons b l=>simp only[B7,Bool.and_eq_true]at h;exact h.2
theorem E1: ∀ {a:List Int} {l:List (List Int)},B7 (a::l)=true-> ∀b∈l,cmpL a b<0
 |a,[],_,b,hb=>by cases hb
 |a,c::l,h,b,hb=>by
  simp only[B7,Bool.and_eq_true,decide_eq_true_eq]at h
  rcases List.mem_cons.1 hb with rfl|hb
  ·exact h.1
  ·exact cmpL_trans h.1 (E1 h.2 b hb)
theorem C8: ∀ {l:List (List Int)},B7 l=true-> ∀(i j:Nat) (hi:i<j) (hj:j<l.length),cmpL (l[i]'(by omega)) l[j]<0
 | [],_,i,j,_,hj=>by simp at hj
 |a::l,h,0,j+1,_,hj=>by
  simp only[List.getElem_cons_zero,List.getElem_cons_succ]
  exact E1 h _ (List.getElem_mem _)
 |a::l,h,i+1,j+1,hi,hj=>by
  simp only[List.getElem_cons_succ]
  exact C8 (F7 h) i j (by omega) (by simpa using hj)
theorem Fs {l:List (List Int)}:B7 l=true↔ ∀(i:Nat) (hi:i+1<l.length),cmpL (l[i]'(by omega)) l[i+1]<0:=by
 constructor
 ·exact λh i hi=>C8 h i (i+1) (by omega) hi
 ·induction l with
  |nil=>intro _;rfl
  |cons a l ih=>
   intro h
   cases l with
   |nil=>rfl
   |cons b l=>
    simp only[B7,Bool.and_eq_true,decide_eq_true_eq]
    exact⟨h 0 (by simp),ih λi hi=>by have:=h (i+1) (by simpa using hi);simpa using this⟩
end T
open Go Go.Va
namespace T
theorem Eo {n:Int} (h0:0<=n) (h8:n<=8): ∀k:Nat,0<=n^k/\n^k<=8^k
 |0=>by simp
 |k+1=>by
  obtain⟨h1,h2⟩:=Eo h0 h8 k
  rw[Int.pow_succ,Int.pow_succ]
  exact⟨Int.mul_nonneg h1 h0,Int.mul_le_mul h2 h8 h0 (by have:(0:Int)<=8^k:=Int.le_trans h1 h2;exact this)⟩
theorem Hn: ∀k:Nat,k<=20->(8:Int)^k<=8^20:=by
 intro k hk
 have:((8^k:Nat):Int)<=((8^20:Nat):Int):=Int.ofNat_le.2 (Nat.pow_le_pow_right (by omega) hk)
 simpa using this
theorem GH {n:Int} (h0:0<=n) (h8:n<=8) {k:Nat} (hk:k<=20):0<=n^k/\n^k<=1152921504606846976:=by
  obtain⟨h1,h2⟩:=Eo h0 h8 k
  have:=Hn k hk
  exact ⟨h1, by have e : (8 : Int) ^ 20 = 1152921504606846976 := by decide
                omega⟩
theorem GI {n:Int} (h0:0<=n) (h8:n<=8): ∀(m k j:Nat),j+k<=20->k<m->CJ m (n,(k:Int),n^j)=some (n^(j+k)):=by
 intro m
 induction m with
 |zero=>intro k j _ h;omega
 |succ m ih=>
  intro k j hj hk
  simp only[CJ]
  cases k with
  |zero=>simp
  |succ k=>
   have e:w64 (((k+1:Nat):Int)-1)=(k:Int):=by rw[AN (by omega) (by omega)];omega
   have hb:=GH h0 h8 (k:=j+1) (by omega)
   rw[Int.pow_succ]at hb
   rw[e,AN (by omega) (by omega),←Int.pow_succ,if_pos (by simp),ih k (j+1) (by omega) (by omega)]
   congr 2<;>omega
theorem EW {n:Int} (h0:0<=n) (h8:n<=8) {k:Nat} (hk:k<=20):Dv n (k:Int)=some (n^k):=by
 unfold Dv
 have:=GI h0 h8 Aa k 0 (by omega) (by unfold Aa;omega)
 rw[Int.pow_zero]at this
 rw[this];simp
theorem GD {n:Int} (h0:0<=n) (h8:n<=8): ∀(m k j:Nat),j+k<=20->k<m->CN m (n,(k:Int),n^j)=some (n^(j+k)):=by
 intro m
 induction m with
 |zero=>intro k j _ h;omega
 |succ m ih=>
  intro k j hj hk
  simp only[CN]
  cases k with
  |zero=>simp
  |succ k=>
   have e:w64 (((k+1:Nat):Int)-1)=(k:Int):=by rw[AN (by omega) (by omega)];omega
   have hb:=GH h0 h8 (k:=j+1) (by omega)
   rw[Int.pow_succ]at hb
   rw[e,AN (by omega) (by omega),←Int.pow_succ,if_pos (by simp),ih k (j+1) (by omega) (by omega)]
   congr 2<;>omega
theorem Dg {n:Int} (h0:0<=n) (h8:n<=8) {k:Nat} (hk:k<=20):Co n (k:Int)=some (n^k):=by
 unfold Co
 have:=GD h0 h8 Aa k 0 (by omega) (by unfold Aa;omega)
 rw[Int.pow_zero]at this
 rw[this];simp
def Fb (n:Int):Int->List Int->Int
 |i,[]=>i
 |i,a::l=>Fb n (i*n+a) l
def idx (n:Int) (l:List Int):Int:=Fb n 0 l
theorem Fe (n:Int): ∀(l:List Int) (i:Int),Fb n i l=i*n^l.length+Fb n 0 l
 | [],i=>by simp[Fb]
 |a::l,i=>by
  simp only[Fb,List.length_cons]
  rw[Fe n l (i*n+a),Fe n l (0*n+a),Int.pow_succ]
  simp only[Int.zero_mul,Int.zero_add]
  rw[Int.add_mul,Int.mul_assoc,Int.mul_comm n (n^l.length)]
  omega
theorem EK (n a:Int) (l:List Int):idx n (a::l)=a*n^l.length+idx n l:=by
 unfold idx
 simp only[Fb]
 rw[Fe];simp
theorem DD {n a:Int} {l:List Int}:AS n (a::l)=true↔(0<=a/\a<n)/\AS n l=true:=by
 unfold AS;simp[List.all_cons]
theorem EJ {n:Int}: ∀ {l:List Int},AS n l=true->0<=idx n l/\idx n l<n^l.length
 | [],_=>by simp[idx,Fb]
 |a::l,h=>by
  obtain⟨h1,h2⟩:=DD.1 h
  obtain⟨h3,h4⟩:=EJ h2
  rw[EK,List.length_cons,Int.pow_succ]
  have hp:0<=n^l.length:=by omega
  have k1:=Int.mul_nonneg h1.1 hp
  have k2:=Int.mul_le_mul_of_nonneg_right (show a+1<=n by omega) hp
  rw[Int.add_mul,Int.one_mul,Int.mul_comm n]at k2
  exact⟨by omega,by omega⟩
theorem FO {n:Int}: ∀ {s t:List Int},AS n s=true->AS n t=true->s.length=t.length->(cmpL s t<0↔idx n s<idx n t)/\(cmpL s t=0↔idx n s=idx n t)
 | [],[],_,_,_=>by simp[cmpL,idx,Fb]
 | [],_::_,_,_,h=>by simp at h
 |_::_,[],_,_,h=>by simp at h
 |a::s,b::t,hs,ht,hl=>by
  obtain⟨s1,s2⟩:=DD.1 hs
  obtain⟨t1,t2⟩:=DD.1 ht
  have hl':s.length=t.length:=by simpa using hl
  have ih:=FO s2 t2 hl'
  obtain⟨b1,b2⟩:=EJ s2
  obtain⟨c1,c2⟩:=EJ t2
  rw[EK,EK,hl']
  rw[hl']at b2
  simp only[cmpL]
  have hp:0<=n^t.length:=by omega
  rcases Int.lt_trichotomy a b with h|h|h
  ·have:=Int.mul_le_mul_of_nonneg_right (show a+1<=b by omega) hp
   rw[Int.add_mul,Int.one_mul]at this
   rw[if_neg (by omega),if_pos h]
   exact⟨by constructor<;>intro<;>omega,by constructor<;>intro<;>omega⟩
  ·subst h
   rw[if_pos rfl]
   exact⟨by rw[ih.1];constructor<;>intro<;>omega,by rw[ih.2];constructor<;>intro<;>omega⟩
  ·have:=Int.mul_le_mul_of_nonneg_right (show b+1<=a by omega) hp
   rw[Int.add_mul,Int.one_mul]at this
   rw[if_neg (by omega),if_neg (by omega)]
   exact⟨by constructor<;>intro<;>omega,by constructor<;>intro<;>omega⟩
theorem En {n:Int} {k:Nat} {l:List (List Int)} (hi:B7 l=true) (hv: ∀t∈l,t.length=k/\AS n t=true):(l.length:Int)<=n^k∨l= []:=by
 have key: ∀(i:Nat) (h:i<l.length),(i:Int)<=idx n l[i]:=by
  intro i
  induction i with
  |zero=>intro h;exact(EJ (hv _ (List.getElem_mem h)).2).1
  |succ i ih=>
   intro h
   have h1:=ih (by omega)
   obtain⟨l1,b1⟩:=hv _ (List.getElem_mem (show i<l.length by omega))
   obtain⟨l2,b2⟩:=hv _ (List.getElem_mem h)
   have:=(FO b1 b2 (l1.trans l2.symm)).1.1 (C8 hi i (i+1) (by omega) h)
   omega
 cases hn:l.length with
 |zero=>exact .inr (List.length_eq_zero_iff.1 hn)
 |succ m=>
  left
  have h:=key m (by omega)
  obtain⟨l1,b1⟩:=hv _ (List.getElem_mem (show m<l.length by omega))
  have:=(EJ b1).2
  rw[l1]at this
  omega
theorem G2 {list:List (List Int)} {t:List Int} {k:Nat} (hl:list.length<=1099511627775) (hk:k<=1099511627775) (hv: ∀u∈list,u.length=k) (ht:t.length=k) (hi:B7 list=true): ∀(m a b:Nat),a<=b->b<=list.length->b-a<m->
  (∀i (h:i<list.length),i<a->cmpL list[i] t<0)->(∀i (h:i<list.length),b<=i-> ¬cmpL list[i] t<0)->
  ∃c:Nat,BK m (list,t,(a:Int),(b:Int))=some (list,t,(c:Int))/\c<=list.length/\(∀i (h:i<list.length),i<c->cmpL list[i] t<0)/\(∀i (h:i<list.length),c<=i-> ¬cmpL list[i] t<0):=by
 intro m
 induction m with
 |zero=>intro a b _ _ h;omega
 |succ m ih=>
  intro a b hab hb hm h1 h2
  simp only[BK]
  by_cases hlt:a<b
  ·have emid:w64 (Int.tdiv (w64 ((a:Int)+b)) 2)=(((a+b)/2:Nat):Int):=by
    rw[AN (x:=(a:Int)+b) (by omega) (by omega),Int.tdiv_eq_ediv_of_nonneg (by omega),AN (by omega) (by omega)];omega
   have hmid:(a+b)/2<list.length:=by omega
   rw[emid]
   have hless:=DN (s:=list[(a+b)/2]) (t:=t) (by rw[hv _ (List.getElem_mem hmid)];omega) (by rw[hv _ (List.getElem_mem hmid),ht])
   simp only[Aj,AK hmid,hless,Option.bind_some,Af (show(a+b)/2<4611686018427387904 by omega)]
   by_cases hc:cmpL list[(a+b)/2] t<0
   ·obtain⟨c,e,k1,k2,k3⟩:=ih ((a+b)/2+1) b (by omega) hb (by omega) (λi h hi'=>by
     rcases Nat.lt_or_ge i ((a+b)/2)with h'|h'
     ·exact cmpL_trans (C8 hi i ((a+b)/2) h' hmid) hc
     ·have:i=(a+b)/2:=by omega
      subst this;exact hc) h2
    exact⟨c,by simpa[hlt,hmid,hc]using e,k1,k2,k3⟩
   ·obtain⟨c,e,k1,k2,k3⟩:=ih a ((a+b)/2) (by omega) (by omega) (by omega) h1 (λi h hi' hneg=>by
     rcases Nat.lt_or_ge ((a+b)/2) i with h'|h'
     ·exact hc (cmpL_trans (C8 hi ((a+b)/2) i h' h) hneg)
     ·have:i=(a+b)/2:=by omega
      subst this;exact hc hneg)
    exact⟨c,by simpa[hlt,hmid,hc]using e,k1,k2,k3⟩
  ·have:a=b:=by omega
   subst this
   exact⟨a,by simp,hb,h1,h2⟩
theorem DO {list:List (List Int)} {t:List Int} {k:Nat} (hl:list.length<=1099511627774) (hk:k<=1099511627775) (hv: ∀u∈list,u.length=k) (ht:t.length=k) (hi:B7 list=true):
  ∃c:Nat,BC list t=some ((c:Int),decide (t∈list))/\c<=list.length/\(∀i (h:i<list.length),i<c->cmpL list[i] t<0)/\(∀i (h:i<list.length),c<=i-> ¬cmpL list[i] t<0):=by
 obtain⟨c,e,k1,k2,k3⟩:=G2 (by omega) hk hv ht hi Aa 0 list.length (Nat.zero_le _) (Nat.le_refl _) (by unfold Aa;omega) (λi _ h=>by omega) (λi h h'=>by omega)
 refine⟨c,?_,k1,k2,k3⟩
 unfold BC
 have e':BK Aa (list,t,0,(list.length:Int))=some (list,t,(c:Int)):=e
 rw[e']
 simp only[Option.bind_some]
 by_cases hc:c<list.length
 ·have hs:=DJ (a:=list[c]) (b:=t) (by rw[hv _ (List.getElem_mem hc)];omega)
  simp only[Aj,AK hc,hs,Option.bind_some]
  have:decide (list[c]=t)=decide (t∈list):=by
   by_cases h:list[c]=t
   ·rw[decide_eq_true h,decide_eq_true (h▸List.getElem_mem hc)]
   ·rw[decide_eq_false h]
    symm;rw[decide_eq_false_iff_not]
    intro hm
    obtain⟨j,hj,rfl⟩:=List.mem_iff_getElem.1 hm
    have hne:j≠c:=λe=>h (by subst e;rfl)
    rcases Nat.lt_or_ge j c with hlt|hge
    ·have:=k2 j hj hlt;rw[cmpL_refl]at this;omega
    ·exact k3 c hc (Nat.le_refl _) (C8 hi c j (by omega) hj)
  simp[hc,this]
 ·have:decide (t∈list)=false:=by
   rw[decide_eq_false_iff_not]
   intro hm
   obtain⟨j,hj,rfl⟩:=List.mem_iff_getElem.1 hm
   have:=k2 j hj (by omega);rw[cmpL_refl]at this;omega
  rw[if_neg (by simp;omega),this]
end T
open Go Go.Va
namespace T
def Cd (n:Int):Bool:=decide (1<=n/\n<=8)
theorem DG (n:Int):C6 n=some (Cd n):=by
 unfold C6 Cd
 by_cases h:1<=n<;>simp[h]
theorem CA (n:Int):Cs n=some (Cd n):=by
 unfold Cs Cd
 rw[B9];simp
def Fj (n k:Int) (t:List Int):Bool:=decide ((t.length:Int)=k)&&AS n t
def C2 (n k:Int) (ts:List (List Int)):Bool:=Cd n&&decide (1<=k/\k<=4)&&ts.all (Fj n k)&&B7 ts
def CR (n k:Int) (ts:List (List Int)) (i:Nat):Bool:=Fj n k (ts.getD i [])&&(decide (i=0)||decide (cmpL (ts.getD (i-1) []) (ts.getD i [])<0))
theorem BW {α:Type} {l:List α} {i:Nat} {d:α} (h:i<l.length):l.getD i d=l[i]:=by simp[h]
theorem FB (n k:Int) (ts:List (List Int)):(List.range ts.length).all (CR n k ts)=(ts.all (Fj n k)&&B7 ts):=by
 rw[Bool.eq_iff_iff,Bool.and_eq_true,List.all_eq_true,List.all_eq_true,Fs]
 constructor
 ·intro h
  refine⟨λt ht=>?_,λi hi=>?_⟩
  ·obtain⟨i,hi,rfl⟩:=List.mem_iff_getElem.1 ht
   have:=h i (by simpa using hi)
   unfold CR at this
   rw[BW hi]at this
   simp at this;exact this.1
  ·have:=h (i+1) (by simpa using hi)
   unfold CR at this
   rw[BW hi,Nat.add_sub_cancel,BW (show i<ts.length by omega)]at this
   simp only[Bool.and_eq_true,Bool.or_eq_true,decide_eq_true_eq]at this
   exact this.2.resolve_left (by omega)
 ·rintro ⟨h1,h2⟩ i hi
  have hi:i<ts.length:=by simpa using hi
  unfold CR
  rw[BW hi]
  simp only[Bool.and_eq_true,Bool.or_eq_true,decide_eq_true_eq]
  refine⟨h1 _ (List.getElem_mem hi),?_⟩
  cases i with
  |zero=>exact .inl rfl
  |succ i=>right;rw[Nat.add_sub_cancel,BW (show i<ts.length by omega)];exact h2 i hi
theorem Ej {k:Nat} (h:k<4611686018427387904) (h0:0<k):w64 ((k:Int)-1)=((k-1:Nat):Int):=by
 rw[AN (by omega) (by omega)];omega
theorem Cm {n k:Int} {ts:List (List Int)} (hl:ts.length<=1099511627774) (hr: ∀t∈ts,t.length<=1099511627775):BP n k ts=some (C2 n k ts):=by
 unfold BP C2
 rw[DG,Bool.and_assoc,←FB]
 cases hs:Cd n with
 |false=>simp
 |true=>
  by_cases h1:k<1
  ·simp[h1,show¬1<=k by omega]
  ·by_cases h4:k>4
   ·simp[h1,h4,show¬k<=4 by omega]
   ·simp only[Option.bind_some,Bool.not_true,Bool.false_eq_true,if_false]
    rw[if_neg (by simpa using h1),if_neg (by simpa using h4)]
    have key:=Ih ts.length (λm (_:Unit) i=>Bb m (n,k,ts,ts,(ts.length:Int),i)) (λ_=>()) (CR n k ts) (r:=some (.inr false)) (e:=some (.inl ())) (λm i hi=>?_) (λm=>?_) (n:=Aa) (by unfold Aa;omega)
    ·rw[key]
     cases (List.range ts.length).all (CR n k ts)<;>simp<;>omega
    ·have hlen:=hr ts[i] (List.getElem_mem hi)
     unfold CR Fj
     rw[BW hi]
     simp only[Bb,Aj,AK hi,Af (show i<4611686018427387904 by omega),CZ n hlen,Option.bind_some]
     by_cases hk:(ts[i].length:Int)=k
     ·cases hb:AS n ts[i]with
      |false=>simp[hi,hk]
      |true=>
       cases i with
       |zero=>simp[hi,hk]
       |succ i=>
        have hi':i<ts.length:=by omega
        rw[Ej (by omega) (by omega),Nat.add_sub_cancel,BW hi']
        simp only[AK hi',DE (t:=ts[i+1]) (hr ts[i] (List.getElem_mem hi')),Aj,Option.bind_some]
        by_cases hc:cmpL ts[i] ts[i+1]<0
        ·simp[hi,hi',hk,show¬0<=cmpL ts[i] ts[i+1] by omega,show(0:Int)<(i:Int)+1 by omega,show(i:Int)+1<ts.length by omega,hc]
        ·simp[hi,hi',hk,hc,show(0:Int)<(i:Int)+1 by omega,show(i:Int)+1<ts.length by omega,show 0<=cmpL ts[i] ts[i+1] by omega]
     ·simp[hi,hk]
    ·simp[Bb]
theorem FI {n k:Int} {ts:List (List Int)} (h:C2 n k ts=true):(ts.length:Int)<=n^k.toNat:=by
 unfold C2 Cd at h
 simp only[Bool.and_eq_true,decide_eq_true_eq,List.all_eq_true]at h
 obtain⟨⟨⟨h1,h2⟩,h3⟩,h4⟩:=h
 rcases En (n:=n) (k:=k.toNat) h4 λt ht=>by
  have:=h3 t ht
  unfold Fj at this
  simp only[Bool.and_eq_true,decide_eq_true_eq]at this
  exact⟨by omega,this.2⟩with h|h
 ·exact h
 ·rw[h];exact(Eo (by omega) h1.2 k.toNat).1
theorem B2 {n k:Int} {ts:List (List Int)} (hl:ts.length<=1099511627774) (hr: ∀t∈ts,t.length<=1099511627775):Bl n k ts=some (C2 n k ts):=by
 unfold Bl
 rw[CA,B9]
 cases hs:Cd n with
 |false=>simp[C2,hs]
 |true=>
  by_cases h1:1<=k/\k<=4
  ·have hsz:1<=n/\n<=8:=by unfold Cd at hs;simpa using hs
   have hp:=Dg (n:=n) (by omega) hsz.2 (k:=k.toNat) (by omega)
   rw[show((k.toNat:Nat):Int)=k by omega]at hp
   simp only[Option.bind_some,Bool.not_true,Bool.false_eq_true,if_false,h1,and_self,decide_true,hp]
   by_cases hc:(ts.length:Int)>n^k.toNat
   ·rw[if_pos (by simpa using hc)]
    cases h:C2 n k ts with
    |false=>rfl
    |true=>have:=FI h;omega
   ·rw[if_neg (by simpa using hc)]
    have key:=HE ts.length (λm (_:Unit) i=>BJ m (n,k,ts,i)) (λ_=>()) (λi=>if CR n k ts i then none else some (some (.inr false))) (e:=some (.inl ())) (λm i hi hprev=>?_) (λm=>?_) (n:=Aa) (by unfold Aa;omega)
    ·rw[key]
     unfold C2
     rw[hs,Bool.and_assoc,←FB]
     have: ∀l:List Nat,(l.findSome? λi=>if CR n k ts i then none else some (some (.inr false:Unit⊕Bool))).getD (some (.inl ()))=if l.all (CR n k ts)then some (.inl ())else some (.inr false):=by
      intro l
      induction l with
      |nil=>rfl
      |cons a l ih=>
       rw[List.findSome?_cons,List.all_cons]
       cases CR n k ts a with
       |true=>simpa using ih
       |false=>simp
     rw[this]
     cases (List.range ts.length).all (CR n k ts)<;>simp[h1]
    ·have hlen:=hr ts[i] (List.getElem_mem hi)
     have htup:=EC (l:=ts[i]) (n:=n) k (by omega) (by omega) hlen
     simp only[BJ,Aj,AK hi,Af (show i<4611686018427387904 by omega),htup,Option.bind_some]
     have hst:CR n k ts i=((decide ((ts[i].length:Int)=k)&&AS n ts[i])&&(decide (i=0)||decide (cmpL (ts.getD (i-1) []) ts[i]<0))):=by unfold CR Fj;rw[BW hi]
     rw[hst]
     cases hb:(decide ((ts[i].length:Int)=k)&&AS n ts[i])with
     |false=>simp[hi]
     |true=>
      cases i with
      |zero=>simp[hi]
      |succ i=>
       have hi':i<ts.length:=by omega
       have hpv:=hprev i (by omega)
       have hpv:CR n k ts i=true:=by
        cases h:CR n k ts i with
        |true=>rfl
        |false=>rw[h]at hpv;simp at hpv
       unfold CR Fj at hpv
       rw[BW hi']at hpv
       simp only[Bool.and_eq_true,decide_eq_true_eq]at hpv hb
       have hless:=DN (s:=ts[i]) (t:=ts[i+1]) (hr ts[i] (List.getElem_mem hi')) (by omega)
       rw[Ej (by omega) (by omega),Nat.add_sub_cancel,BW hi']
       simp only[AK hi',hless,Aj,Option.bind_some]
       by_cases hc:cmpL ts[i] ts[i+1]<0
       ·simp[hi,hi',hc,show(0:Int)<(i:Int)+1 by omega,show(i:Int)+1<ts.length by omega]
       ·simp[hi,hi',hc,show(0:Int)<(i:Int)+1 by omega,show(i:Int)+1<ts.length by omega]
    ·simp[BJ]
  ·unfold C2;rw[hs];simp[h1]
end T
open Go Go.Va
namespace T
structure SetOk (p:Int) (k:Nat) (ts:List (List Int)):Prop where
 hp:2<=p/\p<=7
 hk:k<=4
 len: ∀t∈ts,t.length=k
 el: ∀t∈ts,AS p t=true
 inc:B7 ts=true
theorem SetOk.count {p:Int} {k:Nat} {ts:List (List Int)} (h:SetOk p k ts):ts.length<=2401:=by
 rcases En (n:=p) (k:=k) h.inc λt ht=>⟨h.len t ht,h.el t ht⟩with h'|h'
 ·have hp:=h.hp
  have e:p^k<=7^4:=by
   have:(p.toNat^k:Nat)<=7^4:=Nat.le_trans (Nat.pow_le_pow_left (show p.toNat<=7 by omega) k) (Nat.pow_le_pow_right (by omega) h.hk)
   have e2:((p.toNat^k:Nat):Int)=p^k:=by
    rw[Int.natCast_pow];congr 1;omega
   rw[←e2];exact_mod_cast this
  have:(7:Int)^4=2401:=by decide
  omega
 ·rw[h'];simp
section
variable {p:Int} {k:Nat} {ts:List (List Int)}
theorem SetOk.get (h:SetOk p k ts) {t:List Int} (ht:t∈ts) {i:Nat} (hi:i<k):i<t.length/\0<=t.getD i 0/\t.getD i 0<p:=by
 have hl:=h.len t ht
 have:=D2 (h.el t ht) i (by omega)
 rw[BW (by omega)]
 exact⟨by omega,this⟩
end
end T
set_option linter.unusedVariables false
open Go Go.Va
namespace T
def B0 (l:List Int):Option ((List Int)):=
 if([]:List Int).length+l.length<=lim then
 some ([]++l)
 else none
def Ci:Nat->((List Int)×Int×Int)->Option ((Unit)⊕(Bool))
 |0,_=>none
 |n+1,(l,n_,i)=>
 if decide (i<(l.length:Int))then
 if inb i l then
 if(gd l i 0)==n_ then
 some (.inr true)
 else
 Ci n (l,n_,w64 (i+1))
 else none
 else
 some (.inl ())
def Dx (l:List Int) (n_:Int):Option (Bool):=
 (Ci Aa (l,n_,0)).bind λs1=>
  match s1 with
  | .inl s2=>
   some false
  | .inr s3=>
   some s3
end T
open Go Go.Va
namespace T
abbrev Con:=List Int×Int×List (List Int)
abbrev Net:=Int×Int×List Con
theorem AC {α:Type} {l:List α} {k:Nat} {d:α} (h:k<l.length):l.getD k d=l[k]:=by simp[List.getD_eq_getElem?_getD,h]
end T
open Go Go.Va
namespace T
theorem GX (a b:Int):(a==b)=decide (a=b):=by by_cases h:a=b<;>simp[h]
theorem GY (a b:Int):(a !=b)=!decide (a=b):=by by_cases h:a=b<;>simp[h]
def g0 (l:List Int) (i:Nat):Int:=l.getD i 0
section
variable {v n up:Int} {c:Con} {vals:List Int}
theorem BT {l:List Int} (h:l.length<=1099511627775):B0 l=some l:=by
 unfold B0
 rw[if_pos (by unfold lim;simp;omega)];simp
end
end T
open Go Go.Va
namespace T
abbrev Dom:=List (List Bool)
def mk (bs:List Bool):List Int:=((List.range bs.length).filter λi=>bs.getD i false).map λi:Nat=>(i:Int)
def d2 (d:Dom) (v x:Nat):Bool:=(d.getD v []).getD x false
theorem AI {α:Type} {l:List α} {i j:Nat} {y d:α}:(l.set i y).getD j d=if i=j/\j<l.length then y else l.getD j d:=by
 simp only[List.getD_eq_getElem?_getD,List.getElem?_set]
 by_cases h:i=j
 ·subst h
  by_cases h2:i<l.length
  ·simp[h2]
  ·simp[h2]
 ·simp[h]
theorem CM {l:List Int} {x:Int} (h:l.length<=1048576):Dx l x=some (decide (x∈l)):=by
 unfold Dx
 rw[Gj l (λn i=>Ci n (l,x,i)) (λy=>!decide (y=x)) (.inr true) (.inl ()) ?_ ?_ (by unfold Aa;omega)]
 ·by_cases hx:x∈l
  ·rw[if_neg]
   ·simp[hx]
   ·rw[List.all_eq_true];intro h;have:=h x hx;simp at this
  ·rw[if_pos]
   ·simp[hx]
   ·rw[List.all_eq_true];intro y hy;have:y≠x:=λe=>hx (e▸hy)
    simp[this]
 ·intro n k hk
  simp only[Ci,Aj,AK hk,Af (show k<4611686018427387904 by omega)]
  by_cases e:l[k]=x<;>simp[hk,e]
 ·intro n;simp[Ci]
end T
open Go Go.Va
namespace T
abbrev ASt:=Dom×List (Int×Int×Int)
section
variable {a:Net} {K:Nat} {c:Con}
end
end T
open Go Go.Va
namespace T
theorem w1:w64 1=1:=by rw[ED];rfl
theorem w2:w64 2=2:=by rw[ED];rfl
theorem w3:w64 3=3:=by rw[ED];rfl
section
variable {a:Net}
end
end T
set_option linter.unusedVariables false
open Go Go.Va
namespace T
def Cz:Nat->(Int×(Int×(List Int))×Int)->Option ((Unit)⊕(Bool))
 |0,_=>none
 |n+1,(n_,op,i)=>
 if decide (i<(op.2.length:Int))then
 if inb i op.2 then
 (Cq (gd op.2 i 0) 0 (w64 (n_-1))).bind λr3=>
 if !r3 then
 some (.inr false)
 else
 Cz n (n_,(op.1,op.2),w64 (i+1))
 else none
 else
 some (.inl ())
def Er (n_:Int) (op:Int×(List Int)):Option (Bool):=
 (Cq op.1 0 3).bind λr1=>
  if !r1 then
   some false
  else
   (Co n_ op.1).bind λr2=>
    if(op.2.length:Int) !=r2 then
     some false
    else
     (Cz Aa (n_,(op.1,op.2),0)).bind λs3=>
      match s3 with
      | .inl s4=>
       some true
      | .inr s5=>
       some s5
def DT (f:Int×(List Int)) (n_:Int):Option (Bool):=
 if decide (f.1≥0)then
 if decide (f.1<=3)then
 (Dv n_ f.1).bind λr1=>
 if(f.2.length:Int)==r1 then
 (CP f.2 n_).bind λr2=>
 some r2
 else
 some false
 else
 some false
 else
 some false
end T
open Go Go.Va
namespace T
abbrev Opn:=Int×List Int
def opB (n:Int) (f:Opn):Bool:=decide (0<=f.1/\f.1<=3)&&decide ((f.2.length:Int)=n^f.1.toNat)&&AS n f.2
theorem Ed {n:Int} (hn:0<=n/\n<=8) {f:Opn} (h:f.2.length<=1048576):DT f n=some (opB n f):=by
 obtain⟨ar,l⟩:=f
 unfold DT opB
 by_cases h0:0<=ar
 ·by_cases h1:ar<=3
  ·obtain⟨m,rfl⟩: ∃m:Nat,ar=m:=⟨ar.toNat,by omega⟩
   have hm:Dv n (m:Int)=some (n^m):=EW hn.1 hn.2 (by omega)
   simp only[ge_iff_le,h0,h1,decide_true,if_true,hm,Option.bind_some,CZ n (show l.length<=1099511627775 by simp at h;omega),Int.toNat_natCast,and_self,Bool.true_and,GX]
   by_cases hl:(l.length:Int)=n^m<;>simp[hl]
  ·simp[h0,h1]
 ·simp[h0]
theorem Fh {n:Int} (hn:0<=n/\n<=8) {f:Opn} (h:f.2.length<=1048576):Er n f=some (opB n f):=by
 obtain⟨ar,l⟩:=f
 unfold Er opB
 rw[B9]
 by_cases h0:0<=ar/\ar<=3
 ·obtain⟨m,rfl⟩: ∃m:Nat,ar=m:=⟨ar.toNat,by omega⟩
  have hm:Co n (m:Int)=some (n^m):=Dg hn.1 hn.2 (by omega)
  have hw:w64 (n-1)=n-1:=AN (by omega) (by omega)
  have key:=Gj l (λk i=>Cz k (n,((m:Int),l),i)) (λx=>decide (0<=x/\x<n)) (.inr false) (.inl ()) ?_ ?_ (n:=Aa) (by unfold Aa;simp at h;omega)
  ·simp only[h0,and_self,decide_true,Option.bind_some,Bool.not_true,Bool.false_eq_true,if_false,hm,key,Int.toNat_natCast,Bool.true_and,GY]
   by_cases hl:(l.length:Int)=n^m
   ·have:AS n l=l.all λx=>decide (0<=x/\x<n):=rfl
    rw[this]
    cases l.all (λx=>decide (0<=x/\x<n))<;>simp[hl]
   ·simp[hl]
  ·intro k i hi
   simp only at h
   simp only[Cz,Aj,AK hi,B9,hw,Option.bind_some,Af (show i<4611686018427387904 by omega)]
   by_cases hx:0<=l[i]/\l[i]<n
   ·simp[hi,hx,show l[i]<=n-1 by omega]
   ·have: ¬(0<=l[i]/\l[i]<=n-1):=by omega
    simp[hi,hx,this]
  ·intro k;simp[Cz]
 ·simp[h0]
def inR (n x:Int):Prop:=0<=x/\x<n
section
variable {n:Int} {f:Opn}
variable {a:Net}
end
end T
set_option linter.unusedVariables false
open Go Go.Va
namespace T
def DB:Nat->((List Int)×(List Int)×(List Int)×Int×Int)->Option ((List Int))
 |0,_=>none
 |n+1,(g,h,t11,t12,t13)=>
 if decide (t13<t12)then
 if inb t13 t11 then
 if inb (gd t11 t13 0) g then
 if inb t13 h then
 DB n (g,stt h t13 (gd g (gd t11 t13 0) 0),t11,t12,w64 (t13+1))
 else none
 else none
 else none
 else
 some h
def Ff (f:List Int) (g:List Int):Option ((List Int)):=
 if 0<=(f.length:Int)/\(f.length:Int)<=(f.length:Int)/\(f.length:Int)<=lim then
 (DB Aa (g,List.replicate (Int.toNat (f.length:Int)) (0:Int),f,(f.length:Int),0)).bind λs1=>
 some s1
 else none
def BG:Nat->((List Int)×(List Int)×Int×Int)->Option ((Unit)⊕(Bool))
 |0,_=>none
 |n+1,(b,t12,t13,t14)=>
 if decide (t14<t13)then
 if inb t14 t12 then
 if inb t14 b then
 if(gd b t14 0) !=(gd t12 t14 0)then
 some (.inr false)
 else
 BG n (b,t12,t13,w64 (t14+1))
 else none
 else none
 else
 some (.inl ())
def CK (a:List Int) (b:List Int):Option (Bool):=
 if(a.length:Int) !=(b.length:Int)then
  some false
 else
  (BG Aa (b,a,(a.length:Int),0)).bind λs1=>
   match s1 with
   | .inl s2=>
    some true
   | .inr s3=>
    some s3
end T
open Go Go.Va
namespace T
def Hr (vs:List Int) (v:Int):Int:=vs.getD v.toNat 0
def HX (vs:List Int) (c:Con):Bool:=decide (c.1.map (Hr vs)∈c.2.2)
def Ia (l:List Con) (vs:List Int):Bool:=l.all (HX vs)
def Ii (vars:List Int) (c:Con):Bool:=c.1.all λv=>decide (v∈vars)
def H5 (a:Net) (vars:List Int):List Con:=a.2.2.filter (Ii vars)
section
variable {a:Net}
theorem Dk {x y:List Int} (h:x.length<=1048576):CK x y=some (decide (x=y)):=by
 unfold CK
 by_cases hl:x.length=y.length
 ·rw[if_neg (by simp[hl])]
  rw[eqX x y hl (λn i=>BG n (y,x,(x.length:Int),i)) (λn k h1 h2=>?_) (λn=>?_) (n:=Aa) (by unfold Aa;omega)]
  ·by_cases e:x=y<;>simp[e]
  ·simp only[BG,Aj,AK h1,AK h2,Af (show k<4611686018427387904 by omega)]
   by_cases e:x[k]=y[k]
   ·simp[h1,h2,e]
   ·have e':y[k]≠x[k]:=λh=>e h.symm
    simp[h1,h2,e,e']
  ·simp[BG]
 ·have:x≠y:=λe=>hl (by rw[e])
  rw[if_pos (by simp;omega)];simp[this]
end
end T
open Go Go.Va
namespace T
theorem Ec {α:Type} {k:Nat} {xs:List α} {d:α}:gd xs (k:Int) d=xs.getD k d:=rfl
abbrev T3:=List (List (List Bool))
abbrev T4:=List (List (List (List Bool)))
def Hu (s:Nat) (c:List (List Bool)):Prop:=c.length=s/\ ∀x,x<s->(c.getD x []).length=s
def HU (n s:Nat) (r:T3):Prop:=r.length=n/\ ∀j,j<n->Hu s (r.getD j [])
def Ok4 (n s:Nat) (t:T4):Prop:=t.length=n/\ ∀i,i<n->HU n s (t.getD i [])
def r4 (t:T4) (i j x y:Nat):Bool:=(((t.getD i []).getD j []).getD x []).getD y false
def s4 (t:T4) (i j x y:Nat) (b:Bool):T4:=t.set i ((t.getD i []).set j (((t.getD i []).getD j []).set x ((((t.getD i []).getD j []).getD x []).set y b)))
def Ok3 (n m:Nat) (u:T3):Prop:=u.length=n/\ ∀i,i<n->(u.getD i []).length=n/\ ∀j,j<n->((u.getD i []).getD j []).length=m
def r3 (u:T3) (i j p:Nat):Bool:=((u.getD i []).getD j []).getD p false
def s3 (u:T3) (i j p:Nat) (b:Bool):T3:=u.set i ((u.getD i []).set j (((u.getD i []).getD j []).set p b))
section
variable {n s m:Nat} {t:T4} {u:T3}
theorem Ok4.at (h:Ok4 n s t) {i j x:Nat} (hi:i<n) (hj:j<n) (hx:x<s):i<t.length/\j<(t.getD i []).length/\x<((t.getD i []).getD j []).length/\(((t.getD i []).getD j []).getD x []).length=s:=
 ⟨by rw[h.1];exact hi,by rw[(h.2 i hi).1];exact hj,by rw[((h.2 i hi).2 j hj).1];exact hx,((h.2 i hi).2 j hj).2 x hx⟩
theorem Ok3.at (h:Ok3 n m u) {i j:Nat} (hi:i<n) (hj:j<n):i<u.length/\j<(u.getD i []).length/\((u.getD i []).getD j []).length=m:=
 ⟨by rw[h.1];exact hi,by rw[(h.2 i hi).1];exact hj,(h.2 i hi).2 j hj⟩
theorem FW (h:Ok4 n s t) {i j x y:Nat} {b:Bool}:Ok4 n s (s4 t i j x y b):=by
 unfold s4
 refine⟨by rw[List.length_set];exact h.1,λi' hi'=>?_⟩
 rw[AI]
 split
 ·rename_i hc
  obtain⟨rfl,_⟩:=hc
  have hr:=h.2 i hi'
  refine⟨by rw[List.length_set];exact hr.1,λj' hj'=>?_⟩
  rw[AI]
  split
  ·rename_i hc
   obtain⟨rfl,_⟩:=hc
   have hcl:=hr.2 j hj'
   refine⟨by rw[List.length_set];exact hcl.1,λx' hx'=>?_⟩
   rw[AI]
   split
   ·rename_i hc
    obtain⟨rfl,_⟩:=hc
    rw[List.length_set];exact hcl.2 x hx'
   ·exact hcl.2 x' hx'
  ·exact hr.2 j' hj'
 ·exact h.2 i' hi'
theorem H9 (h:Ok3 n m u) {i j p:Nat} {b:Bool}:Ok3 n m (s3 u i j p b):=by
 unfold s3
 refine⟨by rw[List.length_set];exact h.1,λi' hi'=>?_⟩
 rw[AI]
 split
 ·rename_i hc
  obtain⟨rfl,_⟩:=hc
  have hr:=h.2 i hi'
  refine⟨by rw[List.length_set];exact hr.1,λj' hj'=>?_⟩
  rw[AI]
  split
  ·rename_i hc
   obtain⟨rfl,_⟩:=hc
   rw[List.length_set];exact hr.2 j hj'
  ·exact hr.2 j' hj'
 ·exact h.2 i' hi'
theorem FU (h:Ok4 n s t) {i j x y:Nat} {b:Bool} (hi:i<n) (hj:j<n) (hx:x<s) (hy:y<s) (i' j' x' y':Nat):
  r4 (s4 t i j x y b) i' j' x' y'=if i=i'/\j=j'/\x=x'/\y=y' then b else r4 t i' j' x' y':=by
 obtain⟨h1,h2,h3,h4⟩:=h.at hi hj hx
 unfold r4 s4
 rw[AI]
 by_cases e1:i=i'
 ·subst e1
  rw[if_pos ⟨rfl,h1⟩,AI]
  by_cases e2:j=j'
  ·subst e2
   rw[if_pos ⟨rfl,h2⟩,AI]
   by_cases e3:x=x'
   ·subst e3
    rw[if_pos ⟨rfl,h3⟩,AI]
    by_cases e4:y=y'
    ·subst e4;rw[if_pos ⟨rfl,by omega⟩,if_pos ⟨rfl,rfl,rfl,rfl⟩]
    ·rw[if_neg (by omega),if_neg (by omega)]
   ·rw[if_neg (by omega),if_neg (by omega)]
  ·rw[if_neg (by omega),if_neg (by omega)]
 ·rw[if_neg (by omega),if_neg (by omega)]
theorem H8 (h:Ok3 n m u) {i j p:Nat} {b:Bool} (hi:i<n) (hj:j<n) (hp:p<m) (i' j' p':Nat):
  r3 (s3 u i j p b) i' j' p'=if i=i'/\j=j'/\p=p' then b else r3 u i' j' p':=by
 obtain⟨h1,h2,h3⟩:=h.at hi hj
 unfold r3 s3
 rw[AI]
 by_cases e1:i=i'
 ·subst e1
  rw[if_pos ⟨rfl,h1⟩,AI]
  by_cases e2:j=j'
  ·subst e2
   rw[if_pos ⟨rfl,h2⟩,AI]
   by_cases e3:p=p'
   ·subst e3;rw[if_pos ⟨rfl,by omega⟩,if_pos ⟨rfl,rfl,rfl⟩]
   ·rw[if_neg (by omega),if_neg (by omega)]
  ·rw[if_neg (by omega),if_neg (by omega)]
 ·rw[if_neg (by omega),if_neg (by omega)]
end
structure Rel34 (n s:Nat) (t:T4) (u:T3):Prop where
 o4:Ok4 n s t
 o3:Ok3 n (s*s) u
 eq: ∀i j x y,i<j->j<n->x<s->y<s->r4 t i j x y=r3 u i j (x*s+y)/\r4 t j i y x=r3 u i j (x*s+y)
theorem G0 {s x y:Nat} (hx:x<s) (hy:y<s):x*s+y<s*s:=by
 have:(x+1)*s<=s*s:=Nat.mul_le_mul_right _ hx
 rw[Nat.succ_mul]at this;omega
theorem Gn {s x y x' y':Nat} (hy:y<s) (hy':y'<s) (h:x*s+y=x'*s+y'):x=x'/\y=y':=by
 have h1:(x*s+y)/s=x:=by rw[Nat.mul_comm,Nat.mul_add_div (by omega),Nat.div_eq_of_lt hy];omega
 have h2:(x'*s+y')/s=x':=by rw[Nat.mul_comm,Nat.mul_add_div (by omega),Nat.div_eq_of_lt hy'];omega
 have:x=x':=by rw[←h1,←h2,h]
 subst this
 exact⟨rfl,by omega⟩
theorem Rel34.drop {n s:Nat} {t:T4} {u:T3} (h:Rel34 n s t u) {i j x y:Nat} (hij:i<j) (hj:j<n) (hx:x<s) (hy:y<s):
  Rel34 n s (s4 (s4 t i j x y false) j i y x false) (s3 u i j (x*s+y) false):=by
 refine⟨FW (FW h.o4),H9 h.o3,λi' j' x' y' h1 h2 h3 h4=>?_⟩
 have hi:i<n:=by omega
 rw[FU (FW h.o4) hj hi hy hx,FU h.o4 hi hj hx hy,FU (FW h.o4) hj hi hy hx,FU h.o4 hi hj hx hy,H8 h.o3 hi hj (G0 hx hy)]
 obtain⟨e1,e2⟩:=h.eq i' j' x' y' h1 h2 h3 h4
 by_cases e:i=i'/\j=j'/\x=x'/\y=y'
 ·obtain⟨rfl,rfl,rfl,rfl⟩:=e
  simp
 ·have e3: ¬(i=i'/\j=j'/\x*s+y=x'*s+y'):=λ⟨q1,q2,q3⟩=>by
   have:=Gn hy h4 q3
   exact e ⟨q1,q2,this.1,this.2⟩
  have e4: ¬(j=i'/\i=j'/\y=x'/\x=y'):=by omega
  have e5: ¬(i=j'/\j=i'/\x=y'/\y=x'):=by omega
  have e6: ¬(j=j'/\i=i'/\y=y'/\x=x'):=by omega
  simp only[if_neg e,if_neg e3,if_neg e4,if_neg e5,if_neg e6]
  exact⟨e1,e2⟩
end T
open Go Go.Va
namespace T
def V3 (n i j k x y z:Nat):List Int:=(((List.replicate n (0:Int)).set i (x:Int)).set j (y:Int)).set k (z:Int)
section
variable {a:Net} {n s:Nat} {t:T4} {u:T3}
def hP (a:Net) (n:Nat) (t:T4) (i j k x y z:Nat):Bool:=r4 t i k x z&&r4 t j k y z&&Ia (H5 a [(i:Int),(j:Int),(k:Int)]) (V3 n i j k x y z)
end
end T
open Go Go.Va
namespace T
section
variable {a:Net} {n s:Nat} {t:T4} {u:T3}
def V2 (n i j x y:Nat):List Int:=((List.replicate n (0:Int)).set i (x:Int)).set j (y:Int)
def fB (a:Net) (n i j x y:Nat):Bool:=Ia (H5 a [(i:Int),(j:Int)]) (V2 n i j x y)
end
end T
open Go Go.Va
namespace T
section
variable {a:Net} {n s:Nat} {t:T4} {u:T3}
def PA (n s i:Nat) (t:T4):Prop:=t.length=n/\ ∀i',i'<i->HU n s (t.getD i' [])
def PB (n s i j:Nat) (t:T4):Prop:=PA n s i t/\(t.getD i []).length=n/\ ∀j',j'<j->Hu s ((t.getD i []).getD j' [])
theorem PA.set {i:Nat} (h:PA n s i t) (r:T3):PA n s i (t.set i r):=by
 refine⟨by rw[List.length_set];exact h.1,λi' hi'=>?_⟩
 rw[AI,if_neg (by omega)];exact h.2 i' hi'
theorem PB.set {i j:Nat} (h:PB n s i j t) (hi:i<n) (c:List (List Bool)):PB n s i j (t.set i ((t.getD i []).set j c)):=by
 have hl:=h.1.1
 refine⟨h.1.set _,?_,λj' hj'=>?_⟩
 ·rw[AI,if_pos ⟨rfl,by omega⟩,List.length_set];exact h.2.1
 ·rw[AI,if_pos ⟨rfl,by omega⟩,AI,if_neg (by omega)];exact h.2.2 j' hj'
end
end T
open Go Go.Va
namespace T
section
variable {a:Net} {n s:Nat} {t:T4} {u:T3}
def cI (o:List Nat):List Int:=o.map λx:Nat=>(x:Int)
theorem Gm {o:List Nat} {i:Nat} (h:i<o.length):(cI o).getD i 0=((o.getD i 0:Nat):Int):=by
 unfold cI;rw[AC (by simpa using h),AC h];simp
end
end T
set_option linter.unusedVariables false
open Go Go.Va
namespace T
def Bp:Nat->(Int×(Int×(List Int))×(Int×(List Int))×Int)->Option ((Int×(List Int))×(Int×(List Int)))
 |0,_=>none
 |n+1,(n_,t2,op,at_)=>
 if decide (at_<(w64 ((w64 (n_*n_))*n_)))then
 if(w64 (n_*n_))≠0 then
 if n_≠0 then
 if n_≠0 then
 if n_≠0 then
 if n_≠0 then
 if op.2.length+ [Int.tmod (w64 ((w64 ((w64 ((w64 (Int.tdiv at_ (w64 (n_*n_))))+n_))-(Int.tmod (w64 (Int.tdiv at_ n_)) n_)))+(Int.tmod at_ n_))) n_].length<=lim then
 Bp n (n_,(t2.1,t2.2),(op.1,op.2++ [Int.tmod (w64 ((w64 ((w64 ((w64 (Int.tdiv at_ (w64 (n_*n_))))+n_))-(Int.tmod (w64 (Int.tdiv at_ n_)) n_)))+(Int.tmod at_ n_))) n_]),w64 (at_+1))
 else none
 else none
 else none
 else none
 else none
 else none
 else
 some ((t2.1,t2.2),(op.1,op.2))
def A9 (n_:Int):Option ((Int×(List Int))):=
 (Bp Aa (n_,(0,[]),(3,[]),0)).bind λs1=>
 some (s1.2.1,s1.2.2)
def D1 (n_:Int):Option ((Int×(List Int))×Bool):=
 (Cs n_).bind λr1=>
 if !r1 then
 some ((0,[]),false)
 else
 (A9 n_).bind λr2=>
 some ((r2.1,r2.2),true)
def Dp:Nat->((List (List Int))×(List Int)×(List (List Int))×Int)->Option ((List (List Int)))
 |0,_=>none
 |n+1,(line,numbers,out,i)=>
 if decide (i<(numbers.length:Int))then
 if inb i numbers then
 if inb (gd numbers i 0) line then
 if out.length+ [gd line (gd numbers i 0) []].length<=lim then
 Dp n (line,numbers,out++ [gd line (gd numbers i 0) []],w64 (i+1))
 else none
 else none
 else none
 else
 some out
def GU (line:List (List Int)) (numbers:List Int):Option ((List (List Int))):=
 (Dp Aa (line,numbers,[],0)).bind λs1=>
 some s1
def Ck:Nat->(Int×(List (List Int))×Int×(Int×(List (Int×(List Int))))×(List Int)×Int×Int×Int)->Option (Int×(List (List Int))×Int×(Int×(List (Int×(List Int))))×(List Int)×Int×Int)
 |0,_=>none
 |n+1,(op,tuples,k,a,out,place,at_,i)=>
 if decide (i<(tuples.length:Int))then
 if inb i tuples then
 if inb place (gd tuples i [])then
 Ck n (op,tuples,k,(a.1,a.2),out,place,w64 ((w64 (at_*a.1))+(gd (gd tuples i []) place 0)),w64 (i+1))
 else none
 else none
 else
 some (op,tuples,k,(a.1,a.2),out,place,at_)
def Bz:Nat->(Int×(List (List Int))×Int×(Int×(List (Int×(List Int))))×(List Int)×Int)->Option ((List Int))
 |0,_=>none
 |n+1,(op,tuples,k,a,out,place)=>
 if decide (place<k)then
 (Ck Aa (op,tuples,k,(a.1,a.2),out,place,0,0)).bind λs1=>
 if inb s1.1 s1.2.2.2.1.2 then
 if inb s1.2.2.2.2.2.2 ((gd s1.2.2.2.1.2 s1.1 (0,[])).2)then
 if s1.2.2.2.2.1.length+ [gd ((gd s1.2.2.2.1.2 s1.1 (0,[])).2) s1.2.2.2.2.2.2 0].length<=lim then
 Bz n (s1.1,s1.2.1,s1.2.2.1,(s1.2.2.2.1.1,s1.2.2.2.1.2),s1.2.2.2.2.1++ [gd ((gd s1.2.2.2.1.2 s1.1 (0,[])).2) s1.2.2.2.2.2.2 0],w64 (s1.2.2.2.2.2.1+1))
 else none
 else none
 else none
 else
 some out
def Cb (a:Int×(List (Int×(List Int)))) (op:Int) (tuples:List (List Int)) (k:Int):Option ((List Int)):=
 (Bz Aa (op,tuples,k,(a.1,a.2),[],0)).bind λs1=>
 some s1
def B5:Nat->(Int×(List Int)×Int)->Option (((List Int))⊕((List Int)×Bool))
 |0,_=>none
 |n+1,(n_,out,i)=>
 if decide (i≥0)then
 if inb i out then
 if decide ((gd out i 0)<(w64 (n_-1)))then
 if inb i out then
 if inb i out then
 some (.inr (stt out i (w64 ((gd out i 0)+1)),true))
 else none
 else none
 else
 if inb i out then
 B5 n (n_,stt out i 0,w64 (i-1))
 else none
 else none
 else
 some (.inl out)
def BN (list:List Int) (n_:Int):Option ((List Int)×Bool):=
 (B0 list).bind λr1=>
  (B5 Aa (n_,r1,w64 ((r1.length:Int)-1))).bind λs2=>
   match s2 with
   | .inl s3=>
    some (s3,false)
   | .inr s4=>
    some (s4.1,s4.2)
def BS:Nat->((List Int)×(List Int)×Int×Int)->Option ((List Int))
 |0,_=>none
 |n+1,(b,t10,t11,t12)=>
 if decide (t12<t11)then
 if inb t12 t10 then
 if(0:Int)<=8 then
 if b.length+ [IntKind.wrap .u8 (YiD .i64 (gd t10 t12 0) 8),IntKind.wrap .u8 (gd t10 t12 0)].length<=lim then
 BS n (b++ [IntKind.wrap .u8 (YiD .i64 (gd t10 t12 0) 8),IntKind.wrap .u8 (gd t10 t12 0)],t10,t11,w64 (t12+1))
 else none
 else none
 else none
 else
 some b
def C0 (list:List Int):Option (ByteArray):=
 if(0:Int)<=0/\(0:Int)<=(w64 (2*(list.length:Int)))/\(w64 (2*(list.length:Int)))<=lim then
 (BS Aa (List.replicate (Int.toNat 0) (0:Int),list,(list.length:Int),0)).bind λs1=>
 some (Ybp s1)
 else none
end T
open Go Go.Va
namespace T
def kb (l:List Int):List Int:=l.flatMap λx=> [0,x]
def EX (l:List Int):ByteArray:=Ybp (kb l)
theorem FC {x:Int} (h0:0<=x) (h1:x<256):IntKind.wrap .u8 x=x:=by
 simp[IntKind.wrap,IntKind.bits,IntKind.signed]
 omega
theorem Ge {x:Int} (h0:0<=x) (h1:x<256):YiD .i64 x 8=0:=by
 unfold YiD
 have:(min (8:Int).toNat IntKind.i64.bits)=8:=by decide
 rw[this,Int.fdiv_eq_ediv_of_nonneg _ (by decide)]
 have:(2:Int)^8=256:=by decide
 rw[this];omega
theorem EV {l:List Int} (hl:l.length<=1048576) (hv: ∀x∈l,0<=x/\x<256):C0 l=some (EX l):=by
 unfold C0
 have e2:w64 (2*(l.length:Int))=2*(l.length:Int):=AN (by omega) (by omega)
 rw[e2,if_pos (by unfold lim;omega)]
 have kbl: ∀k,k<=l.length->(kb (l.take k)).length=2*k:=by
  intro k hk
  have: ∀l:List Int,(kb l).length=2*l.length:=by
   intro l
   induction l with
   |nil=>rfl
   |cons x l ih=>unfold kb at ih⊢;simp only[List.flatMap_cons,List.length_append,ih,List.length_cons,List.length_nil];omega
  rw[this];simp;omega
 have:=DC l.length (λm o i=>BS m (o,l,(l.length:Int),i)) (λk=>kb (l.take k)) (r:=some (kb l)) (λm k hk=>?_) (λm=>?_) (n:=Aa) (by unfold Aa;omega)
 ·have e0:kb (l.take 0)= []:=rfl
  rw[e0]at this
  have:BS Aa (List.replicate (Int.toNat 0) (0:Int),l,(l.length:Int),0)=some (kb l):=this
  rw[this];rfl
 ·have hx:=hv _ (List.getElem_mem hk)
  have hlen:=kbl k (by omega)
  have e:kb (l.take (k+1))=kb (l.take k)++ [0,l[k]]:=by
   unfold kb;rw[List.take_succ_eq_append_getElem hk,List.flatMap_append];simp
  simp only[BS,Aj,AK hk,Af (show k<4611686018427387904 by omega),FC hx.1 hx.2,Ge hx.1 hx.2,FC (show(0:Int)<=0 by omega) (show(0:Int)<256 by omega),e]
  rw[if_pos (by simp;omega),if_pos hk,if_pos (by omega),if_pos (by unfold lim;simp;omega)]
 ·simp only[BS,List.take_length]
  rw[if_neg (by simp)]
theorem D3: ∀(xs:List Int) (s:ByteArray),(xs.foldl (λs n=>s.push (UInt8.ofNat n.toNat)) s).data=s.data++(xs.map λn=>UInt8.ofNat n.toNat).toArray
 | [],s=>by simp
 |x::xs,s=>by
  rw[List.foldl_cons,D3 xs]
  apply Array.ext'
  simp[ByteArray.push]
theorem Gw: ∀(l l':List Int),(∀x∈l,0<=x/\x<256)->(∀x∈l',0<=x/\x<256)->(kb l).map (λn=>UInt8.ofNat n.toNat)=(kb l').map (λn=>UInt8.ofNat n.toNat)->l=l'
 | [],[],_,_,_=>rfl
 | [],y::l',_,_,h=>by simp[kb]at h
 |x::l,[],_,_,h=>by simp[kb]at h
 |x::l,y::l',hv,hv',h=>by
  simp only[kb,List.flatMap_cons,List.map_append,List.map_cons,List.map_nil,List.cons_append,List.nil_append,List.cons.injEq,true_and]at h
  obtain⟨h1,h2⟩:=h
  have hx:=hv x (by simp)
  have hy:=hv' y (by simp)
  have h1:=congrArg UInt8.toNat h1
  simp only[UInt8.toNat_ofNat']at h1
  have:x=y:=by omega
  rw[this,Gw l l' (λz hz=>hv z (List.mem_cons_of_mem _ hz)) (λz hz=>hv' z (List.mem_cons_of_mem _ hz)) h2]
theorem Gx {l l':List Int} (hv: ∀x∈l,0<=x/\x<256) (hv': ∀x∈l',0<=x/\x<256) (h:EX l=EX l'):l=l':=by
 have h:=congrArg ByteArray.data h
 unfold EX Ybp at h
 rw[D3,D3]at h
 have h:=congrArg Array.toList h
 simp only[Array.toList_append]at h
 exact Gw l l' hv hv' (List.append_cancel_left h)
theorem Gl {a b:ByteArray}:(a==b)=decide (a=b):=by
 show(a.data==b.data)=_
 rw[Bool.eq_iff_iff,beq_iff_eq,decide_eq_true_eq]
 exact⟨λh=>ByteArray.ext h,λh=>congrArg ByteArray.data h⟩
theorem Eg {ks:List ByteArray} {s:ByteArray}:Xs ks s=true↔s∈ks:=by
 unfold Xs
 rw[List.any_eq_true]
 constructor
 ·rintro ⟨k,h1,h2⟩;rw[Gl,decide_eq_true_eq]at h2;subst h2;exact h1
 ·intro h;exact⟨s,h,by rw[Gl];simp⟩
theorem Fu {ks:List ByteArray} {s t:ByteArray}:t∈YhI ks s↔t∈ks∨t=s:=by
 unfold YhI
 by_cases h:Xs ks s=true
 ·rw[if_pos h]
  exact⟨.inl,λh'=>h'.elim id λe=>e▸Eg.1 h⟩
 ·rw[if_neg h];simp
def Ef (l:List (List Int)):List ByteArray:=l.foldl (λks t=>YhI ks (EX t)) []
theorem Gz {l:List (List Int)} {s:ByteArray}:s∈Ef l↔ ∃t∈l,s=EX t:=by
 have key: ∀(l:List (List Int)) (ks:List ByteArray),s∈l.foldl (λks t=>YhI ks (EX t)) ks↔s∈ks∨ ∃t∈l,s=EX t:=by
  intro l
  induction l with
  |nil=>intro ks;simp
  |cons t l ih=>
   intro ks
   rw[List.foldl_cons,ih,Fu]
   simp only[List.mem_cons,exists_eq_or_imp,or_assoc]
 unfold Ef;rw[key];simp
theorem F9 {l:List (List Int)} {t:List Int} (hl: ∀t∈l,∀x∈t,0<=x/\x<256) (ht: ∀x∈t,0<=x/\x<256):Xs (Ef l) (EX t)=decide (t∈l):=by
 rw[Bool.eq_iff_iff,Eg,decide_eq_true_eq,Gz]
 constructor
 ·rintro ⟨u,h1,h2⟩;rw[Gx ht (hl u h1) h2];exact h1
 ·intro h;exact⟨t,h,rfl⟩
def dg (b:Nat):Nat->Nat->List Nat
 |0,_=> []
 |k+1,i=>dg b k (i/b)++ [i%b]
theorem Du {b:Nat}: ∀ {k i:Nat},(dg b k i).length=k
 |0,_=>rfl
 |k+1,i=>by simp[dg,Du (k:=k)]
theorem EF {b:Nat} (hb:0<b): ∀ {k i:Nat},∀x∈dg b k i,x<b
 |0,_,x,h=>by simp[dg]at h
 |k+1,i,x,h=>by
  simp only[dg]at h
  rcases List.mem_append.1 h with h|h
  ·exact EF hb x h
  ·simp at h;subst h;exact Nat.mod_lt _ hb
theorem Fa {b:Nat}: ∀ {k:Nat},dg b k 0=List.replicate k 0
 |0=>rfl
 |k+1=>by simp[dg,Fa (k:=k),List.replicate_succ']
theorem CC {o:List Nat}:(cI o).length=o.length:=by unfold cI;simp
end T
open Go Go.Va
namespace T
def vt (ts:List (List Int)) (x j:Nat):Nat:=((ts.getD x []).getD j 0).toNat
def atF (n:Nat) (ts:List (List Int)) (j:Nat) (args:List Nat):Nat:=args.foldl (λa x=>a*n+vt ts x j) 0
section
variable {n k m:Nat} {op:Opn} {r:Int×List (List Int)}
theorem E5 {n k:Nat} (hn:n<=8) (hk:k<=3):n^k<=512:=by
 have h1:n^k<=8^k:=Nat.pow_le_pow_left hn k
 have h2:8^k<=8^3:=Nat.pow_le_pow_right (by omega) hk
 have:(8:Nat)^3=512:=by decide
 omega
theorem FT {n k:Nat} (hn:n<=64) (hk:k<=3):n^k<=262144:=by
 have h1:n^k<=64^k:=Nat.pow_le_pow_left hn k
 have h2:64^k<=64^3:=Nat.pow_le_pow_right (by omega) hk
 have:(64:Nat)^3=262144:=by decide
 omega
end
end T
open Go Go.Va
namespace T
section
variable {n k m:Nat} {op:Opn} {r:Int×List (List Int)}
theorem H7 {b:Nat} (hb:0<b) (hb8:b<=64) (hk:k<=3): ∀(j q f:Nat),j<=k->j<f->q<b^j->
  B5 f ((b:Int),cI (dg b j q++List.replicate (k-j) 0),(j:Int)-1)=some (if q+1<b^j then .inr (cI (dg b j (q+1)++List.replicate (k-j) 0),true)else .inl (cI (List.replicate k 0))):=by
 intro j
 induction j with
 |zero=>
  intro q f _ hf hq
  obtain⟨f,rfl⟩: ∃z,f=z+1:=⟨f-1,by omega⟩
  simp only[B5]
  rw[if_neg (by simp),if_neg (by simp)]
  simp[dg]
 |succ j ih=>
  intro q f hj hf hq
  obtain⟨f,rfl⟩: ∃z,f=z+1:=⟨f-1,by omega⟩
  have e1:((j+1:Nat):Int)-1=(j:Int):=by omega
  have hdl:(dg b j (q/b)).length=j:=Du
  have hz:List.replicate (k-j) 0=0::List.replicate (k-(j+1)) 0:=by rw[show k-j=(k-(j+1))+1 by omega,List.replicate_succ]
  have hfull:dg b (j+1) q++List.replicate (k-(j+1)) 0=dg b j (q/b)++q%b::List.replicate (k-(j+1)) 0:=by simp[dg]
  have hset: ∀y:Nat,(cI (dg b j (q/b)++q%b::List.replicate (k-(j+1)) 0)).set j (y:Int)=cI (dg b j (q/b)++y::List.replicate (k-(j+1)) 0):=λy=>by
   unfold cI
   rw[List.map_append,List.map_append,List.map_cons,List.map_cons,List.set_append_right _ _ (by simp[hdl])]
   simp[hdl]
  have hlen:j<(cI (dg b j (q/b)++q%b::List.replicate (k-(j+1)) 0)).length:=by rw[CC];simp[hdl]
  have hget:(cI (dg b j (q/b)++q%b::List.replicate (k-(j+1)) 0)).getD j 0=((q%b:Nat):Int):=by
   rw[Gm (by simp[hdl])]
   rw[AC (by simp[hdl]),List.getElem_append_right (by omega)]
   simp[hdl]
  have hmod:q%b<b:=Nat.mod_lt _ hb
  have hdm:b*(q/b)+q%b=q:=Nat.div_add_mod q b
  have hpow:b^(j+1)=b*b^j:=by rw[Nat.pow_succ,Nat.mul_comm]
  have hqd:q/b<b^j:=by
   rcases Nat.lt_or_ge (q/b) (b^j)with h|h
   ·exact h
   ·have:b*b^j<=b*(q/b):=Nat.mul_le_mul_left _ h
    omega
  have w1:w64 ((b:Int)-1)=(b:Int)-1:=AN (by omega) (by omega)
  have w2:w64 ((j:Int)-1)=(j:Int)-1:=AN (by omega) (by omega)
  have hge:decide ((j:Int)≥0)=true:=by simp
  rw[e1,hfull]
  simp only[B5,hge,if_true,Aj,hlen,Ec,hget,w1,Fi]
  by_cases hc:q%b+1<b
  ·have hlt:q+1<b^(j+1):=by
    have:b*(q/b+1)<=b*b^j:=Nat.mul_le_mul_left _ hqd
    rw[Nat.mul_succ]at this;omega
   have hd1:(q+1)/b=q/b:=by
    rw[Nat.div_eq_iff hb];rw[Nat.mul_comm]at hdm;constructor<;>omega
   have hm1:(q+1)%b=q%b+1:=by
    have:=Nat.div_add_mod (q+1) b
    rw[hd1]at this;omega
   have w3:w64 (((q%b:Nat):Int)+1)=((q%b+1:Nat):Int):=Af (by omega)
   rw[if_pos (by simp;omega),w3,hset,if_pos hlt]
   simp[dg,hd1,hm1]
  ·have hlast:q%b=b-1:=by omega
   have ihx:=ih (q/b) f (by omega) (by omega) hqd
   have hset0:=hset 0
   have hset0:(cI (dg b j (q/b)++q%b::List.replicate (k-(j+1)) 0)).set j 0=cI (dg b j (q/b)++0::List.replicate (k-(j+1)) 0):=hset0
   rw[if_neg (by simp;omega),hset0,w2,←hz,ihx]
   have hq1:q+1=b*(q/b+1):=by rw[Nat.mul_succ];omega
   have hiff:q+1<b^(j+1)↔q/b+1<b^j:=by
    rw[hq1,hpow];exact Nat.mul_lt_mul_left hb
   have hd1:(q+1)/b=q/b+1:=by rw[hq1,Nat.mul_div_cancel_left _ hb]
   have hm1:(q+1)%b=0:=by rw[hq1,Nat.mul_mod_right]
   by_cases h2:q/b+1<b^j
   ·rw[if_pos h2,if_pos (hiff.2 h2)]
    have:dg b j (q/b+1)++List.replicate (k-j) 0=dg b (j+1) (q+1)++List.replicate (k-(j+1)) 0:=by
     rw[hz];simp[dg,hd1,hm1]
    rw[this]
   ·rw[if_neg h2,if_neg λh=>h2 (hiff.1 h)]
theorem CB {b:Nat} (hb:0<b) (hb8:b<=64) (hk:k<=3) {i:Nat} (hi:i<b^k):
  BN (cI (dg b k i)) (b:Int)=some (if i+1<b^k then(cI (dg b k (i+1)),true)else(cI (List.replicate k 0),false)):=by
 have hl:(cI (dg b k i)).length=k:=by rw[CC,Du]
 have hown:=BT (l:=cI (dg b k i)) (by omega)
 have w1:w64 ((k:Int)-1)=(k:Int)-1:=AN (by omega) (by omega)
 have:=H7 (k:=k) hb hb8 hk k i Aa (Nat.le_refl _) (by unfold Aa;omega) hi
 simp only[Nat.sub_self,List.replicate_zero,List.append_nil]at this
 unfold BN
 rw[hown]
 simp only[Option.bind_some,hl,w1,this]
 by_cases h:i+1<b^k
 ·simp[h]
 ·simp[h]
end
end T
set_option linter.unusedVariables false
open Go Go.Va
namespace T
def Dj (x:Int) (y:Int) (z:Int) (t3:Int):Option (Int×Int):=
 if t3≠0 then
 some (t3,Int.tmod (w64 ((w64 ((w64 (x-y))+z))+t3)) t3)
 else none
def Ao:Nat->(Int×Int×(Int×(List Int))×(Int×(List Int))×Int)->Option (Int×(Int×(List Int))×(Int×(List Int)))
 |0,_=>none
 |n+1,(n_,value,t4,f,i)=>
 if decide (i<(w64 ((w64 (n_*n_))*n_)))then
 if n_≠0 then
 if n_≠0 then
 if n_≠0 then
 if n_≠0 then
 if n_≠0 then
 (Dj (w64 (Int.tdiv (w64 (Int.tdiv i n_)) n_)) (Int.tmod (w64 (Int.tdiv i n_)) n_) (Int.tmod i n_) value).bind λr1=>
 if f.2.length+ [r1.2].length<=lim then
 Ao n (n_,r1.1,(t4.1,t4.2),(f.1,f.2++ [r1.2]),w64 (i+1))
 else none
 else none
 else none
 else none
 else none
 else none
 else
 some (value,(t4.1,t4.2),(f.1,f.2))
def Bf (n_:Int) (value:Int):Option (Int×(Int×(List Int))):=
 (Ao Aa (n_,value,(0,[]),(3,[]),0)).bind λs1=>
 some (s1.1,(s1.2.2.1,s1.2.2.2))
def De (n_:Int):Option ((Int×(List Int))×Bool):=
 (C6 n_).bind λr1=>
 if !r1 then
 some ((0,[]),false)
 else
 (Bf n_ n_).bind λr2=>
 some ((r2.2.1,r2.2.2),true)
def B3:Nat->(Int×Int×(List Int)×Int)->Option ((List Int))
 |0,_=>none
 |n+1,(n_,at_,out,i)=>
 if decide (i≥0)then
 if n_≠0 then
 if inb i out then
 if n_≠0 then
 B3 n (n_,w64 (Int.tdiv at_ n_),stt out i (Int.tmod at_ n_),w64 (i-1))
 else none
 else none
 else none
 else
 some out
def Cr (n_:Int) (arity:Int) (at_:Int):Option ((List Int)):=
 if 0<=arity/\arity<=arity/\arity<=lim then
 (B3 Aa (n_,at_,List.replicate (Int.toNat arity) (0:Int),w64 (arity-1))).bind λs1=>
 some s1
 else none
def Ey (a:Int) (b:Int):Option (Int):=
 if decide (a>b)then
 some a
 else
 some b
def CE (list:List Int):Option ((List Int)):=
 if([]:List Int).length+list.length<=lim then
 some ([]++list)
 else none
end T
open Go Go.Va
namespace T
theorem FY {a b:Nat} (ha:a<4611686018427387904):w64 (Int.tdiv (a:Int) (b:Int))=((a/b:Nat):Int):=by
 rw[Int.tdiv_eq_ediv_of_nonneg (by omega),←Int.natCast_ediv]
 have:=Nat.div_le_self a b
 generalize a/b=q at this
 exact AN (by omega) (by omega)
theorem GS {a b:Nat}:Int.tmod (a:Int) (b:Int)=((a%b:Nat):Int):=by
 rw[Int.tmod_eq_emod_of_nonneg (by omega),←Int.natCast_emod]
def Ct (n i:Nat):Int:=((((i/(n*n)+n)-(i/n)%n+i%n)%n:Nat):Int)
section
variable {n:Nat}
theorem Dt (h:1<=n/\n<=8):n*n<=64/\n*n*n<=512/\1<=n*n:=by
 have h2:n*n<=8*8:=Nat.mul_le_mul h.2 h.2
 have h3:n*n*n<=64*8:=Nat.mul_le_mul h2 h.2
 have h4:1*1<=n*n:=Nat.mul_le_mul h.1 h.1
 omega
theorem Gg {a:Nat} (h:a<4611686018427387904):w64 (a:Int)=(a:Int):=AN (by omega) (by omega)
theorem CH (h:1<=n/\n<=8):A9 (n:Int)=some (3,(List.range (n*n*n)).map (Ct n)):=by
 obtain⟨h2,h3,h4⟩:=Dt h
 have e1:w64 ((n:Int)*n)=((n*n:Nat):Int):=by rw[←Int.natCast_mul];exact Gg (by omega)
 have e2:w64 (((n*n:Nat):Int)*n)=((n*n*n:Nat):Int):=by rw[←Int.natCast_mul];exact Gg (by omega)
 unfold A9
 have:=DC (n*n*n) (λf o i=>Bp f ((n:Int),(0,[]),(3,o),i)) (λk=>(List.range k).map (Ct n)) (r:=some ((0,[]),(3,(List.range (n*n*n)).map (Ct n)))) (λf k hk=>?_) (λf=>?_) (n:=Aa) (by unfold Aa;omega)
 ·have e0:(List.range 0).map (Ct n)= []:=rfl
  rw[e0]at this
  have this:Bp Aa ((n:Int),(0,[]),(3,[]),0)=_:=this
  rw[this];rfl
 ·have hdiv:k/(n*n)<n:=Nat.div_lt_of_lt_mul (by rw[Nat.mul_comm]at hk;rw[Nat.mul_comm];exact hk)
  have hm1:(k/n)%n<n:=Nat.mod_lt _ (by omega)
  have hm2:k%n<n:=Nat.mod_lt _ (by omega)
  have e345:w64 (w64 (w64 ((((k/(n*n):Nat):Int))+(n:Int))-(((k/n)%n:Nat):Int))+((k%n:Nat):Int))=((k/(n*n)+n-(k/n)%n+k%n:Nat):Int):=by
   generalize k/(n*n)=q1 at hdiv⊢
   generalize (k/n)%n=q2 at hm1⊢
   generalize k%n=q3 at hm2⊢
   rw[AN (x:=(q1:Int)+n) (by omega) (by omega),AN (x:=(q1:Int)+n-q2) (by omega) (by omega),AN (by omega) (by omega)];omega
  have e6:(List.range (k+1)).map (Ct n)=(List.range k).map (Ct n)++ [Ct n k]:=by rw[List.range_succ,List.map_append];rfl
  simp only[Bp,e1,e2,FY (show k<4611686018427387904 by omega),GS,e345,e6,Af (show k<4611686018427387904 by omega)]
  have hne:((n:Int))≠0:=by omega
  have hnn:((n*n:Nat):Int)≠0:=Int.natCast_ne_zero.2 (by omega)
  rw[if_pos (decide_eq_true (show(k:Int)<((n*n*n:Nat):Int) from Int.ofNat_lt.2 hk)),if_pos hnn,if_pos hne,if_pos hne,if_pos hne,if_pos hne,if_pos (by unfold lim;simp;omega)]
  rfl
 ·simp only[Bp,e1,e2]
  rw[if_neg (by simp)]
theorem Ez (h:1<=n/\n<=8):Bf (n:Int) (n:Int)=some ((n:Int),(3,(List.range (n*n*n)).map (Ct n))):=by
 obtain⟨h2,h3,h4⟩:=Dt h
 have e1:w64 ((n:Int)*n)=((n*n:Nat):Int):=by rw[←Int.natCast_mul];exact Gg (by omega)
 have e2:w64 (((n*n:Nat):Int)*n)=((n*n*n:Nat):Int):=by rw[←Int.natCast_mul];exact Gg (by omega)
 unfold Bf
 have:=DC (n*n*n) (λf o i=>Ao f ((n:Int),(n:Int),(0,[]),(3,o),i)) (λk=>(List.range k).map (Ct n)) (r:=some ((n:Int),(0,[]),(3,(List.range (n*n*n)).map (Ct n)))) (λf k hk=>?_) (λf=>?_) (n:=Aa) (by unfold Aa;omega)
 ·have e0:(List.range 0).map (Ct n)= []:=rfl
  rw[e0]at this
  have this:Ao Aa ((n:Int),(n:Int),(0,[]),(3,[]),0)=_:=this
  rw[this];rfl
 ·have hdiv:k/(n*n)<n:=Nat.div_lt_of_lt_mul (by rw[Nat.mul_comm]at hk;rw[Nat.mul_comm];exact hk)
  have hm1:(k/n)%n<n:=Nat.mod_lt _ (by omega)
  have hm2:k%n<n:=Nat.mod_lt _ (by omega)
  have hdd:k/n/n=k/(n*n):=Nat.div_div_eq_div_mul _ _ _
  have hkn:k/n<=k:=Nat.div_le_self _ _
  have e345:w64 (w64 (w64 (((k/(n*n):Nat):Int)-(((k/n)%n:Nat):Int))+((k%n:Nat):Int))+(n:Int))=((k/(n*n)+n-(k/n)%n+k%n:Nat):Int):=by
   generalize k/(n*n)=q1 at hdiv⊢
   generalize (k/n)%n=q2 at hm1⊢
   generalize k%n=q3 at hm2⊢
   rw[AN (x:=(q1:Int)-q2) (by omega) (by omega),AN (x:=(q1:Int)-q2+q3) (by omega) (by omega),AN (by omega) (by omega)];omega
  have e6:(List.range (k+1)).map (Ct n)=(List.range k).map (Ct n)++ [Ct n k]:=by rw[List.range_succ,List.map_append];rfl
  simp only[Ao,e1,e2,FY (show k<4611686018427387904 by omega),FY (show k/n<4611686018427387904 from Nat.lt_of_le_of_lt hkn (by omega)),GS,hdd,Dj,e345,e6,Af (show k<4611686018427387904 by omega)]
  have hne:((n:Int))≠0:=by omega
  rw[if_pos (decide_eq_true (show(k:Int)<((n*n*n:Nat):Int) from Int.ofNat_lt.2 hk)),if_pos hne,if_pos hne,if_pos hne,if_pos hne,if_pos hne,if_pos hne]
  simp only[Option.bind_some]
  rw[if_pos (by unfold lim;simp;omega)]
  rfl
 ·simp only[Ao,e1,e2]
  rw[if_neg (by simp)]
end
end T
open Go Go.Va
namespace T
abbrev Fk:=Int×List (List Int)
structure ROk (n m:Nat) (r:Fk):Prop where
 ar:r.1=(m:Int)
 hm:1<=m/\m<=3
 tl: ∀t∈r.2,t.length=m
 tv: ∀t∈r.2,∀x∈t,0<=x/\x<(n:Int)
 many:r.2.length<=64
 inc:B7 r.2=true
theorem HB {l:List Nat} {s:List Nat} {x y:Nat}:(cI (l++x::s)).set l.length (y:Int)=cI (l++y::s):=by
 unfold cI
 rw[List.map_append,List.map_append,List.map_cons,List.map_cons,List.set_append_right _ _ (by simp)]
 simp
theorem F8 {b:Nat} (hb:0<b): ∀(j i f:Nat) (s:List Nat),j<f->i<4611686018427387904->j<=1000->
  B3 f ((b:Int),(i:Int),cI (List.replicate j 0++s),(j:Int)-1)=some (cI (dg b j i++s)):=by
 intro j
 induction j with
 |zero=>
  intro i f s hf hi hj
  obtain⟨f,rfl⟩: ∃z,f=z+1:=⟨f-1,by omega⟩
  simp only[B3]
  rw[if_neg (by simp)];rfl
 |succ j ih=>
  intro i f s hf hi hj
  obtain⟨f,rfl⟩: ∃z,f=z+1:=⟨f-1,by omega⟩
  have e1:((j+1:Nat):Int)-1=(j:Int):=by omega
  have hz:List.replicate (j+1) 0++s=List.replicate j 0++0::s:=by rw[List.replicate_succ'];simp
  have hlen:j<(cI (List.replicate j 0++0::s)).length:=by rw[CC];simp
  have hset:=HB (l:=List.replicate j 0) (s:=s) (x:=0) (y:=i%b)
  rw[List.length_replicate]at hset
  have w2:w64 ((j:Int)-1)=(j:Int)-1:=AN (by omega) (by omega)
  have hle:=Nat.div_le_self i b
  rw[e1,hz]
  simp only[B3,FY hi,GS,Aj,hlen,Fi,hset,w2]
  rw[if_pos (by simp),if_pos (by omega),if_pos trivial,if_pos (by omega),ih (i/b) f _ (by omega) (by omega) (by omega)]
  simp[dg]
theorem DK {b k i:Nat} (hb:0<b) (hk:k<=1000) (hi:i<4611686018427387904):Cr (b:Int) (k:Int) (i:Int)=some (cI (dg b k i)):=by
 have h:=F8 hb k i Aa [] (by unfold Aa;omega) hi hk
 have e:cI (List.replicate k 0++ [])=List.replicate (Int.toNat (k:Int)) (0:Int):=by unfold cI;simp
 rw[e,List.append_nil]at h
 unfold Cr
 rw[AN (x:=(k:Int)-1) (by omega) (by omega),h,if_pos (by unfold lim;omega)];rfl
def PL (n k:Nat) (r:Fk) (i:Nat):List Nat:=(List.range r.1.toNat).map λj=>atF n r.2 j (dg r.2.length k i)
section
variable {n k m:Nat} {r:Fk}
theorem ROk.pl_len (h:ROk n m r) {i:Nat}:(PL n k r i).length=m:=by unfold PL;simp;have:=h.ar;omega
end
end T
open Go Go.Va
namespace T
section
variable {n:Int} {rels:List Fk}
end
def EA (V:List Int) (x:Nat):Int:=match V.findIdx? (λy=>y==(x:Int))with|some i=>(i:Int)|none=> -1
section
variable {n:Nat} {t:List Int}
end
section
variable {n m:Nat} {t:List Int} {r:Fk} {rels:List Fk}
end
end T
set_option linter.unusedVariables false
open Go Go.Va
namespace T
def Bh:Nat->((List (List Int))×(List (List Int))×Int×Int)->Option ((List (List Int)))
 |0,_=>none
 |n+1,(list,t7,t8,t9)=>
 if decide (t9<t8)then
 if inb t9 t7 then
 (CE (gd t7 t9 [])).bind λr1=>
 if list.length+ [r1].length<=lim then
 Bh n (list++ [r1],t7,t8,w64 (t9+1))
 else none
 else none
 else
 some list
def CY (rows:List (List Int)):Option ((List (List Int))):=
 (Bh Aa ([],rows,(rows.length:Int),0)).bind λs1=>
 some s1
end T
open Go Go.Va
namespace T
section
variable {α:Type} {nw old:Nat->α} {N i:Nat}
end
def pr4 (p:Int):Prop:=p=2∨p=3∨p=5∨p=7
def FQ (p:Int) (W:Nat) (r:List Int):Prop:=r.length=W/\ ∀x∈r,0<=x/\x<p
section
variable {p:Int} {W:Nat} {r row:List Int}
theorem HL (h:FQ p W r) {i:Nat} (hi:i<W):0<=r.getD i 0/\r.getD i 0<p:=by
 have:i<r.length:=by rw[h.1];exact hi
 rw[AC this];exact h.2 _ (List.getElem_mem this)
end
abbrev ES:=List (List Int)×List Int×List (List Int)
structure ESok (p:Int) (W N v:Nat) (s:ES):Prop where
 t: ∀r∈s.1,FQ p W r
 l: ∀r∈s.2.2,FQ p W r
 bl:s.2.1.length=s.1.length
 n:s.1.length+s.2.2.length=N
 bv: ∀x∈s.2.1,0<=x/\x<(v:Int)
 bn:s.2.1.Nodup
section
variable {p:Int} {W N:Nat}
end
end T
open Go Go.Va
namespace T
section
variable {p:Int} {W N V:Nat}
theorem Ga {b:List Int} {u:Nat} (h:(u:Int)∉b):EA b u= -1:=by
 unfold EA
 have h1:(b.findIdx? λy=>y==(u:Int))=none:=by
  rw[List.findIdx?_eq_none_iff]
  intro y hy
  simp only[beq_eq_false_iff_ne]
  intro e;exact h (e▸hy)
 rw[h1]
theorem FR {b:List Int} {u:Nat} (h:(u:Int)∈b): ∃i,∃hi:i<b.length,EA b u=(i:Int)/\b[i]=(u:Int):=by
 unfold EA
 have h1:(b.findIdx? λy=>y==(u:Int)).isSome=true:=by
  rw[List.findIdx?_isSome,List.any_eq_true]
  exact⟨_,h,by simp⟩
 obtain⟨i,hi⟩:=Option.isSome_iff_exists.1 h1
 rw[hi]
 obtain⟨g1,g2,_⟩:=List.findIdx?_eq_some_iff_getElem.1 hi
 exact⟨i,g1,rfl,by simpa using g2⟩
end
end T
open Go Go.Va
namespace T
def H3 (N:Nat) (b:List Int):List Int:=((List.range N).filter λv:Nat=>!decide ((v:Int)∈b)).map λv:Nat=>(v:Int)
section
variable {p:Int} {W N V:Nat}
theorem GG {b:List Int} {u:Nat}:EA b u<0↔(u:Int)∉b:=by
 by_cases h:(u:Int)∈b
 ·obtain⟨i,hi,h1,_⟩:=FR h
  rw[h1];simp[h]
 ·rw[Ga h];simp[h]
def GN (V:Nat) (s:ES) (u:Nat):Int:=if EA s.2.1 u<0 then 0 else(s.1.getD (EA s.2.1 u).toNat []).getD V 0
def Ic (V:Nat) (s:ES):List Int:=(List.range V).map (GN V s)
end
end T
open Go Go.Va
namespace T
def cg (p a b:Int):Prop:= ∃k,a=b+p*k
section
variable {p a b c d:Int}
theorem FK (h:a=b):cg p a b:=⟨0,by rw[h];simp⟩
theorem HC (h:cg p a b) (g:cg p c d):cg p (a+c) (b+d):=by obtain⟨k,h⟩:=h;obtain⟨m,g⟩:=g;exact⟨k+m,by grind⟩
theorem HD (x:Int) (h:cg p a b):cg p (x*a) (x*b):=by obtain⟨k,h⟩:=h;exact⟨x*k,by grind⟩
end
inductive Sp (p:Int) (V:Nat) (A:List (List Int)):(Nat->Int)->Prop
 |zero:Sp p V A λ_=>0
 |add {f:Nat->Int} (r:List Int) (c:Int):r∈A->Sp p V A f->Sp p V A λi=>f i+c*r.getD i 0
 |cgr {f g:Nat->Int}:Sp p V A f->(∀i,i<V->cg p (g i) (f i))->Sp p V A g
section
variable {p:Int} {V W N:Nat} {A B:List (List Int)} {f g:Nat->Int}
theorem Sp.lin (hf:Sp p V A f) (hg:Sp p V A g) (c:Int):Sp p V A λi=>f i+c*g i:=by
 induction hg with
 |zero=>exact hf.cgr λi _=>FK (by simp)
 |add r d hr _ ih=>exact(ih.add r (c*d) hr).cgr λi _=>FK (by grind)
 |cgr _ h ih=>exact ih.cgr λi hi=>HC (FK rfl) (HD c (h i hi))
theorem Sp.mem {r:List Int} (h:r∈A):Sp p V A λi=>r.getD i 0:=(Sp.add r 1 h .zero).cgr λi _=>FK (by simp)
theorem Sp.sub (h: ∀r∈A,Sp p V B λi=>r.getD i 0) (hf:Sp p V A f):Sp p V B f:=by
 induction hf with
 |zero=>exact .zero
 |add r c hr _ ih=>exact ih.lin (h r hr) c
 |cgr _ h ih=>exact ih.cgr h
def eqSp (p:Int) (V:Nat) (A B:List (List Int)):Prop:= ∀f,Sp p V A f↔Sp p V B f
theorem G1 (h: ∀r∈A,Sp p V B λi=>r.getD i 0) (g: ∀r∈B,Sp p V A λi=>r.getD i 0):eqSp p V A B:=λ_=>⟨Sp.sub h,Sp.sub g⟩
end
end T
open Go Go.Va
namespace T
section
variable {p:Int} {V W N:Nat} {A B:List (List Int)} {f g:Nat->Int}
theorem AL {α:Type} {l:List α} {i:Nat} {d:α} (hi:i<l.length):l.getD i d∈l:=by rw[AC hi];exact List.getElem_mem hi
end
end T
open Go Go.Va
namespace T
section
variable {p:Int} {V W N:Nat} {A B C D:List (List Int)} {f g:Nat->Int}
theorem eqSp.symm (h:eqSp p V A B):eqSp p V B A:=λf=>(h f).symm
theorem eqSp.trans (h:eqSp p V A B) (g:eqSp p V B C):eqSp p V A C:=λf=>(h f).trans (g f)
theorem eqSp.app (h:eqSp p V A B):eqSp p V (A++C) (B++C):=by
 have key: ∀ {A B:List (List Int)},eqSp p V A B-> ∀r∈A++C,Sp p V (B++C) λi=>r.getD i 0:=fun {A B} h r hr=>by
  rcases List.mem_append.1 hr with hr|hr
  ·exact Sp.sub (λq hq=>Sp.mem (List.mem_append_left _ hq)) ((h _).1 (Sp.mem hr))
  ·exact Sp.mem (List.mem_append_right _ hr)
 exact G1 (key h) (key h.symm)
end
end T
open Go Go.Va
namespace T
def i64 (x:Int):Prop:= -9223372036854775808<=x/\x<=9223372036854775807
section
variable {c:List Int} {ar:Int}
end
end T
open Go Go.Va
namespace T
abbrev NS:=Bool×Int×List (List (List Int))×List (List (List ByteArray))
abbrev NIn (σ:Type):=Int×List Int×σ×NS×List Int×Unit
abbrev GV (σ:Type):=List Int×σ×NS×List Int×Bool
def hM {σ:Type}:Nat->(Int×List Int×σ×NS×List Int×Unit×Int×Bool×List (List Int)×Int×Int)->Option (Int×List Int×σ×NS×List Int×Unit×Int×Bool)
 |0,_=>none
 |n+1,(t0,t1,t2,t3,t4,t5,t8,t9,t50,t51,t52)=>
 if decide (t52<t51)then
 if inb t52 t50 then
 if t9 then
 if t3.1=true then
 if inb t0 t3.2.2.2 then
 if inb t52 (gd t3.2.2.2 t0 [])then
 (Ff (gd t50 t52 []) t1).bind λr2=>
 (C0 r2).bind λr3=>
 hM n (t0,t1,t2,t3,t4,(),t8,Xs (gd (gd t3.2.2.2 t0 []) t52 []) r3,t50,t51,w64 (t52+1))
 else none
 else none
 else none
 else
 hM n (t0,t1,t2,t3,t4,(),t8,false,t50,t51,w64 (t52+1))
 else none
 else
 some (t0,t1,t2,t3,t4,(),t8,t9)
def hL {σ:Type} (rec:NIn σ->Option (GV σ)):Nat->(Int×List Int×σ×NS×List Int×Unit×Int)->Option ((List Int×σ×NS×List Int×Unit)⊕(List Int×σ×NS×List Int×Unit×Bool))
 |0,_=>none
 |n+1,(t0,t1,t2,t3,t4,t5,t8)=>
 if t3.1=true then
 if decide (t8<t3.2.1)then
 if inb t0 t4 then
 if decide ((gd t4 t0 0)≥0)then
 if inb t0 t4 then
 if(gd t4 t0 0) !=t8 then
 hL rec n (t0,t1,t2,t3,t4,(),w64 (t8+1))
 else
 if inb t0 t1 then
 if t3.1=true then
 if inb t0 t3.2.2.1 then
 (hM Aa (t0,stt t1 t0 t8,t2,t3,t4,(),t8,true,gd t3.2.2.1 t0 [],((gd t3.2.2.1 t0 []).length:Int),0)).bind λs2=>
 if s2.2.2.2.2.2.2.2 then
 (rec (w64 (s2.1+1),s2.2.1,s2.2.2.1,s2.2.2.2.1,s2.2.2.2.2.1,())).bind λr3=>
 if !r3.2.2.2.2 then
 some (.inr (r3.1,r3.2.1,r3.2.2.1,r3.2.2.2.1,(),false))
 else
 hL rec n (s2.1,r3.1,r3.2.1,r3.2.2.1,r3.2.2.2.1,(),w64 (s2.2.2.2.2.2.2.1+1))
 else
 hL rec n (s2.1,s2.2.1,s2.2.2.1,s2.2.2.2.1,s2.2.2.2.2.1,(),w64 (s2.2.2.2.2.2.2.1+1))
 else none
 else none
 else none
 else none
 else
 if inb t0 t1 then
 if t3.1=true then
 if inb t0 t3.2.2.1 then
 (hM Aa (t0,stt t1 t0 t8,t2,t3,t4,(),t8,true,gd t3.2.2.1 t0 [],((gd t3.2.2.1 t0 []).length:Int),0)).bind λs4=>
 if s4.2.2.2.2.2.2.2 then
 (rec (w64 (s4.1+1),s4.2.1,s4.2.2.1,s4.2.2.2.1,s4.2.2.2.2.1,())).bind λr5=>
 if !r5.2.2.2.2 then
 some (.inr (r5.1,r5.2.1,r5.2.2.1,r5.2.2.2.1,(),false))
 else
 hL rec n (s4.1,r5.1,r5.2.1,r5.2.2.1,r5.2.2.2.1,(),w64 (s4.2.2.2.2.2.2.1+1))
 else
 hL rec n (s4.1,s4.2.1,s4.2.2.1,s4.2.2.2.1,s4.2.2.2.2.1,(),w64 (s4.2.2.2.2.2.2.1+1))
 else none
 else none
 else none
 else none
 else
 some (.inl (t1,t2,t3,t4,()))
 else none
def H4 {σ:Type} (cb:List Int->σ->Option (σ×Bool)) (rec:NIn σ->Option (GV σ)) (x:NIn σ):Option (GV σ):=
 if x.1==(x.2.1.length:Int)then
  (cb x.2.1 x.2.2.1).bind λr1=>some (x.2.1,r1.1,x.2.2.2.1,x.2.2.2.2.1,r1.2)
 else
  (hL rec Aa (x.1,x.2.1,x.2.2.1,x.2.2.2.1,x.2.2.2.2.1,(),0)).bind λs2=>
   match s2 with
   | .inl s3=>some (s3.1,s3.2.1,s3.2.2.1,s3.2.2.2.1,true)
   | .inr s4=>some (s4.1,s4.2.1,s4.2.2.1,s4.2.2.2.1,s4.2.2.2.2.2)
def hF {σ:Type} (cb:List Int->σ->Option (σ×Bool)):Nat->NIn σ->Option (GV σ)
 |0,_=>none
 |d+1,x=>H4 cb (hF cb d) x
section
variable {V n:Nat} {cs:List Con} {given:List Int}
end
end T
set_option linter.unusedVariables false
open Go Go.Va
namespace T
def E2 (code:List Int):Option (Bool):=
 some (decide ((code.length:Int)>65536))
def Bx (c:(List Int)×Int×Int):Option (((List Int)×Int×Int)×Int):=
 if decide (c.2.1<(c.1.length:Int))then
 if inb c.2.1 c.1 then
 if decide ((w64 (c.2.1+1))<=(c.1.length:Int))then
 some ((c.1,(w64 (c.2.1+1),IntKind.wrap .u64 ((IntKind.wrap .u64 ((IntKind.wrap .u64 (c.2.2*6364136223846793005))+(IntKind.wrap .u64 (w64 (gd c.1 c.2.1 0)))))+550289))),w64 (gd c.1 c.2.1 0))
 else
 if(0:Int)<=40 then
 some ((c.1,(w64 (c.2.1+1),IntKind.wrap .u64 ((IntKind.wrap .u64 ((IntKind.wrap .u64 (c.2.2*6364136223846793005))+(IntKind.wrap .u64 (w64 (gd c.1 c.2.1 0)))))+550289))),w64 (Yil .u64 (YiD .u64 (IntKind.wrap .u64 ((IntKind.wrap .u64 ((IntKind.wrap .u64 (c.2.2*6364136223846793005))+(IntKind.wrap .u64 (w64 (gd c.1 c.2.1 0)))))+550289)) 40) 255))
 else none
 else none
 else
 if decide ((w64 (c.2.1+1))<=(c.1.length:Int))then
 some ((c.1,(w64 (c.2.1+1),IntKind.wrap .u64 ((IntKind.wrap .u64 ((IntKind.wrap .u64 (c.2.2*6364136223846793005))+(IntKind.wrap .u64 (0))))+550289))),0)
 else
 if(0:Int)<=40 then
 some ((c.1,(w64 (c.2.1+1),IntKind.wrap .u64 ((IntKind.wrap .u64 ((IntKind.wrap .u64 (c.2.2*6364136223846793005))+(IntKind.wrap .u64 (0))))+550289))),w64 (Yil .u64 (YiD .u64 (IntKind.wrap .u64 ((IntKind.wrap .u64 ((IntKind.wrap .u64 (c.2.2*6364136223846793005))+(IntKind.wrap .u64 (0))))+550289)) 40) 255))
 else none
def Ad (c:(List Int)×Int×Int) (n_:Int):Option (((List Int)×Int×Int)×Int):=
 if decide (n_<=1)then
 some ((c.1,(c.2.1,c.2.2)),0)
 else
 (Bx (c.1,(c.2.1,c.2.2))).bind λr1=>
 if decide (n_>200)then
 (Bx (r1.1.1,(r1.1.2.1,r1.1.2.2))).bind λr2=>
 if n_≠0 then
 some ((r2.1.1,(r2.1.2.1,r2.1.2.2)),Int.tmod (w64 ((w64 (r1.2*256))+r2.2)) n_)
 else none
 else
 if n_≠0 then
 some ((r1.1.1,(r1.1.2.1,r1.1.2.2)),Int.tmod r1.2 n_)
 else none
def Ab (c:(List Int)×Int×Int) (list:List Int):Option (((List Int)×Int×Int)×Int):=
 (Ad (c.1,(c.2.1,c.2.2)) (list.length:Int)).bind λr1=>
 if inb r1.2 list then
 some ((r1.1.1,(r1.1.2.1,r1.1.2.2)),gd list r1.2 0)
 else none
def Ag (c:(List Int)×Int×Int) (n_:Int):Option (((List Int)×Int×Int)×Bool):=
 (Ad (c.1,(c.2.1,c.2.2)) n_).bind λr1=>
 some ((r1.1.1,(r1.1.2.1,r1.1.2.2)),r1.2==0)
def Cg:Nat->((List Int)×(List Int)×Int)->Option ((Unit)⊕(Bool))
 |0,_=>none
 |n+1,(a,b,i)=>
 if decide (i<(a.length:Int))then
 if inb i a then
 if inb i b then
 if(gd a i 0) !=(gd b i 0)then
 some (.inr false)
 else
 Cg n (a,b,w64 (i+1))
 else none
 else none
 else
 some (.inl ())
def Dw (a:List Int) (b:List Int):Option (Bool):=
 if(a.length:Int) !=(b.length:Int)then
  some false
 else
  (Cg Aa (a,b,0)).bind λs1=>
   match s1 with
   | .inl s2=>
    some true
   | .inr s3=>
    some s3
def Ca (a:Int) (b:Int):Option (Int):=
 if decide (a<b)then
 some a
 else
 some b
end T
open Go Go.Va
namespace T
abbrev Dd:=List Int×Int×Int
def Cur (k:Nat) (c:Dd):Prop:=c.1.length<=65536/\(∀x∈c.1,0<=x/\x<256)/\0<=c.2.1/\c.2.1<=(k:Int)
theorem Hy (x:Int):0<=w64 (Yil .u64 x 255)/\w64 (Yil .u64 x 255)<256:=by
 have h1:(BitVec.ofInt 64 x&&&BitVec.ofInt 64 255).toNat<=255:=by
  rw[BitVec.toNat_and]
  have:(BitVec.ofInt 64 255).toNat=255:=by decide
  rw[this]
  exact Nat.and_le_right
 have h2:Yil .u64 x 255=((BitVec.ofInt 64 x&&&BitVec.ofInt 64 255).toNat:Int):=by
  unfold Yil
  have e: ∀n:Nat,n<=255->IntKind.wrap .u64 (n:Int)=(n:Int):=λn hn=>by
   simp[IntKind.wrap,IntKind.bits,IntKind.signed]
   omega
  exact e _ h1
 rw[h2,AN (by omega) (by omega)]
 omega
theorem FP {k:Nat} {c:Dd} (h:Cur k c) (hk:k<=1000000000): ∃c' x,Bx c=some (c',x)/\Cur (k+1) c'/\0<=x/\x<256:=by
 obtain⟨code,at',seed⟩:=c
 obtain⟨h1,h2,h3,h4⟩:=h
 dsimp only at h1 h2 h3 h4
 have hw:w64 (at'+1)=at'+1:=AN (by omega) (by omega)
 have hC: ∀s,Cur (k+1) (code,(at'+1,s)):=λs=>⟨h1,h2,by dsimp only;omega,by dsimp only;omega⟩
 unfold Bx
 simp only[hw]
 by_cases hc:at'<(code.length:Int)
 ·have hin:inb at' code:=⟨h3,hc⟩
  have hle:at'+1<=(code.length:Int):=by omega
  have hb:0<=gd code at' 0/\gd code at' 0<256:=by
   have:gd code at' 0=code.getD at'.toNat 0:=rfl
   rw[this,AC (by omega)]
   exact h2 _ (List.getElem_mem _)
  rw[if_pos (decide_eq_true hc),if_pos hin,if_pos (decide_eq_true hle)]
  exact⟨_,_,rfl,hC _,by rw[AN (by omega) (by omega)];exact hb⟩
 ·have hle: ¬at'+1<=(code.length:Int):=by omega
  rw[if_neg (by simpa using hc),if_neg (by simpa using hle),if_pos (by decide)]
  exact⟨_,_,rfl,hC _,Hy _⟩
theorem C9 {k:Nat} {c:Dd} (h:Cur k c) (hk:k<=100000000) (n:Int) (hn:n<=1000000): ∃c' x,Ad c n=some (c',x)/\Cur (k+2) c'/\0<=x/\(1<=n->x<n)/\(n<=1->x=0):=by
 have mono: ∀ {c:Dd} {i j:Nat},i<=j->Cur i c->Cur j c:=λhij ⟨a,b,d,e⟩=>⟨a,b,d,by omega⟩
 unfold Ad
 by_cases h1:n<=1
 ·rw[if_pos (decide_eq_true h1)]
  exact⟨_,_,rfl,mono (by omega) h,by omega,λ_=>by omega,λ_=>rfl⟩
 ·rw[if_neg (by simpa using h1)]
  obtain⟨c1,x1,e1,g1,a1,b1⟩:=FP h (by omega)
  have e1:Bx (c.1,(c.2.1,c.2.2))=_:=e1
  simp only[e1,Option.bind_some]
  by_cases h2:n>200
  ·obtain⟨c2,x2,e2,g2,a2,b2⟩:=FP g1 (by omega)
   have e2:Bx (c1.1,(c1.2.1,c1.2.2))=_:=e2
   rw[if_pos (decide_eq_true h2)]
   simp only[e2,Option.bind_some]
   rw[if_pos (by omega)]
   have w1:w64 (x1*256)=x1*256:=AN (by omega) (by omega)
   have w2:w64 (x1*256+x2)=x1*256+x2:=AN (by omega) (by omega)
   refine⟨_,_,rfl,g2,?_,λ_=>?_,λh=>absurd h h1⟩
   ·rw[w1,w2,Int.tmod_eq_emod_of_nonneg (by omega)];exact Int.emod_nonneg _ (by omega)
   ·rw[w1,w2,Int.tmod_eq_emod_of_nonneg (by omega)];exact Int.emod_lt_of_pos _ (by omega)
  ·rw[if_neg (by simpa using h2),if_pos (by omega)]
   refine⟨_,_,rfl,mono (by omega) g1,?_,λ_=>?_,λh=>absurd h h1⟩
   ·rw[Int.tmod_eq_emod_of_nonneg a1];exact Int.emod_nonneg _ (by omega)
   ·rw[Int.tmod_eq_emod_of_nonneg a1];exact Int.emod_lt_of_pos _ (by omega)
theorem Di {k:Nat} {c:Dd} (h:Cur k c) (hk:k<=100000000) {l:List Int} (h0:0<l.length) (hl:l.length<=1000): ∃c' x,Ab c l=some (c',x)/\Cur (k+2) c'/\x∈l:=by
 obtain⟨c1,x1,e1,g1,a1,b1,_⟩:=C9 h hk (l.length:Int) (by omega)
 have b1:=b1 (by omega)
 unfold Ab
 have e1:Ad (c.1,(c.2.1,c.2.2)) (l.length:Int)=_:=e1
 simp only[e1,Option.bind_some]
 have hin:inb x1 l:=⟨a1,b1⟩
 rw[if_pos hin]
 refine⟨_,_,rfl,g1,?_⟩
 have:gd l x1 0=l.getD x1.toNat 0:=rfl
 rw[this]
 exact AL (by omega)
theorem D5 {k:Nat} {c:Dd} (h:Cur k c) (hk:k<=100000000) (n:Int) (hn:n<=1000000): ∃c' x,Ag c n=some (c',x)/\Cur (k+2) c':=by
 obtain⟨c1,x1,e1,g1,_⟩:=C9 h hk n hn
 unfold Ag
 have e1:Ad (c.1,(c.2.1,c.2.2)) n=_:=e1
 simp only[e1,Option.bind_some]
 exact⟨_,_,rfl,g1⟩
theorem Cur.mono {c:Dd} {i j:Nat} (hij:i<=j):Cur i c->Cur j c:=λ⟨a,b,d,e⟩=>⟨a,b,d,by omega⟩
end T
open Go Go.Va
namespace T
section
variable {a:Lin}
end
theorem FD {x y:List Int} (h:x.length<=1048576):Dw x y=some (decide (x=y)):=by
 unfold Dw
 by_cases hl:x.length=y.length
 ·rw[if_neg (by simp[hl])]
  rw[eqX x y hl (λn i=>Cg n (x,y,i)) (λn k h1 h2=>?_) (λn=>?_) (n:=Aa) (by unfold Aa;omega)]
  ·by_cases e:x=y<;>simp[e]
  ·simp only[Cg,Aj,AK h1,AK h2,Af (show k<4611686018427387904 by omega)]
   by_cases e:x[k]=y[k]<;>simp[h1,h2,e]
  ·simp[Cg]
 ·have:x≠y:=λe=>hl (by rw[e])
  rw[if_pos (by simp;omega)];simp[this]
end T
set_option linter.unusedVariables false
open Go Go.Va
namespace T
def CI (list:List (List Int)) (t:List Int):Option ((List (List Int))):=
 (BC list t).bind λr1=>
 if r1.2 then
 some list
 else
 if(0:Int)<=0/\0<=r1.1/\r1.1<=(list.length:Int)then
 if([]:List (List Int)).length+((list.take (Int.toNat r1.1)).drop (Int.toNat 0)).length<=lim then
 if([]++((list.take (Int.toNat r1.1)).drop (Int.toNat 0))).length+ [t].length<=lim then
 if(0:Int)<=r1.1/\r1.1<=(list.length:Int)/\(list.length:Int)<=(list.length:Int)then
 if(([]++((list.take (Int.toNat r1.1)).drop (Int.toNat 0)))++ [t]).length+((list.take (Int.toNat (list.length:Int))).drop (Int.toNat r1.1)).length<=lim then
 some ((([]++((list.take (Int.toNat r1.1)).drop (Int.toNat 0)))++ [t])++((list.take (Int.toNat (list.length:Int))).drop (Int.toNat r1.1)))
 else none
 else none
 else none
 else none
 else none
end T
open Go Go.Va
namespace T
def Zn (cmp:List Int->List Int->Int) (rows:List (List Int)):List (List Int):=rows.mergeSort (λx y=>!decide (cmp y x<0))
def cmpT (s t:List Int):Int:=if s.length<t.length then-1 else if t.length<s.length then 1 else cmpL s t
theorem cmpT_refl (s:List Int):cmpT s s=0:=by unfold cmpT;rw[if_neg (by omega),if_neg (by omega),cmpL_refl]
theorem cmpT_symm (s t:List Int):cmpT t s= -cmpT s t:=by
 unfold cmpT
 by_cases h1:s.length<t.length
 ·rw[if_neg (by omega),if_pos h1,if_pos h1];rfl
 ·by_cases h2:t.length<s.length
  ·rw[if_pos h2,if_neg h1,if_pos h2]
  ·rw[if_neg h2,if_neg h1,if_neg h1,if_neg h2,cmpL_symm]
theorem cmpT_eq {s t:List Int} (h:cmpT s t=0):s=t:=by
 unfold cmpT at h
 by_cases h1:s.length<t.length
 ·rw[if_pos h1]at h;exact absurd h (by decide)
 ·rw[if_neg h1]at h
  by_cases h2:t.length<s.length
  ·rw[if_pos h2]at h;exact absurd h (by decide)
  ·rw[if_neg h2]at h;exact cmpL_eq.1 h
theorem cmpT_trans {s t u:List Int} (h1:cmpT s t<0) (h2:cmpT t u<0):cmpT s u<0:=by
 unfold cmpT at*
 by_cases a1:s.length<u.length
 ·rw[if_pos a1];decide
 ·rw[if_neg a1]
  by_cases b1:s.length<t.length
  ·have b2:u.length<t.length:=by omega
   rw[if_neg (by omega),if_pos b2]at h2;exact absurd h2 (by decide)
  ·rw[if_neg b1]at h1
   by_cases b3:t.length<s.length
   ·rw[if_pos b3]at h1;exact absurd h1 (by decide)
   ·rw[if_neg b3]at h1
    by_cases c1:t.length<u.length
    ·omega
    ·rw[if_neg c1]at h2
     by_cases c2:u.length<t.length
     ·rw[if_pos c2]at h2;exact absurd h2 (by decide)
     ·rw[if_neg c2]at h2
      rw[if_neg (by omega)]
      exact cmpL_trans h1 h2
end T
open Go Go.Va
namespace T
theorem Cp {l:List (List Int)}:B7 l=true↔l.Pairwise (λa b=>cmpL a b<0):=by
 constructor
 ·intro h
  rw[List.pairwise_iff_getElem]
  exact λi j hi hj hij=>C8 h i j hij hj
 ·intro h
  rw[Fs]
  rw[List.pairwise_iff_getElem]at h
  exact λi hi=>h i (i+1) (by omega) hi (by omega)
theorem CO {list:List (List Int)} {t:List Int} {k:Nat} (hl:list.length<=1000000) (hk:k<=1000000) (hv: ∀u∈list,u.length=k) (ht:t.length=k) (hi:B7 list=true):
  ∃out,CI list t=some out/\B7 out=true/\(∀u,u∈out↔u=t∨u∈list)/\(t∉list->out.Perm (t::list)):=by
 obtain⟨c,e,k1,k2,k3⟩:=DO (by omega) (by omega) hv ht hi
 unfold CI
 rw[e]
 simp only[Option.bind_some]
 by_cases hm:t∈list
 ·rw[decide_eq_true hm,if_pos rfl]
  exact⟨list,rfl,hi,λu=>⟨Or.inr,λh=>h.elim (λh=>h▸hm) id⟩,λh=>absurd hm h⟩
 ·rw[decide_eq_false hm,if_neg (by simp)]
  have e1:(list.take (Int.toNat (c:Int))).drop (Int.toNat 0)=list.take c:=by simp
  have e2:(list.take (Int.toNat (list.length:Int))).drop (Int.toNat (c:Int))=list.drop c:=by simp
  have hlim:lim=1099511627776:=rfl
  have t1:(list.take c).length=c:=by rw[List.length_take];omega
  rw[e1,e2,if_pos (by omega),if_pos (by simp;omega),if_pos (by simp;omega),if_pos (by omega),if_pos (by simp;omega)]
  refine⟨_,rfl,?_,λu=>?_,λ_=>?_⟩
  ·rw[Cp]at hi⊢
   simp only[List.nil_append]
   have hsp:list=list.take c++list.drop c:=(List.take_append_drop c list).symm
   rw[hsp,List.pairwise_append]at hi
   have h4: ∀u∈list.take c,cmpL u t<0:=λu hu=>by
    obtain⟨i,hi',rfl⟩:=List.mem_iff_getElem.1 hu
    rw[List.getElem_take]
    exact k2 i _ (by omega)
   have h5: ∀u∈list.drop c,cmpL t u<0:=λu hu=>by
    obtain⟨i,hi',rfl⟩:=List.mem_iff_getElem.1 hu
    rw[List.length_drop]at hi'
    rw[List.getElem_drop]
    have h6:=k3 (c+i) (by omega) (by omega)
    have h7:=cmpL_symm (list[c+i]'(by omega)) t
    have h8:cmpL (list[c+i]'(by omega)) t≠0:=λh=>hm (by rw[←cmpL_eq.1 h];exact List.getElem_mem _)
    omega
   rw[List.pairwise_append,List.pairwise_append]
   refine⟨⟨hi.1,List.pairwise_singleton _ _,λa ha b hb=>by rw[List.mem_singleton.1 hb];exact h4 a ha⟩,hi.2.1,λa ha b hb=>?_⟩
   rcases List.mem_append.1 ha with ha|ha
   ·exact hi.2.2 a ha b hb
   ·rw[List.mem_singleton.1 ha];exact h5 b hb
  ·have hsp:u∈list↔u∈list.take c∨u∈list.drop c:=by rw[←List.mem_append,List.take_append_drop]
   simp only[List.nil_append,List.mem_append,List.mem_singleton,hsp]
   constructor
   ·rintro ((h|h)|h)
    ·exact Or.inr (Or.inl h)
    ·exact Or.inl h
    ·exact Or.inr (Or.inr h)
   ·rintro (h|h|h)
    ·exact Or.inl (Or.inr h)
    ·exact Or.inl (Or.inl h)
    ·exact Or.inr h
  ·simp only[List.nil_append]
   refine(List.Perm.append_right _ (List.perm_append_comm)).trans ?_
   rw[List.append_assoc,List.take_append_drop]
   exact List.Perm.refl _
theorem F5 {x y:List Int} (h1: ¬cmpL y x<0) (h2: ¬cmpL x y<0):x=y:=by
 have:=cmpL_symm x y
 exact cmpL_eq.1 (by omega)
theorem Dm {out l:List (List Int)} (hi:B7 out=true) (hp:out.Perm l):Zn cmpL l=out:=by
 have hs:(Zn cmpL l).Pairwise λx y=>(!decide (cmpL y x<0))=true:=by
  unfold Zn
  refine List.pairwise_mergeSort (λa b c h1 h2=>?_) (λa b=>?_) l
  ·simp only[Bool.not_eq_true',decide_eq_false_iff_not]at*
   intro h3
   have q1:=cmpL_symm a b
   have q2:=cmpL_symm b c
   by_cases e:cmpL a b=0
   ·rw[cmpL_eq.1 e]at h3;exact h2 h3
   ·exact h2 (cmpL_trans h3 (by omega))
  ·simp only[Bool.or_eq_true,Bool.not_eq_true',decide_eq_false_iff_not]
   have q1:=cmpL_symm a b
   omega
 have ho:out.Pairwise λx y=>(!decide (cmpL y x<0))=true:=by
  refine(Cp.1 hi).imp ?_
  intro a b h
  simp only[Bool.not_eq_true',decide_eq_false_iff_not]
  have q1:=cmpL_symm a b
  omega
 have hpp:(Zn cmpL l).Perm out:=(List.mergeSort_perm l _).trans hp.symm
 refine List.Perm.eq_of_pairwise (λa b _ _ h1 h2=>?_) hs ho hpp
 simp only[Bool.not_eq_true',decide_eq_false_iff_not]at h1 h2
 exact F5 h1 h2
end T
set_option linter.unusedVariables false
open Go Go.Va
namespace T
def Au (a0:List (List Int)) (a1:Unit):Option (List (List Int)):=
 if List.length a0<=lim/\List.all a0 (λx=>decide (List.length x<=lim))=true then some (Zn cmpL a0)else none
end T
open Go Go.Va
namespace T
section
variable {p:Int} {W N V:Nat}
def coG (p:Int) (s:ES) (u:Nat) (f:Int):Int:=if EA s.2.1 u<0 then(if f=(u:Int)then 1 else 0)else p-(s.1.getD (EA s.2.1 u).toNat []).getD f.toNat 0
def HO (p:Int) (V:Nat) (s:ES) (F x:List Int) (u:Nat):Nat->Int
 |0=>GN V s u
 |k+1=>HO p V s F x u k+coG p s u (F.getD k 0)*x.getD k 0
def Ig (p:Int) (V:Nat) (s:ES) (F x:List Int) (k:Nat):List Int:=(List.range V).map λu=>HO p V s F x u k%p
structure GenOk (p:Int) (W N V:Nat) (s:ES) (F x:List Int):Prop where
 hp:pr4 p
 hs:ESok p W N V s
 hV:V<W
 hW:W<=1000
 hN:N<=100000
 hF:F=H3 V s.2.1
 hx:x.length=F.length
 xb: ∀v∈x,0<=v/\v<p
variable {s:ES} {F x:List Int}
theorem GenOk.pb (g:GenOk p W N V s F x):2<=p/\p<=7:=by have:=g.hp;unfold pr4 at this;omega
theorem GenOk.row (g:GenOk p W N V s F x) {u:Nat} (hu: ¬EA s.2.1 u<0):(EA s.2.1 u).toNat<s.1.length/\FQ p W (s.1.getD (EA s.2.1 u).toNat []):=by
 have hm:(u:Int)∈s.2.1:=by
  rcases Decidable.em ((u:Int)∈s.2.1)with h|h
  ·exact h
  ·exact absurd (GG.2 h) hu
 obtain⟨i,hi,g1,_⟩:=FR hm
 rw[g1,Int.toNat_natCast]
 have:=g.hs.bl
 exact⟨by omega,by rw[AC (by omega)];exact g.hs.t _ (List.getElem_mem _)⟩
theorem GenOk.base (g:GenOk p W N V s F x) (u:Nat):0<=GN V s u/\GN V s u<p:=by
 have:=g.pb
 unfold GN
 split
 ·omega
 ·rename_i h
  exact HL (g.row h).2 g.hV
end
end T
open Go Go.Va
namespace T
section
variable {p:Int} {W N V:Nat} {s:ES} {F x:List Int}
theorem GenOk.zero (g:GenOk p W N V s F x):Ig p V s F x 0=Ic V s:=by
 unfold Ig Ic
 refine List.map_congr_left λu _=>?_
 have:=g.base u
 simp only[HO]
 exact Int.emod_eq_of_lt this.1 this.2
end
end T
open Go Go.Va
namespace T
section
variable {a:Lin} {p:Int} {W N V:Nat} {s:ES} {F:List Int}
theorem Bc (l:List (List Int)):(Zn cmpL l).Perm l:=List.mergeSort_perm l _
theorem C1 {l:List (List Int)} (hn:l.Nodup):B7 (Zn cmpL l)=true:=by
 rw[Cp]
 have hs:(Zn cmpL l).Pairwise λx y=>(!decide (cmpL y x<0))=true:=by
  unfold Zn
  refine List.pairwise_mergeSort (λa b c h1 h2=>?_) (λa b=>?_) l
  ·simp only[Bool.not_eq_true',decide_eq_false_iff_not]at*
   intro h3
   have q1:=cmpL_symm a b
   have q2:=cmpL_symm b c
   by_cases e:cmpL a b=0
   ·rw[cmpL_eq.1 e]at h3;exact h2 h3
   ·exact h2 (cmpL_trans h3 (by omega))
  ·simp only[Bool.or_eq_true,Bool.not_eq_true',decide_eq_false_iff_not]
   have q1:=cmpL_symm a b
   omega
 have hn':(Zn cmpL l).Nodup:=(Bc l).nodup_iff.2 hn
 refine(hs.and hn').imp ?_
 intro x y h
 obtain⟨h1,h2⟩:=h
 simp only[Bool.not_eq_true',decide_eq_false_iff_not]at h1
 have q1:=cmpL_symm x y
 have q2:cmpL x y≠0:=λe=>h2 (cmpL_eq.1 e)
 omega
theorem GJ {l:List (List Int)} {t:List Int} {k:Nat} (hl:l.length<=1000000) (hk:k<=1000000) (hv: ∀u∈l,u.length=k) (ht:t.length=k) (hn:l.Nodup) (hm:t∉l):CI (Zn cmpL l) t=some (Zn cmpL (l++ [t])):=by
 have hp:=Bc l
 obtain⟨out,e,h1,_,h3⟩:=CO (list:=Zn cmpL l) (t:=t) (k:=k) (by rw[hp.length_eq];exact hl) hk (λu hu=>hv u (hp.mem_iff.1 hu)) ht (C1 hn)
 rw[e]
 have h4:=h3 (λh=>hm (hp.mem_iff.1 h))
 rw[Dm h1 (h4.trans ((List.Perm.cons t hp).trans (List.perm_append_comm (l₁:= [t]))))]
end
end T
set_option linter.unusedVariables false
open Go Go.Va
namespace T
def BY:Nat->((List (List Int))×(List (List Int))×Int)->Option ((Unit)⊕(Bool))
 |0,_=>none
 |n+1,(a,b,i)=>
 if decide (i<(a.length:Int))then
 if inb i a then
 if inb i b then
 (Dw (gd a i []) (gd b i [])).bind λr1=>
 if !r1 then
 some (.inr false)
 else
 BY n (a,b,w64 (i+1))
 else none
 else none
 else
 some (.inl ())
def Aq (a:List (List Int)) (b:List (List Int)):Option (Bool):=
 if(a.length:Int) !=(b.length:Int)then
  some false
 else
  (BY Aa (a,b,0)).bind λs1=>
   match s1 with
   | .inl s2=>
    some true
   | .inr s3=>
    some s3
def CQ:Nat->((List (List Int))×(List Int)×Int)->Option ((Unit)⊕(Bool))
 |0,_=>none
 |n+1,(lists,l,i)=>
 if decide (i<(lists.length:Int))then
 if inb i lists then
 (Dw (gd lists i []) l).bind λr1=>
 if r1 then
 some (.inr true)
 else
 CQ n (lists,l,w64 (i+1))
 else none
 else
 some (.inl ())
def EM (lists:List (List Int)) (l:List Int):Option (Bool):=
 (CQ Aa (lists,l,0)).bind λs1=>
  match s1 with
  | .inl s2=>
   some false
  | .inr s3=>
   some s3
end T
open Go Go.Va
namespace T
section
variable {a:Lin} {p:Int} {V W N:Nat} {s:ES}
end
theorem E6 {x y:List (List Int)} (h:x.length<=1048576) (hr: ∀r∈x,r.length<=1048576):Aq x y=some (decide (x=y)):=by
 unfold Aq
 by_cases hl:x.length=y.length
 ·rw[if_neg (by simp[hl]),eqX x y hl (λn i=>BY n (x,y,i)) ?_ ?_ (by unfold Aa;omega)]
  ·by_cases h:x=y<;>simp[h]
  ·intro n k h1 h2
   simp only[BY,Aj,AK h1,AK h2,Af (show k<4611686018427387904 by omega),FD (hr _ (List.getElem_mem h1))]
   by_cases h:x[k]=y[k]<;>simp[h1,h2,h]
  ·intro n
   simp[BY]
 ·rw[if_pos (by simp;omega),decide_eq_false (λe=>hl (by rw[e]))]
theorem HP {l:List (List Int)} {t:List Int} (h:l.length<=1048576) (hr: ∀r∈l,r.length<=1048576):EM l t=some (decide (t∈l)):=by
 unfold EM
 have:=Gj l (λn i=>CQ n (l,t,i)) (λr=>!decide (r=t)) (.inr true) (.inl ()) (λn k hk=>by
  simp only[CQ,Aj,AK hk,Af (show k<4611686018427387904 by omega),FD (hr _ (List.getElem_mem hk))]
  by_cases e:l[k]=t<;>simp[e,hk]) (λn=>by simp[CQ]) (n:=Aa) (by unfold Aa;omega)
 rw[this]
 by_cases hm:t∈l
 ·have:l.all (λr=>!decide (r=t))=false:=by
   rw[List.all_eq_false];exact⟨t,hm,by simp⟩
  rw[this];simp[hm]
 ·have:l.all (λr=>!decide (r=t))=true:=by
   rw[List.all_eq_true];intro r hr;simp;exact λe=>hm (e▸hr)
  rw[this];simp[hm]
end T
open Go Go.Va
namespace T
section
variable {a:Lin} {p:Int} {V N:Nat} {s:ES} {A:List (List Int)}
theorem Dc {x:List (List Int)} (h:x.length<=1048576) (hr: ∀r∈x,r.length<=1048576):Aq x x=some true:=by rw[E6 h hr];simp
end
end T
open Go Go.Va
namespace T
def Zm (xs:List (List Int)):List Nat:=(List.range xs.length).filter λi=>i==0||xs.getD (i-1) [] !=xs.getD i []
def Zx (xs:List (List Int)):List (List Int):=(Zm xs).map λi=>xs.getD i []
def dgP:List Int->List (List Int)->List (List Int)
 |_,[]=> []
 |p,x::l=>if p=x then dgP x l else x::dgP x l
theorem E0: ∀(l pre:List (List Int)) (p:List Int),((List.range' (pre++ [p]).length l.length).filter λi=>i==0||(pre++ [p]++l).getD (i-1) [] !=(pre++ [p]++l).getD i []).map (λi=>(pre++ [p]++l).getD i [])=dgP p l
 | [],_,_=>rfl
 |x::l,pre,p=>by
  have ih:=E0 l (pre++ [p]) x
  have e:pre++ [p]++ [x]++l=pre++ [p]++(x::l):=by simp
  rw[e]at ih
  have e2:(pre++ [p]++ [x]).length=(pre++ [p]).length+1:=by simp
  rw[e2]at ih
  have g1:(pre++ [p]++(x::l)).getD ((pre++ [p]).length-1) []=p:=by
   rw[List.getD_eq_getElem?_getD,List.getElem?_append_left (by simp),List.length_append,List.length_singleton,Nat.add_sub_cancel,List.getElem?_append_right (Nat.le_refl _),Nat.sub_self];rfl
  have g2:(pre++ [p]++(x::l)).getD (pre++ [p]).length []=x:=by
   rw[List.getD_eq_getElem?_getD,List.getElem?_append_right (Nat.le_refl _),Nat.sub_self];rfl
  have g3:((pre++ [p]).length==0)=false:=by simp
  rw[List.length_cons,List.range'_succ,List.filter_cons,g1,g2,g3,dgP]
  by_cases h:p=x
  ·rw[if_neg (by simp[h]),if_pos h];exact ih
  ·rw[if_pos (by simp[h]),if_neg h,List.map_cons,g2];exact congrArg _ ih
theorem EG {x:List Int} {l:List (List Int)}:Zx (x::l)=x::dgP x l:=by
 have h:=E0 l [] x
 unfold Zx Zm
 rw[List.range_eq_range',List.length_cons,List.range'_succ,List.filter_cons,if_pos (by simp),List.map_cons]
 exact congrArg _ h
theorem FM: ∀ {l:List (List Int)} {p u:List Int},(u∈dgP p l∨u=p)↔(u∈l∨u=p)
 | [],_,_=>Iff.rfl
 |x::l,p,u=>by
  have ih:=FM (l:=l) (p:=x) (u:=u)
  unfold dgP
  by_cases h:p=x
  ·subst h
   rw[if_pos rfl,ih,List.mem_cons]
   exact⟨λh=>h.elim (λh=>Or.inl (Or.inr h)) Or.inr,λh=>h.elim (λh=>h.elim Or.inr Or.inl) Or.inr⟩
  ·rw[if_neg h,List.mem_cons,List.mem_cons]
   constructor
   ·rintro ((h|h)|h)
    ·exact Or.inl (Or.inl h)
    ·exact Or.inl ((ih.1 (Or.inl h)).elim Or.inr Or.inl)
    ·exact Or.inr h
   ·rintro ((h|h)|h)
    ·exact Or.inl (Or.inl h)
    ·exact Or.inl ((ih.2 (Or.inl h)).elim Or.inr Or.inl)
    ·exact Or.inr h
theorem F6 {l:List (List Int)} {u:List Int}:u∈Zx l↔u∈l:=by
 cases l with
 |nil=>exact Iff.rfl
 |cons x l=>
  rw[EG,List.mem_cons,List.mem_cons]
  have:=FM (l:=l) (p:=x) (u:=u)
  exact⟨λh=>(this.1 h.symm).symm,λh=>(this.2 h.symm).symm⟩
theorem FL: ∀ {l:List (List Int)} {p:List Int},(p::l).Pairwise (λa b=> ¬cmpL b a<0)->(p::dgP p l).Pairwise λa b=>cmpL a b<0
 | [],_,_=>List.pairwise_singleton _ _
 |x::l,p,h=>by
  have h1:=List.pairwise_cons.1 h
  have ih:=FL (l:=l) (p:=x) h1.2
  unfold dgP
  by_cases e:p=x
  ·subst e;rw[if_pos rfl];exact ih
  ·rw[if_neg e]
   refine List.pairwise_cons.2 ⟨λb hb=>?_,ih⟩
   have hlt:cmpL p x<0:=by
    have h2:=h1.1 x (List.mem_cons_self ..)
    have h3:=cmpL_symm p x
    have h4:cmpL p x≠0:=λh=>e (cmpL_eq.1 h)
    omega
   rcases List.mem_cons.1 hb with rfl|hb
   ·exact hlt
   ·exact cmpL_trans hlt ((List.pairwise_cons.1 ih).1 b hb)
theorem GO (l:List (List Int)):(Zn cmpL l).Pairwise λa b=> ¬cmpL b a<0:=by
 have hs:(Zn cmpL l).Pairwise λx y=>(!decide (cmpL y x<0))=true:=by
  unfold Zn
  refine List.pairwise_mergeSort (λa b c h1 h2=>?_) (λa b=>?_) l
  ·simp only[Bool.not_eq_true',decide_eq_false_iff_not]at*
   intro h3
   have q1:=cmpL_symm a b
   have q2:=cmpL_symm b c
   by_cases e:cmpL a b=0
   ·rw[cmpL_eq.1 e]at h3;exact h2 h3
   ·exact h2 (cmpL_trans h3 (by omega))
  ·simp only[Bool.or_eq_true,Bool.not_eq_true',decide_eq_false_iff_not]
   have q1:=cmpL_symm a b
   omega
 exact hs.imp fun {a b} h=>by simpa using h
def GL (l:List (List Int)):List (List Int):=Zx (Zn cmpL l)
theorem setL_mem {l:List (List Int)} {u:List Int}:u∈GL l↔u∈l:=by
 unfold GL;rw[F6];exact(List.mergeSort_perm l _).mem_iff
theorem GM (l:List (List Int)):B7 (GL l)=true:=by
 rw[Cp]
 unfold GL
 have h:=GO l
 generalize Zn cmpL l=s at h
 cases s with
 |nil=>exact List.Pairwise.nil
 |cons x s=>rw[EG];exact FL h
theorem DH: ∀ {a b:List (List Int)},B7 a=true->B7 b=true->(∀u,u∈a↔u∈b)->a=b:=by
 intro a b ha hb h
 have pa:=Cp.1 ha
 have pb:=Cp.1 hb
 have na:a.Nodup:=pa.imp fun {x y} h e=>by rw[e,cmpL_refl]at h;omega
 have nb:b.Nodup:=pb.imp fun {x y} h e=>by rw[e,cmpL_refl]at h;omega
 have hp:a.Perm b:=(List.perm_ext_iff_of_nodup na nb).2 h
 rw[←Dm ha (List.Perm.refl _),←Dm hb (List.Perm.refl _)]
 have h1:=Dm ha hp
 have h2:=Dm hb (List.Perm.refl b)
 have h3:=Dm ha (List.Perm.refl a)
 rw[h2,h3,←h1,h2]
theorem FX {out l:List (List Int)} (hi:B7 out=true) (hm: ∀u,u∈out↔u∈l):GL l=out:=
 DH (GM l) hi λu=>setL_mem.trans (hm u).symm
end T
set_option linter.unusedVariables false
open Go Go.Va
namespace T
def AR:Nat->((List (List Int))×Int×Int×Int×Int×Int)->Option (((List (List Int))×Int×Int×Int×Int)⊕(Int×Int×Bool))
 |0,_=>none
 |n+1,(tuples,i,x,y,a,b)=>
 if decide (b<(tuples.length:Int))then
 if inb a tuples then
 if inb i (gd tuples a [])then
 if(gd (gd tuples a []) i 0)==x then
 if inb b tuples then
 if inb i (gd tuples b [])then
 if(gd (gd tuples b []) i 0)==y then
 if inb a tuples then
 if(0:Int)<=0/\0<=i/\i<=((gd tuples a []).length:Int)then
 if inb b tuples then
 if(0:Int)<=0/\0<=i/\i<=((gd tuples b []).length:Int)then
 (Da (((gd tuples a []).take (Int.toNat i)).drop (Int.toNat 0)) (((gd tuples b []).take (Int.toNat i)).drop (Int.toNat 0))).bind λr1=>
 if r1 then
 some (.inr (a,b,true))
 else
 AR n (tuples,i,x,y,a,w64 (b+1))
 else none
 else none
 else none
 else none
 else
 AR n (tuples,i,x,y,a,w64 (b+1))
 else none
 else none
 else
 AR n (tuples,i,x,y,a,w64 (b+1))
 else none
 else none
 else
 some (.inl (tuples,i,x,y,a))
def By:Nat->((List (List Int))×Int×Int×Int×Int)->Option ((Unit)⊕(Int×Int×Bool))
 |0,_=>none
 |n+1,(tuples,i,x,y,a)=>
  if decide (a<(tuples.length:Int))then
   (AR Aa (tuples,i,x,y,a,0)).bind λs1=>
    match s1 with
    | .inl s2=>
     By n (s2.1,s2.2.1,s2.2.2.1,s2.2.2.2.1,w64 (s2.2.2.2.2+1))
    | .inr s3=>
     some (.inr (s3.1,s3.2.1,s3.2.2))
  else
   some (.inl ())
def Dy (tuples:List (List Int)) (i:Int) (x:Int) (y:Int):Option (Int×Int×Bool):=
 (By Aa (tuples,i,x,y,0)).bind λs1=>
  match s1 with
  | .inl s2=>
   some (0,0,false)
  | .inr s3=>
   some (s3.1,s3.2.1,s3.2.2)
def AZ:Nat->(Int×Int×(List (List Int))×(List (List Int))×(List (List Int))×Int×Int×Int)->Option (Int×Int×(List (List Int))×(List (List Int))×(List (List Int))×Int×Int)
 |0,_=>none
 |n+1,(t0,t1,t2,t8,t9,t10,t11,t12)=>
 if decide (t12<t0)then
 (Dy t2 t10 t11 t12).bind λr1=>
 if r1.2.2 then
 if t8.length+ [[t10,t11,t12]].length<=lim then
 if inb r1.1 t2 then
 (B0 (gd t2 r1.1 [])).bind λr2=>
 (CI t9 r2).bind λr3=>
 if inb r1.2.1 t2 then
 (B0 (gd t2 r1.2.1 [])).bind λr4=>
 (CI r3 r4).bind λr5=>
 AZ n (t0,t1,t2,t8++ [[t10,t11,t12]],r5,t10,t11,w64 (t12+1))
 else none
 else none
 else none
 else
 AZ n (t0,t1,t2,t8,t9,t10,t11,w64 (t12+1))
 else
 some (t0,t1,t2,t8,t9,t10,t11)
def Bn:Nat->(Int×Int×(List (List Int))×(List (List Int))×(List (List Int))×Int×Int)->Option (Int×Int×(List (List Int))×(List (List Int))×(List (List Int))×Int)
 |0,_=>none
 |n+1,(t0,t1,t2,t8,t9,t10,t11)=>
 if decide (t11<t0)then
 (AZ Aa (t0,t1,t2,t8,t9,t10,t11,0)).bind λs1=>
 Bn n (s1.1,s1.2.1,s1.2.2.1,s1.2.2.2.1,s1.2.2.2.2.1,s1.2.2.2.2.2.1,w64 (s1.2.2.2.2.2.2+1))
 else
 some (t0,t1,t2,t8,t9,t10)
def Bm:Nat->(Int×Int×(List (List Int))×(List (List Int))×(List (List Int))×Int)->Option ((List (List Int))×(List (List Int)))
 |0,_=>none
 |n+1,(t0,t1,t2,t8,t9,t10)=>
 if decide (t10<t1)then
 (Bn Aa (t0,t1,t2,t8,t9,t10,0)).bind λs1=>
 Bm n (s1.1,s1.2.1,s1.2.2.1,s1.2.2.2.1,s1.2.2.2.2.1,w64 (s1.2.2.2.2.2+1))
 else
 some (t8,t9)
def A8 (t0:Int) (t1:Int) (t2:List (List Int)):Option ((List (List Int))×(List (List Int))):=
 (Bm Aa (t0,t1,t2,[],[],0)).bind λs1=>
 some (s1.1,s1.2)
def Cw (n_:Int) (k:Int) (tuples:List (List Int)):Option ((List (List Int))×Bool):=
 (Bl n_ k tuples).bind λr1=>
 if !r1 then
 some ([],false)
 else
 (A8 n_ k tuples).bind λr2=>
 some (r2.1,true)
def BF (a0:List (List Int)):Option (List (List Int)):=
 if List.length a0<=lim/\List.all a0 (λx=>decide (List.length x<=lim))=true then some (Zx a0)else none
def CS (i:Int) (t:List Int) (u:List Int) (t3:List (List Int)):Option ((List (List Int))):=
 if inb i t then
 if inb i u then
 if t3.length+ [[i,gd t i 0,gd u i 0]].length<=lim then
 some (t3++ [[i,gd t i 0,gd u i 0]])
 else none
 else none
 else none
def Ae:Nat->(Int×(List (List Int))×(List (List Int))×Int×Int×Int×(List (List Int)))->Option (Int×(List (List Int))×(List (List Int))×Int×Int×(List (List Int)))
 |0,_=>none
 |n+1,(t0,t1,t2,t6,t7,t8,t9)=>
 if decide (t8<(t1.length:Int))then
 if inb t7 t1 then
 if(0:Int)<=0/\0<=t6/\t6<=((gd t1 t7 []).length:Int)then
 if inb t8 t1 then
 if(0:Int)<=0/\0<=t6/\t6<=((gd t1 t8 []).length:Int)then
 (CK (((gd t1 t7 []).take (Int.toNat t6)).drop (Int.toNat 0)) (((gd t1 t8 []).take (Int.toNat t6)).drop (Int.toNat 0))).bind λr1=>
 if r1 then
 if t8==t7 then
 if inb t8 t1 then
 if t9.length+ [gd t1 t8 []].length<=lim then
 Ae n (t0,t1,t2,t6,t7,w64 (t8+1),t9++ [gd t1 t8 []])
 else none
 else none
 else
 if inb t8 t1 then
 if inb t6 (gd t1 t8 [])then
 if inb (w64 (t8-1)) t1 then
 if inb t6 (gd t1 (w64 (t8-1)) [])then
 if(gd (gd t1 t8 []) t6 0) !=(gd (gd t1 (w64 (t8-1)) []) t6 0)then
 if inb t8 t1 then
 if t9.length+ [gd t1 t8 []].length<=lim then
 Ae n (t0,t1,t2,t6,t7,w64 (t8+1),t9++ [gd t1 t8 []])
 else none
 else none
 else
 Ae n (t0,t1,t2,t6,t7,w64 (t8+1),t9)
 else none
 else none
 else none
 else none
 else
 some (t0,t1,t2,t6,t8,t9)
 else none
 else none
 else none
 else none
 else
 some (t0,t1,t2,t6,t8,t9)
def An:Nat->(Unit×Unit×Int×(List (List Int))×(List (List Int))×Int×Int×(List (List Int))×(List Int)×Int×Int×Int×Int)->Option (Unit×Int×(List (List Int))×(List (List Int))×Int×Int×(List (List Int))×Int×Int)
 |0,_=>none
 |n+1,(al74,al80,t0,t1,t2,t6,t8,t9,t11,t75,t76,t81,t82)=>
 if decide (t82<t81)then
 if inb t82 t9 then
 (CS t6 t11 (gd t9 t82 []) t2).bind λr3=>
 An n ((),(),t0,t1,r3,t6,t8,t9,t11,t75,t76,t81,w64 (t82+1))
 else none
 else
 some ((),t0,t1,t2,t6,t8,t9,t75,t76)
def Am:Nat->(Unit×Int×(List (List Int))×(List (List Int))×Int×Int×(List (List Int))×Int×Int)->Option (Int×(List (List Int))×(List (List Int))×Int×Int)
 |0,_=>none
 |n+1,(al74,t0,t1,t2,t6,t8,t9,t75,t76)=>
 if decide (t76<t75)then
 if inb t76 t9 then
 (An Aa ((),(),t0,t1,t2,t6,t8,t9,gd t9 t76 [],t75,t76,(t9.length:Int),0)).bind λs3=>
 Am n ((),s3.2.1,s3.2.2.1,s3.2.2.2.1,s3.2.2.2.2.1,s3.2.2.2.2.2.1,s3.2.2.2.2.2.2.1,s3.2.2.2.2.2.2.2.1,w64 (s3.2.2.2.2.2.2.2.2+1))
 else none
 else
 some (t0,t1,t2,t6,t8)
def As:Nat->(Int×(List (List Int))×(List (List Int))×Int×Int)->Option (Int×(List (List Int))×(List (List Int))×Int)
 |0,_=>none
 |n+1,(t0,t1,t2,t6,t7)=>
 if decide (t7<(t1.length:Int))then
 (Ae Aa (t0,t1,t2,t6,t7,t7,[])).bind λs1=>
 (Am Aa ((),s1.1,s1.2.1,s1.2.2.1,s1.2.2.2.1,s1.2.2.2.2.1,s1.2.2.2.2.2,(s1.2.2.2.2.2.length:Int),0)).bind λs2=>
 As n (s2.1,s2.2.1,s2.2.2.1,s2.2.2.2.1,s2.2.2.2.2)
 else
 some (t0,t1,t2,t6)
def Ar:Nat->(Int×(List (List Int))×(List (List Int))×Int)->Option ((List (List Int)))
 |0,_=>none
 |n+1,(t0,t1,t2,t6)=>
 if decide (t6<t0)then
 (As Aa (t0,t1,t2,t6,0)).bind λs1=>
 Ar n (s1.1,s1.2.1,s1.2.2.1,w64 (s1.2.2.2+1))
 else
 some t2
def Bj (t0:Int) (t1:List (List Int)) (t2:List (List Int)):Option ((List (List Int))):=
 (Ar Aa (t0,t1,t2,0)).bind λs1=>
 some s1
def Cu (n_:Int) (k:Int) (tuples:List (List Int)):Option ((List (List Int))×Bool):=
 (BP n_ k tuples).bind λr1=>
 if !r1 then
 some ([],false)
 else
 (Bj k tuples []).bind λr2=>
 (Au r2 ()).bind λr3=>
 (BF r3).bind λr4=>
 some (r4,true)
end T
open Go Go.Va
namespace T
structure TupS (n:Int) (k:Nat) (ts:List (List Int)):Prop where
 hn:1<=n/\n<=8
 hk:1<=k/\k<=4
 len: ∀t∈ts,t.length=k
 el: ∀t∈ts,AS n t=true
 inc:B7 ts=true
theorem DY {n k:Int} {ts:List (List Int)} (h:C2 n k ts=true):TupS n k.toNat ts/\(k.toNat:Int)=k:=by
 unfold C2 at h
 simp only[Bool.and_eq_true,decide_eq_true_eq,List.all_eq_true]at h
 obtain⟨⟨⟨h1,h2⟩,h3⟩,h4⟩:=h
 unfold Cd at h1
 simp only[decide_eq_true_eq]at h1
 refine⟨⟨h1,by omega,λt ht=>?_,λt ht=>?_,h4⟩,by omega⟩
 ·have:=h3 t ht;unfold Fj at this;simp at this;omega
 ·have:=h3 t ht;unfold Fj at this;simp at this;exact this.2
theorem TupS.count {n:Int} {k:Nat} {ts:List (List Int)} (h:TupS n k ts):ts.length<=4096:=by
 rcases En (n:=n) (k:=k) h.inc λt ht=>⟨h.len t ht,h.el t ht⟩with h'|h'
 ·have hp:=h.hn
  have e:n^k<=8^4:=by
   have:(n.toNat^k:Nat)<=8^4:=Nat.le_trans (Nat.pow_le_pow_left (show n.toNat<=8 by omega) k) (Nat.pow_le_pow_right (by omega) h.hk.2)
   have e2:((n.toNat^k:Nat):Int)=n^k:=by
    rw[Int.natCast_pow];congr 1;omega
   rw[←e2];exact_mod_cast this
  have:(8:Int)^4=4096:=by decide
  omega
 ·rw[h'];simp
theorem Fv: ∀ {s t u:List Int} {i:Nat},s.length=t.length->t.length=u.length->cmpL s t<=0->cmpL t u<=0->s.take i=u.take i->t.take i=s.take i
 |_,_,_,0,_,_,_,_,_=>rfl
 | [],[],_,i+1,_,_,_,_,_=>rfl
 |a::s,b::t,c::u,i+1,h1,h2,h3,h4,h5=>by
  rw[List.take_succ_cons,List.take_succ_cons]at h5
  obtain⟨e,h6⟩:=List.cons.inj h5
  subst e
  simp only[cmpL]at h3 h4
  have eb:a=b:=by
   by_cases h:a=b
   ·exact h
   ·rw[if_neg h]at h3;rw[if_neg (λe=>h e.symm)]at h4
    by_cases hlt:a<b
    ·rw[if_neg (by omega)]at h4;exact absurd h4 (by decide)
    ·rw[if_neg hlt]at h3;exact absurd h3 (by decide)
  subst eb
  rw[if_pos rfl]at h3 h4
  rw[List.take_succ_cons,List.take_succ_cons,Fv (by simpa using h1) (by simpa using h2) h3 h4 h6]
section
variable {n:Int} {k:Nat} {ts:List (List Int)}
def Av (ts:List (List Int)) (i j:Nat):List Int:=(ts.getD j []).take i
def AP (ts:List (List Int)) (i j:Nat):Int:=(ts.getD j []).getD i 0
theorem TupS.le (h:TupS n k ts) {a b:Nat} (hab:a<=b) (hb:b<ts.length):cmpL (ts.getD a []) (ts.getD b [])<=0:=by
 rcases Nat.lt_or_ge a b with hlt|hge
 ·have:=C8 h.inc a b hlt hb
  rw[AC hb,AC (show a<ts.length by omega)];omega
 ·have:a=b:=by omega
  subst this;rw[cmpL_refl];omega
theorem TupS.conv (h:TupS n k ts) {i a b c:Nat} (hab:a<=b) (hbc:b<=c) (hc:c<ts.length) (he:Av ts i a=Av ts i c):Av ts i b=Av ts i a:=by
 have hl: ∀j,j<ts.length->(ts.getD j []).length=k:=λj hj=>h.len _ (AL hj)
 exact Fv ((hl a (by omega)).trans (hl b (by omega)).symm) ((hl b (by omega)).trans (hl c hc).symm) (h.le hab (by omega)) (h.le hbc hc) he
theorem TupS.lenj (h:TupS n k ts) {j:Nat} (hj:j<ts.length):(ts.getD j []).length=k:=h.len _ (AL hj)
def Fir (ts:List (List Int)) (i a b:Nat) (fs:List (List Int)):Prop:=(∀r∈fs,∃j,a<=j/\j<b/\r=ts.getD j [])/\(∀j,a<=j->j<b-> ∃r∈fs,r.getD i 0=AP ts i j)/\fs.length<=b-a
theorem GR {l:List Int} {i:Nat}:(l.take (Int.toNat (i:Int))).drop (Int.toNat 0)=l.take i:=by simp
theorem G6 (h:TupS n k ts) {i:Nat} (hi:i<k) {a:Nat} (ha:a<ts.length) (t2:List (List Int)): ∀(d f b:Nat) (fs:List (List Int)),b+d=ts.length->d<f->a<=b->(∀j,a<=j->j<b->Av ts i j=Av ts i a)->Fir ts i a b fs->
  ∃(b':Nat) (fs':List (List Int)),Ae f ((k:Int),ts,t2,(i:Int),(a:Int),(b:Int),fs)=some ((k:Int),ts,t2,(i:Int),(b':Int),fs')/\b<=b'/\b'<=ts.length/\(∀j,a<=j->j<b'->Av ts i j=Av ts i a)/\(b'<ts.length->Av ts i b'≠Av ts i a)/\Fir ts i a b' fs':=by
 have hc:=h.count
 have hlim:lim=1099511627776:=rfl
 intro d
 induction d with
 |zero=>
  intro f b fs hb hf hab hp hF
  obtain⟨f,rfl⟩: ∃z,f=z+1:=⟨f-1,by omega⟩
  refine⟨b,fs,?_,Nat.le_refl _,by omega,hp,λhh=>by omega,hF⟩
  simp only[Ae]
  rw[if_neg (by simp;omega)]
 |succ d ih=>
  intro f b fs hb hf hab hp hF
  obtain⟨f,rfl⟩: ∃z,f=z+1:=⟨f-1,by omega⟩
  have hbl:b<ts.length:=by omega
  have la:=h.lenj ha
  have lb:=h.lenj hbl
  have ga:gd ts (a:Int) []=ts.getD a []:=by unfold gd;simp
  have gb:gd ts (b:Int) []=ts.getD b []:=by unfold gd;simp
  have hs:=Dk (x:=(ts.getD a []).take i) (y:=(ts.getD b []).take i) (by have:=h.hk;rw[List.length_take];omega)
  have e0:(Ae (f+1) ((k:Int),ts,t2,(i:Int),(a:Int),(b:Int),fs))=if Av ts i a=Av ts i b then(if(b:Int)==(a:Int)then Ae f ((k:Int),ts,t2,(i:Int),(a:Int),((b+1:Nat):Int),fs++ [ts.getD b []])else if AP ts i b !=AP ts i (b-1)then Ae f ((k:Int),ts,t2,(i:Int),(a:Int),((b+1:Nat):Int),fs++ [ts.getD b []])else Ae f ((k:Int),ts,t2,(i:Int),(a:Int),((b+1:Nat):Int),fs))else some ((k:Int),ts,t2,(i:Int),(b:Int),fs):=by
   have hFl:=hF.2.2
   simp only[Ae,Aj,ha,hbl,if_true,ga,gb,GR,hs,Option.bind_some,Af (show b<4611686018427387904 by omega)]
   rw[if_pos (by simp;omega),if_pos (by omega),if_pos (by omega)]
   unfold Av
   by_cases hpe:(ts.getD a []).take i=(ts.getD b []).take i
   ·rw[if_pos (by simpa using hpe),if_pos hpe]
    by_cases hba:(b:Int)==(a:Int)
    ·rw[if_pos hba,if_pos hba,if_pos (by simp;omega)]
    ·rw[if_neg hba,if_neg hba]
     have hb0:0<b:=by simp at hba;omega
     have hb1:b-1<ts.length:=by omega
     have lb1:=h.lenj hb1
     have gb1:gd ts ((b-1:Nat):Int) []=ts.getD (b-1) []:=by unfold gd;simp
     have q1:i<(ts.getD b []).length:=by omega
     have q2:i<(ts.getD (b-1) []).length:=by omega
     simp only[Ej (show b<4611686018427387904 by omega) hb0,Aj,hb1,gb1,q1,q2,if_true,Ec]
     unfold AP
     by_cases hv:(ts.getD b []).getD i 0=(ts.getD (b-1) []).getD i 0
     ·rw[if_neg (by simp only[hv];simp),if_neg (by simp only[hv];simp)]
     ·rw[if_pos (by simpa using hv),if_pos (by simp;omega),if_pos (by simpa using hv)]
   ·rw[if_neg (by simpa using hpe),if_neg hpe]
  rw[e0]
  by_cases hpe:Av ts i a=Av ts i b
  ·rw[if_pos hpe]
   have hp': ∀j,a<=j->j<b+1->Av ts i j=Av ts i a:=λj h1 h2=>by
    rcases Nat.lt_or_ge j b with hlt|hge
    ·exact hp j h1 hlt
    ·have:j=b:=by omega
     rw[this,hpe]
   have add:Fir ts i a (b+1) (fs++ [ts.getD b []]):=by
    refine⟨λr hr=>?_,λj h1 h2=>?_,?_⟩
    ·rcases List.mem_append.1 hr with hr|hr
     ·obtain⟨j,q1,q2,q3⟩:=hF.1 r hr
      exact⟨j,q1,by omega,q3⟩
     ·exact⟨b,hab,by omega,List.mem_singleton.1 hr⟩
    ·rcases Nat.lt_or_ge j b with hlt|hge
     ·obtain⟨r,q1,q2⟩:=hF.2.1 j h1 hlt
      exact⟨r,List.mem_append_left _ q1,q2⟩
     ·have:j=b:=by omega
      subst this
      exact⟨_,List.mem_append_right _ (List.mem_singleton.2 rfl),rfl⟩
    ·have:=hF.2.2
     rw[List.length_append,List.length_singleton];omega
   have nx: ∀fs',Fir ts i a (b+1) fs'-> ∃(b':Nat) (fs'':List (List Int)),Ae f ((k:Int),ts,t2,(i:Int),(a:Int),((b+1:Nat):Int),fs')=some ((k:Int),ts,t2,(i:Int),(b':Int),fs'')/\b<=b'/\b'<=ts.length/\(∀j,a<=j->j<b'->Av ts i j=Av ts i a)/\(b'<ts.length->Av ts i b'≠Av ts i a)/\Fir ts i a b' fs'':=λfs' hF'=>by
    obtain⟨b',fs'',q1,q2,q3⟩:=ih f (b+1) fs' (by omega) (by omega) (by omega) hp' hF'
    exact⟨b',fs'',q1,by omega,q3⟩
   by_cases hba:(b:Int)==(a:Int)
   ·rw[if_pos hba];exact nx _ add
   ·rw[if_neg hba]
    by_cases hv:AP ts i b=AP ts i (b-1)
    ·rw[if_neg (by simp[hv])]
     have hb0:a<b:=by simp at hba;omega
     refine nx _ ⟨λr hr=>?_,λj h1 h2=>?_,?_⟩
     ·obtain⟨j,q1,q2,q3⟩:=hF.1 r hr
      exact⟨j,q1,by omega,q3⟩
     ·rcases Nat.lt_or_ge j b with hlt|hge
      ·exact hF.2.1 j h1 hlt
      ·have:j=b:=by omega
       subst this
       rw[hv]
       exact hF.2.1 (j-1) (by omega) (by omega)
     ·have:=hF.2.2;omega
    ·rw[if_pos (by simpa using hv)];exact nx _ add
  ·rw[if_neg hpe]
   exact⟨b,fs,rfl,Nat.le_refl _,by omega,hp,λ_ e=>hpe e.symm,hF⟩
theorem G8 {i:Nat} {t u:List Int} {o:List (List Int)} (ht:i<t.length) (hu:i<u.length) (ho:o.length<=1000000000):CS (i:Int) t u o=some (o++ [[(i:Int),t.getD i 0,u.getD i 0]]):=by
 unfold CS
 rw[if_pos (Aj.2 ht),if_pos (Aj.2 hu),if_pos (by simp;unfold lim;omega)]
 simp only[Ec]
def CF (i:Nat) (fs:List (List Int)) (t:List Int):List (List Int):=fs.map λu=> [(i:Int),t.getD i 0,u.getD i 0]
theorem Gu {i:Nat} {t0:Int} {fs:List (List Int)} {t:List Int} (ht:i<t.length) (hfs: ∀u∈fs,i<u.length) (hl:fs.length<=4096) (o:List (List Int)) (ho:o.length<=900000000) (t8 t75 t76:Int):
  An Aa ((),(),t0,ts,o,(i:Int),t8,fs,t,t75,t76,(fs.length:Int),0)=some ((),t0,ts,o++CF i fs t,(i:Int),t8,fs,t75,t76):=by
 have:=DC fs.length (λf o v=>An f ((),(),t0,ts,o,(i:Int),t8,fs,t,t75,t76,(fs.length:Int),v)) (λc=>o++CF i (fs.take c) t) (r:=some ((),t0,ts,o++CF i fs t,(i:Int),t8,fs,t75,t76)) (λf c hc=>?_) (λf=>?_) (n:=Aa) (by unfold Aa;omega)
 ·rw[List.take_zero,CF,List.map_nil,List.append_nil]at this;exact this
 ·have hcl:(o++CF i (fs.take c) t).length<=1000000000:=by simp[CF];omega
  have hu:=hfs _ (List.getElem_mem hc)
  simp only[An,Aj,hc,AK hc,if_true,G8 ht hu hcl,Option.bind_some,Af (show c<4611686018427387904 by omega)]
  rw[if_pos (by simp;omega),List.take_succ_eq_append_getElem hc,CF,CF,List.map_append,List.append_assoc]
  rfl
 ·simp only[An,List.take_length]
  rw[if_neg (by simp)]
def EY (i:Nat) (fs:List (List Int)):List (List Int):=fs.flatMap (CF i fs)
theorem FN {i:Nat} {fs gs:List (List Int)}:(gs.flatMap (CF i fs)).length=gs.length*fs.length:=by
 induction gs with
 |nil=>simp
 |cons g gs ih=>rw[List.flatMap_cons,List.length_append,ih,List.length_cons,CF,List.length_map,Nat.succ_mul];omega
theorem Gt {i:Nat} {t0:Int} {fs:List (List Int)} (hfs: ∀u∈fs,i<u.length) (hl:fs.length<=4096) (o:List (List Int)) (ho:o.length<=800000000) (t8:Int):
  Am Aa ((),t0,ts,o,(i:Int),t8,fs,(fs.length:Int),0)=some (t0,ts,o++EY i fs,(i:Int),t8):=by
 have:=DC fs.length (λf o v=>Am f ((),t0,ts,o,(i:Int),t8,fs,(fs.length:Int),v)) (λc=>o++(fs.take c).flatMap (CF i fs)) (r:=some (t0,ts,o++EY i fs,(i:Int),t8)) (λf c hc=>?_) (λf=>?_) (n:=Aa) (by unfold Aa;omega)
 ·rw[List.take_zero,List.flatMap_nil,List.append_nil]at this;exact this
 ·have hcl:(o++(fs.take c).flatMap (CF i fs)).length<=900000000:=by
   rw[List.length_append,FN,List.length_take]
   have:min c fs.length*fs.length<=4096*4096:=Nat.mul_le_mul (by omega) hl
   omega
  have hu:=hfs _ (List.getElem_mem hc)
  have e:=Gu (ts:=ts) (t0:=t0) hu hfs hl _ hcl t8 (fs.length:Int) (c:Int)
  simp only[Am,Aj,hc,AK hc,if_true,e,Option.bind_some,Af (show c<4611686018427387904 by omega)]
  rw[if_pos (by simp;omega),List.take_succ_eq_append_getElem hc,List.flatMap_append,List.append_assoc]
  simp
 ·simp only[Am,List.take_length]
  rw[if_neg (by simp)];rfl
def HT (ts:List (List Int)) (i a:Nat) (E:List (List Int)):Prop:=
 (∀r∈E,∃j l,j<ts.length/\l<ts.length/\Av ts i j=Av ts i l/\r= [(i:Int),AP ts i j,AP ts i l])/\
 (∀j l,a<=j->a<=l->j<ts.length->l<ts.length->Av ts i j=Av ts i l-> [(i:Int),AP ts i j,AP ts i l]∈E)
theorem G4 (h:TupS n k ts) {i:Nat} (hi:i<k): ∀(d f a:Nat) (o:List (List Int)),a+d=ts.length->d<f->o.length+4096*d<=700000000->
  ∃E,As f ((k:Int),ts,o,(i:Int),(a:Int))=some ((k:Int),ts,o++E,(i:Int))/\HT ts i a E/\E.length<=4096*d:=by
 have hc:=h.count
 intro d
 induction d using Nat.strongRecOn with
 |_ d ih=>
  intro f a o ha hf ho
  obtain⟨f,rfl⟩: ∃z,f=z+1:=⟨f-1,by omega⟩
  rcases Nat.eq_zero_or_pos d with h0|h0
  ·refine⟨[],?_,⟨λr hr=>(by cases hr),λj l h1 h2 h3=>by omega⟩,by simp⟩
   simp only[As]
   rw[if_neg (by simp;omega),List.append_nil]
  ·have hal:a<ts.length:=by omega
   obtain⟨b,fs,e1,hb1,hb2,hp,hq,hF⟩:=G6 h hi hal o d Aa a [] ha (by unfold Aa;omega) (Nat.le_refl _) (λj h1 h2=>by omega) ⟨λr hr=>(by cases hr),λj h1 h2=>(by omega),by simp⟩
   have hab:a<b:=by
    rcases Nat.lt_or_ge a b with h1|h1
    ·exact h1
    ·have:b=a:=by omega
     subst this
     exact absurd rfl (hq hal)
   have hfl:=hF.2.2
   have hfs: ∀u∈fs,i<u.length:=λu hu=>by
    obtain⟨j,q1,q2,rfl⟩:=hF.1 u hu
    have:=h.lenj (show j<ts.length by omega);omega
   have e2:=Gt (ts:=ts) (t0:=(k:Int)) hfs (by omega) o (by omega) (b:Int)
   have hal2:(EY i fs).length<=4096*(b-a):=by
    unfold EY;rw[FN]
    exact Nat.mul_le_mul (by omega) hfl
   obtain⟨E,e3,hE,hEl⟩:=ih (ts.length-b) (by omega) f b (o++EY i fs) (by omega) (by omega) (by rw[List.length_append];omega)
   refine⟨EY i fs++E,?_,⟨λr hr=>?_,λj l h1 h2 h3 h4 h5=>?_⟩,by rw[List.length_append];omega⟩
   ·simp only[As,e1,Option.bind_some,e2,e3]
    rw[if_pos (by simp;omega),List.append_assoc]
   ·rcases List.mem_append.1 hr with hr|hr
    ·obtain⟨t,ht,hr⟩:=List.mem_flatMap.1 hr
     obtain⟨u,hu,rfl⟩:=List.mem_map.1 hr
     obtain⟨j,q1,q2,rfl⟩:=hF.1 t ht
     obtain⟨l,q3,q4,rfl⟩:=hF.1 u hu
     exact⟨j,l,by omega,by omega,(hp j q1 q2).trans (hp l q3 q4).symm,rfl⟩
    ·exact hE.1 r hr
   ·rw[List.mem_append]
    have apart: ∀j l,a<=j->j<b->b<=l->l<ts.length->Av ts i j=Av ts i l->False:=λj l h1 h2 h3 h4 h5=>by
     have h6:=h.conv (i:=i) (show j<=b by omega) h3 h4 h5
     exact hq (by omega) (h6.trans (hp j h1 h2))
    rcases Nat.lt_or_ge j b with hj|hj
    ·rcases Nat.lt_or_ge l b with hl|hl
     ·left
      obtain⟨t,ht,et⟩:=hF.2.1 j h1 hj
      obtain⟨u,hu,eu⟩:=hF.2.1 l h2 hl
      exact List.mem_flatMap.2 ⟨t,ht,List.mem_map.2 ⟨u,hu,by rw[et,eu]⟩⟩
     ·exact(apart j l h1 hj hl h4 h5).elim
    ·rcases Nat.lt_or_ge l b with hl|hl
     ·exact(apart l j h2 hl hj h3 h5.symm).elim
     ·right;exact hE.2 j l hj hl h3 h4 h5
def isFork (ts:List (List Int)) (k:Nat) (r:List Int):Prop:= ∃i j l,i<k/\j<ts.length/\l<ts.length/\Av ts i j=Av ts i l/\r= [(i:Int),AP ts i j,AP ts i l]
theorem EU (h:TupS n k ts): ∃E,Bj (k:Int) ts []=some E/\(∀r,r∈E↔isFork ts k r)/\E.length<=100000000:=by
 have hc:=h.count
 have hk:=h.hk
 have key: ∀(d f i:Nat) (o:List (List Int)),i+d=k->d<f->o.length<=16777216*i->(∀r,r∈o↔isFork ts i r)->
   ∃E,Ar f ((k:Int),ts,o,(i:Int))=some E/\(∀r,r∈E↔isFork ts k r)/\E.length<=16777216*k:=by
  intro d
  induction d with
  |zero=>
   intro f i o hi hf ho hm
   obtain⟨f,rfl⟩: ∃z,f=z+1:=⟨f-1,by omega⟩
   have:i=k:=by omega
   subst this
   refine⟨o,?_,hm,ho⟩
   simp only[Ar]
   rw[if_neg (by simp)]
  |succ d ih=>
   intro f i o hi hf ho hm
   obtain⟨f,rfl⟩: ∃z,f=z+1:=⟨f-1,by omega⟩
   obtain⟨E,e1,hE,hEl⟩:=G4 h (i:=i) (by omega) ts.length Aa 0 o (by omega) (by unfold Aa;omega) (by omega)
   have e1:As Aa ((k:Int),ts,o,(i:Int),0)=_:=e1
   obtain⟨E',e2,hE',hl'⟩:=ih f (i+1) (o++E) (by omega) (by omega) (by rw[List.length_append];omega) (λr=>by
    rw[List.mem_append,hm]
    constructor
    ·rintro (⟨i',j,l,q1,q2⟩|hr)
     ·exact⟨i',j,l,by omega,q2⟩
     ·obtain⟨j,l,q1,q2,q3,q4⟩:=hE.1 r hr
      exact⟨i,j,l,by omega,q1,q2,q3,q4⟩
    ·rintro ⟨i',j,l,q1,q2,q3,q4,rfl⟩
     rcases Nat.lt_or_ge i' i with hlt|hge
     ·exact Or.inl ⟨i',j,l,hlt,q2,q3,q4,rfl⟩
     ·have:i'=i:=by omega
      subst this
      exact Or.inr (hE.2 j l (Nat.zero_le _) (Nat.zero_le _) q2 q3 q4))
   refine⟨E',?_,hE',hl'⟩
   simp only[Ar,e1,Option.bind_some,Af (show i<4611686018427387904 by omega),e2]
   rw[if_pos (by simp;omega)]
 obtain⟨E,e,hm,hl⟩:=key k Aa 0 [] (by omega) (by unfold Aa;omega) (by simp) (λr=>⟨λh=>(by cases h),λ⟨i,_,_,q,_⟩=>by omega⟩)
 refine⟨E,?_,hm,by omega⟩
 unfold Bj
 have e:Ar Aa ((k:Int),ts,[],0)=_:=e
 rw[e];rfl
end
end T
open Go Go.Va
namespace T
theorem Ev {α β:Type} {p:α->Bool} {g:α->β}: ∀ {l:List α},l.findSome? (λa=>if p a then some (g a)else none)=(l.find? p).map g
 | []=>rfl
 |a::l=>by
  rw[List.findSome?_cons,List.find?_cons]
  cases h:p a with
  |true=>rfl
  |false=>exact Ev
section
variable {n:Int} {k:Nat} {ts:List (List Int)}
def Eu (ts:List (List Int)) (i:Nat) (x y:Int) (a b:Nat):Bool:=AP ts i a==x&&(AP ts i b==y&&decide (Av ts i a=Av ts i b))
def bO (ts:List (List Int)) (i:Nat) (x y:Int) (a:Nat):Option Nat:=(List.range ts.length).find? (Eu ts i x y a)
def Ch (ts:List (List Int)) (i:Nat) (x y:Int):Option (Nat×Nat):=(List.range ts.length).findSome? λa=>(bO ts i x y a).map λb=>(a,b)
theorem Bt {i:Nat} {x y:Int} {a b:Nat} (h:Ch ts i x y=some (a,b)):a<ts.length/\b<ts.length/\AP ts i a=x/\AP ts i b=y/\Av ts i a=Av ts i b:=by
 unfold Ch at h
 obtain⟨a',ha,h⟩:=List.exists_of_findSome?_eq_some h
 obtain⟨b',hb,h⟩:=Option.map_eq_some_iff.1 h
 obtain⟨rfl,rfl⟩:=Prod.mk.inj h
 have h1:=List.find?_some hb
 have h2:=List.mem_of_find?_eq_some hb
 unfold Eu at h1
 simp only[Bool.and_eq_true,beq_iff_eq,decide_eq_true_eq]at h1
 exact⟨List.mem_range.1 ha,List.mem_range.1 h2,h1.1,h1.2.1,h1.2.2⟩
theorem D6 {i:Nat} {x y:Int} (h:Ch ts i x y=none) {a b:Nat} (ha:a<ts.length) (hb:b<ts.length) (h1:AP ts i a=x) (h2:AP ts i b=y) (h3:Av ts i a=Av ts i b):False:=by
 unfold Ch at h
 rw[List.findSome?_eq_none_iff]at h
 have h:=h a (List.mem_range.2 ha)
 rw[Option.map_eq_none_iff]at h
 unfold bO at h
 rw[List.find?_eq_none]at h
 have h:=h b (List.mem_range.2 hb)
 unfold Eu at h
 simp[h1,h2,h3]at h
theorem Hl (h:TupS n k ts) {i:Nat} (hi:i<k) (x y:Int) {a:Nat} (ha:a<ts.length):AR Aa (ts,(i:Int),x,y,(a:Int),0)=some (match bO ts i x y a with|some b=> .inr ((a:Int),(b:Int),true)|none=> .inl (ts,(i:Int),x,y,(a:Int))):=by
 have hc:=h.count
 have hk:=h.hk
 have:=HE ts.length (λf (_:Unit) b=>AR f (ts,(i:Int),x,y,(a:Int),b)) (λ_=>()) (λb=>if Eu ts i x y a b then some (some (.inr ((a:Int),(b:Int),true)))else none) (e:=some (.inl (ts,(i:Int),x,y,(a:Int)))) (λf b hb _=>?_) (λf=>?_) (n:=Aa) (by unfold Aa;omega)
 ·have this:AR Aa (ts,(i:Int),x,y,(a:Int),0)=_:=this
  rw[this,Ev]
  unfold bO
  cases (List.range ts.length).find? (Eu ts i x y a)<;>rfl
 ·have la:=h.lenj ha
  have lb:=h.lenj hb
  have ga:gd ts (a:Int) []=ts.getD a []:=by unfold gd;simp
  have gb:gd ts (b:Int) []=ts.getD b []:=by unfold gd;simp
  have q1:i<(ts.getD a []).length:=by omega
  have q2:i<(ts.getD b []).length:=by omega
  have hs:=DJ (a:=(ts.getD a []).take i) (b:=(ts.getD b []).take i) (by rw[List.length_take];omega)
  simp only[AR,Aj,ha,hb,q1,q2,ga,gb,Ec,if_true,GR,hs,Option.bind_some,Af (show b<4611686018427387904 by omega)]
  rw[if_pos (by simp;omega)]
  unfold Eu AP Av
  generalize (ts.getD a []).getD i 0=u
  generalize (ts.getD b []).getD i 0=v
  by_cases e1:u=x
  ·subst e1
   rw[if_pos (by simp)]
   by_cases e2:v=y
   ·subst e2
    rw[if_pos (by simp),if_pos (by omega),if_pos (by omega)]
    by_cases e3:(ts.getD a []).take i=(ts.getD b []).take i
    ·rw[e3];simp
    ·rw[if_neg (by simpa using e3)]
     have e4:((u==u)&&((v==v)&&decide ((ts.getD a []).take i=(ts.getD b []).take i)))=false:=by simpa using e3
     rw[e4];rfl
   ·have e4:((u==u)&&((v==y)&&decide ((ts.getD a []).take i=(ts.getD b []).take i)))=false:=by simp[e2]
    rw[if_neg (by simpa using e2),e4];rfl
  ·have e4:((u==x)&&((v==y)&&decide ((ts.getD a []).take i=(ts.getD b []).take i)))=false:=by simp[e1]
   rw[if_neg (by simpa using e1),e4];rfl
 ·simp only[AR]
  rw[if_neg (by simp)]
theorem Hm (h:TupS n k ts) {i:Nat} (hi:i<k) (x y:Int):Dy ts (i:Int) x y=some (match Ch ts i x y with|some q=>((q.1:Int),(q.2:Int),true)|none=>(0,0,false)):=by
 have hc:=h.count
 have:=HE ts.length (λf (_:Unit) a=>By f (ts,(i:Int),x,y,a)) (λ_=>()) (λa=>(bO ts i x y a).map fun(b:Nat)=>(some (.inr ((a:Int),(b:Int),true)):Option (Unit⊕(Int×Int×Bool)))) (e:=some (.inl ())) (λf a ha _=>?_) (λf=>?_) (n:=Aa) (by unfold Aa;omega)
 ·have this:By Aa (ts,(i:Int),x,y,0)=_:=this
  unfold Dy
  rw[this]
  have e:(List.range ts.length).findSome? (λa=>(bO ts i x y a).map fun(b:Nat)=>(some (.inr ((a:Int),(b:Int),true)):Option (Unit⊕(Int×Int×Bool))))=(Ch ts i x y).map λq=>some (.inr ((q.1:Int),(q.2:Int),true)):=by
   unfold Ch
   generalize List.range ts.length=l
   induction l with
   |nil=>rfl
   |cons a l ih=>
    rw[List.findSome?_cons,List.findSome?_cons]
    cases bO ts i x y a with
    |none=>exact ih
    |some b=>rfl
  rw[e]
  cases Ch ts i x y<;>rfl
 ·have e:=Hl h hi x y ha
  simp only[By,e,Option.bind_some]
  rw[if_pos (by simp;omega)]
  cases bO ts i x y a with
  |none=>
   simp only[Option.map_none]
   rw[Af (show a<4611686018427387904 by omega)]
  |some b=>rfl
 ·simp only[By]
  rw[if_neg (by simp)]
def DI (i' x' y' i x y:Nat):Prop:=i'<i∨(i'=i/\(x'<x∨(x'=x/\y'<y)))
theorem GE {i' x' y' i x y:Nat} (h:DI i' x' y' i x y):cmpL [(i':Int),(x':Int),(y':Int)] [(i:Int),(x:Int),(y:Int)]<0:=by
 unfold DI at h
 simp only[cmpL]
 by_cases h1:i'=i
 ·by_cases h2:x'=x
  ·have h3:y'<y:=by omega
   rw[if_pos (by omega),if_pos (by omega),if_neg (by omega),if_pos (by omega)];decide
  ·rw[if_pos (by omega),if_neg (by omega),if_pos (by omega)];decide
 ·rw[if_neg (by omega),if_pos (by omega)];decide
structure FA (n:Nat) (ts:List (List Int)) (i x y:Nat) (F A:List (List Int)):Prop where
 inc:B7 F=true
 mem: ∀r,r∈F↔ ∃i' x' y':Nat,x'<n/\y'<n/\DI i' x' y' i x y/\(Ch ts i' (x':Int) (y':Int)).isSome/\r= [(i':Int),(x':Int),(y':Int)]
 len:F.length<=(i*n+x)*n+y
 incA:B7 A=true
 memA: ∀t,t∈A↔ ∃i' x' y' a b:Nat,x'<n/\y'<n/\DI i' x' y' i x y/\Ch ts i' (x':Int) (y':Int)=some (a,b)/\(t=ts.getD a []∨t=ts.getD b [])
 lenA:A.length<=2*((i*n+x)*n+y)
theorem FA.cast {n i x y i' x' y':Nat} {F A:List (List Int)} (h:FA n ts i x y F A) (hl:(i*n+x)*n+y=(i'*n+x')*n+y') (hx: ∀a b c,b<n->c<n->(DI a b c i x y↔DI a b c i' x' y')):FA n ts i' x' y' F A where
 inc:=h.inc
 mem r:=(h.mem r).trans ⟨λ⟨a,b,c,q1,q2,q3,q4⟩=>⟨a,b,c,q1,q2,(hx a b c q1 q2).1 q3,q4⟩,λ⟨a,b,c,q1,q2,q3,q4⟩=>⟨a,b,c,q1,q2,(hx a b c q1 q2).2 q3,q4⟩⟩
 len:=hl▸h.len
 incA:=h.incA
 memA t:=(h.memA t).trans ⟨λ⟨a,b,c,d,e,q1,q2,q3,q4⟩=>⟨a,b,c,d,e,q1,q2,(hx a b c q1 q2).1 q3,q4⟩,λ⟨a,b,c,d,e,q1,q2,q3,q4⟩=>⟨a,b,c,d,e,q1,q2,(hx a b c q1 q2).2 q3,q4⟩⟩
 lenA:=hl▸h.lenA
theorem Fg {out list:List (List Int)} {t:List Int} (h1:B7 out=true) (h0:B7 list=true) (h2: ∀u,u∈out↔u=t∨u∈list) (h3:t∉list->out.Perm (t::list)):out.length<=list.length+1:=by
 by_cases hm:t∈list
 ·have:out=list:=DH h1 h0 λu=>(h2 u).trans ⟨λh=>h.elim (λh=>h▸hm) id,Or.inr⟩
  rw[this];omega
 ·rw[(h3 hm).length_eq];simp
theorem BI {a b c i x y:Nat}:DI a b c i x (y+1)↔DI a b c i x y∨(a=i/\b=x/\c=y):=by unfold DI;omega
theorem G7 {N:Nat} (h:TupS (N:Int) k ts) {i:Nat} (hi:i<k) {x:Nat} (hx:x<N): ∀(d f y:Nat) (F A:List (List Int)),y+d=N->d<f->FA N ts i x y F A->
  ∃F' A',AZ f ((N:Int),(k:Int),ts,F,A,(i:Int),(x:Int),(y:Int))=some ((N:Int),(k:Int),ts,F',A',(i:Int),(x:Int))/\FA N ts i x N F' A':=by
 have hk:=h.hk
 have hn:=h.hn
 intro d
 induction d with
 |zero=>
  intro f y F A hy hf hFA
  obtain⟨f,rfl⟩: ∃z,f=z+1:=⟨f-1,by omega⟩
  have:y=N:=by omega
  subst this
  refine⟨F,A,?_,hFA⟩
  simp only[AZ]
  rw[if_neg (by simp)]
 |succ d ih=>
  intro f y F A hy hf hFA
  obtain⟨f,rfl⟩: ∃z,f=z+1:=⟨f-1,by omega⟩
  have e:=Hm h hi (x:Int) (y:Int)
  have hcode:(i*N+x)*N+y<=512:=by
   have h1:i*N<=3*8:=Nat.mul_le_mul (by omega) (by omega)
   have h2:(i*N+x)*N<=32*8:=Nat.mul_le_mul (by omega) (by omega)
   omega
  have hFl:=hFA.len
  have hAl:=hFA.lenA
  cases hp:Ch ts i (x:Int) (y:Int)with
  |none=>
   have hnx:FA N ts i x (y+1) F A:=by
    refine⟨hFA.inc,λr=>(hFA.mem r).trans ⟨λ⟨a,b,c,q1,q2,q3,q4⟩=>⟨a,b,c,q1,q2,BI.2 (Or.inl q3),q4⟩,λ⟨a,b,c,q1,q2,q3,q4,q5⟩=>?_⟩,by omega,hFA.incA,λt=>(hFA.memA t).trans ⟨λ⟨a,b,c,d,e,q1,q2,q3,q4⟩=>⟨a,b,c,d,e,q1,q2,BI.2 (Or.inl q3),q4⟩,λ⟨a,b,c,d,e,q1,q2,q3,q4,q5⟩=>?_⟩,by omega⟩
    ·rcases BI.1 q3 with h|⟨rfl,rfl,rfl⟩
     ·exact⟨a,b,c,q1,q2,h,q4,q5⟩
     ·rw[hp]at q4;simp at q4
    ·rcases BI.1 q3 with h|⟨rfl,rfl,rfl⟩
     ·exact⟨a,b,c,d,e,q1,q2,h,q4,q5⟩
     ·rw[hp]at q4;simp at q4
   obtain⟨F',A',e2,hF'⟩:=ih f (y+1) F A (by omega) (by omega) hnx
   refine⟨F',A',?_,hF'⟩
   rw[hp]at e
   simp only[AZ,e,Option.bind_some,Af (show y<4611686018427387904 by omega)]
   rw[if_pos (by simp;omega),if_neg (by simp)]
   exact e2
  |some q=>
   obtain⟨a,b⟩:=q
   obtain⟨ha,hb,hva,hvb,hpre⟩:=Bt hp
   have la:=h.lenj ha
   have lb:=h.lenj hb
   have ga:gd ts (a:Int) []=ts.getD a []:=by unfold gd;simp
   have gb:gd ts (b:Int) []=ts.getD b []:=by unfold gd;simp
   have hlA: ∀u∈A,u.length=k:=λu hu=>by
    obtain⟨i',x',y',a',b',_,_,_,q4,q5⟩:=(hFA.memA u).1 hu
    obtain⟨r1,r2,_⟩:=Bt q4
    rcases q5 with rfl|rfl
    ·exact h.lenj r1
    ·exact h.lenj r2
   obtain⟨A1,p1,p2,p3,p4⟩:=CO (by omega) (show k<=1000000 by omega) hlA la hFA.incA
   have z1:=Fg p2 hFA.incA p3 p4
   obtain⟨A2,r1,r2,r3,r4⟩:=CO (list:=A1) (t:=ts.getD b []) (by omega) (show k<=1000000 by omega) (λu hu=>((p3 u).1 hu).elim (λh=>by rw[h];exact la) (hlA u)) lb p2
   have z2:=Fg r2 p2 r3 r4
   have hnx:FA N ts i x (y+1) (F++ [[(i:Int),(x:Int),(y:Int)]]) A2:=by
    refine⟨?_,λr=>?_,by rw[List.length_append,List.length_singleton];omega,r2,λt=>?_,by omega⟩
    ·rw[Cp,List.pairwise_append]
     refine⟨Cp.1 hFA.inc,List.pairwise_singleton _ _,λu hu v hv=>?_⟩
     rw[List.mem_singleton.1 hv]
     obtain⟨a',b',c',_,_,q3,_,rfl⟩:=(hFA.mem u).1 hu
     exact GE q3
    ·rw[List.mem_append,hFA.mem]
     constructor
     ·rintro (⟨a',b',c',q1,q2,q3,q4⟩|hr)
      ·exact⟨a',b',c',q1,q2,BI.2 (Or.inl q3),q4⟩
      ·exact⟨i,x,y,hx,by omega,BI.2 (Or.inr ⟨rfl,rfl,rfl⟩),by rw[hp];rfl,List.mem_singleton.1 hr⟩
     ·rintro ⟨a',b',c',q1,q2,q3,q4,q5⟩
      rcases BI.1 q3 with h|⟨rfl,rfl,rfl⟩
      ·exact Or.inl ⟨a',b',c',q1,q2,h,q4,q5⟩
      ·exact Or.inr (List.mem_singleton.2 q5)
    ·rw[r3,p3,hFA.memA]
     constructor
     ·rintro (rfl|rfl|⟨a',b',c',d',e',q1,q2,q3,q4⟩)
      ·exact⟨i,x,y,a,b,hx,by omega,BI.2 (Or.inr ⟨rfl,rfl,rfl⟩),hp,Or.inr rfl⟩
      ·exact⟨i,x,y,a,b,hx,by omega,BI.2 (Or.inr ⟨rfl,rfl,rfl⟩),hp,Or.inl rfl⟩
      ·exact⟨a',b',c',d',e',q1,q2,BI.2 (Or.inl q3),q4⟩
     ·rintro ⟨a',b',c',d',e',q1,q2,q3,q4,q5⟩
      rcases BI.1 q3 with h|⟨rfl,rfl,rfl⟩
      ·exact Or.inr (Or.inr ⟨a',b',c',d',e',q1,q2,h,q4,q5⟩)
      ·rw[hp]at q4
       obtain⟨rfl,rfl⟩:=Prod.mk.inj (Option.some.inj q4)
       rcases q5 with rfl|rfl
       ·exact Or.inr (Or.inl rfl)
       ·exact Or.inl rfl
   obtain⟨F',A',e2,hF'⟩:=ih f (y+1) _ A2 (by omega) (by omega) hnx
   refine⟨F',A',?_,hF'⟩
   rw[hp]at e
   have o1:=BT (l:=ts.getD a []) (by omega)
   have o2:=BT (l:=ts.getD b []) (by omega)
   simp only[AZ,e,Option.bind_some,Af (show y<4611686018427387904 by omega),if_true,Aj,ha,hb,ga,gb,o1,o2,p1,r1]
   rw[if_pos (by simp;omega),if_pos (by simp;unfold lim;omega)]
   exact e2
theorem G5 {N:Nat} (h:TupS (N:Int) k ts) {i:Nat} (hi:i<k): ∀(d f x:Nat) (F A:List (List Int)),x+d=N->d<f->FA N ts i x 0 F A->
  ∃F' A',Bn f ((N:Int),(k:Int),ts,F,A,(i:Int),(x:Int))=some ((N:Int),(k:Int),ts,F',A',(i:Int))/\FA N ts i N 0 F' A':=by
 have hn:=h.hn
 intro d
 induction d with
 |zero=>
  intro f x F A hx hf hFA
  obtain⟨f,rfl⟩: ∃z,f=z+1:=⟨f-1,by omega⟩
  have:x=N:=by omega
  subst this
  refine⟨F,A,?_,hFA⟩
  simp only[Bn]
  rw[if_neg (by simp)]
 |succ d ih=>
  intro f x F A hx hf hFA
  obtain⟨f,rfl⟩: ∃z,f=z+1:=⟨f-1,by omega⟩
  obtain⟨F1,A1,e1,h1⟩:=G7 h hi (x:=x) (by omega) N Aa 0 F A (by omega) (by unfold Aa;omega) hFA
  have e1:AZ Aa ((N:Int),(k:Int),ts,F,A,(i:Int),(x:Int),0)=_:=e1
  have h2:FA N ts i (x+1) 0 F1 A1:=h1.cast (by rw[Nat.add_zero,←Nat.add_assoc,Nat.succ_mul]) (λa b c hb hc=>by unfold DI;omega)
  obtain⟨F',A',e2,hF'⟩:=ih f (x+1) F1 A1 (by omega) (by omega) h2
  refine⟨F',A',?_,hF'⟩
  simp only[Bn,e1,Option.bind_some,Af (show x<4611686018427387904 by omega),e2]
  rw[if_pos (by simp;omega)]
theorem G3 {N:Nat} (h:TupS (N:Int) k ts): ∀(d f i:Nat) (F A:List (List Int)),i+d=k->d<f->FA N ts i 0 0 F A->
  ∃F' A',Bm f ((N:Int),(k:Int),ts,F,A,(i:Int))=some (F',A')/\FA N ts k 0 0 F' A':=by
 have hn:=h.hn
 have hk:=h.hk
 intro d
 induction d with
 |zero=>
  intro f i F A hx hf hFA
  obtain⟨f,rfl⟩: ∃z,f=z+1:=⟨f-1,by omega⟩
  have:i=k:=by omega
  subst this
  refine⟨F,A,?_,hFA⟩
  simp only[Bm]
  rw[if_neg (by simp)]
 |succ d ih=>
  intro f i F A hx hf hFA
  obtain⟨f,rfl⟩: ∃z,f=z+1:=⟨f-1,by omega⟩
  obtain⟨F1,A1,e1,h1⟩:=G5 h (i:=i) (by omega) N Aa 0 F A (by omega) (by unfold Aa;omega) hFA
  have e1:Bn Aa ((N:Int),(k:Int),ts,F,A,(i:Int),0)=_:=e1
  have h2:FA N ts (i+1) 0 0 F1 A1:=h1.cast (by rw[Nat.add_zero,Nat.add_zero,Nat.succ_mul];rfl) (λa b c hb hc=>by unfold DI;omega)
  obtain⟨F',A',e2,hF'⟩:=ih f (i+1) F1 A1 (by omega) (by omega) h2
  refine⟨F',A',?_,hF'⟩
  simp only[Bm,e1,Option.bind_some,Af (show i<4611686018427387904 by omega),e2]
  rw[if_pos (by simp;omega)]
theorem CL {N:Nat} (h:TupS (N:Int) k ts): ∃F A,A8 (N:Int) (k:Int) ts=some (F,A)/\FA N ts k 0 0 F A:=by
 have hk:=h.hk
 obtain⟨F,A,e,hFA⟩:=G3 h k Aa 0 [] [] (by omega) (by unfold Aa;omega) ⟨rfl,λr=>⟨λh=>(by cases h),λ⟨a,b,c,_,_,q,_⟩=>(by unfold DI at q;omega)⟩,by simp,rfl,λt=>⟨λh=>(by cases h),λ⟨a,b,c,_,_,_,_,q,_⟩=>(by unfold DI at q;omega)⟩,by simp⟩
 refine⟨F,A,?_,hFA⟩
 unfold A8
 have e:Bm Aa ((N:Int),(k:Int),ts,[],[],0)=_:=e
 rw[e];rfl
theorem FA.fork {N:Nat} (h:TupS (N:Int) k ts) {F A:List (List Int)} (hF:FA N ts k 0 0 F A) (r:List Int):r∈F↔isFork ts k r:=by
 rw[hF.mem]
 constructor
 ·rintro ⟨i,x,y,q1,q2,q3,q4,rfl⟩
  obtain⟨⟨a,b⟩,hp⟩:=Option.isSome_iff_exists.1 q4
  obtain⟨ha,hb,hva,hvb,hpre⟩:=Bt hp
  exact⟨i,a,b,by unfold DI at q3;omega,ha,hb,hpre,by rw[hva,hvb]⟩
 ·rintro ⟨i,j,l,q1,q2,q3,q4,rfl⟩
  have hval: ∀j,j<ts.length-> ∃x:Nat,x<N/\AP ts i j=(x:Int):=λj hj=>by
   have h1:=h.lenj hj
   have h2:=D2 (h.el _ (AL (d:= []) hj)) i (by omega)
   unfold AP
   rw[AC (show i<(ts.getD j []).length by omega)]
   exact⟨((ts.getD j [])[i]'(by omega)).toNat,by omega,by omega⟩
  obtain⟨x,hx,ex⟩:=hval j q2
  obtain⟨y,hy,ey⟩:=hval l q3
  refine⟨i,x,y,hx,hy,by unfold DI;omega,?_,by rw[ex,ey]⟩
  cases hp:Ch ts i (x:Int) (y:Int)with
  |some q=>rfl
  |none=>exact(D6 hp q2 q3 ex ey q4).elim
theorem FE {n kk:Int} (hl:ts.length<=1099511627774) (hr: ∀t∈ts,t.length<=1099511627775): ∃R:List (List Int)×Bool,Cu n kk ts=some R/\Cw n kk ts=some R/\R.1.length<=256/\ ∀r∈R.1,r.length<=3:=by
 unfold Cu Cw
 rw[Cm hl hr,B2 hl hr]
 simp only[Option.bind_some]
 cases hs:C2 n kk ts with
 |false=>exact⟨([],false),rfl,rfl,by simp,by simp⟩
 |true=>
  obtain⟨h,hk⟩:=DY hs
  have hn:=h.hn
  have hk':=h.hk
  obtain⟨N,rfl⟩: ∃N:Nat,n=(N:Int):=⟨n.toNat,by omega⟩
  obtain⟨K,hK⟩: ∃K,K=kk.toNat:=⟨_,rfl⟩
  rw[←hK]at h hk hk'
  subst hk
  obtain⟨E,e1,hE,hEl⟩:=EU h
  obtain⟨F,A,e2,hFA⟩:=CL h
  have hlim:lim=1099511627776:=rfl
  have hEr: ∀r∈E,r.length=3:=λr hr=>by obtain⟨i,j,l,_,_,_,_,rfl⟩:=(hE r).1 hr;rfl
  have e3:Au E ()=some (Zn cmpL E):=by
   unfold Au
   rw[if_pos]
   refine⟨by omega,?_⟩
   rw[List.all_eq_true]
   intro r hr
   rw[decide_eq_true_iff,hEr r hr];omega
  have hp:=Bc E
  have e4:BF (Zn cmpL E)=some F:=by
   unfold BF
   rw[if_pos]
   ·exact congrArg some (FX hFA.inc λu=>(hFA.fork h u).trans (hE u).symm)
   ·refine⟨by rw[hp.length_eq];omega,?_⟩
    rw[List.all_eq_true]
    intro r hr
    rw[decide_eq_true_iff,hEr r (hp.mem_iff.1 hr)];omega
  have hcode:(K*N+0)*N+0<=256:=by
   have h1:K*N<=4*8:=Nat.mul_le_mul (by omega) (by omega)
   have h2:(K*N+0)*N<=32*8:=Nat.mul_le_mul (by omega) (by omega)
   omega
  have:=hFA.len
  simp only[e1,e2,e3,e4,Option.bind_some,Bool.not_true,Bool.false_eq_true,if_false]
  refine⟨(F,true),rfl,rfl,by dsimp only;omega,λr hr=>?_⟩
  obtain⟨i,j,l,_,_,_,_,rfl⟩:=(hFA.fork h r).1 hr
  simp
end
end T
set_option linter.unusedVariables false
open Go Go.Va
namespace T
def BV (list:List (List Int)):Option ((List (List Int))):=
 (CY list).bind λr1=>
 (Au r1 ()).bind λr2=>
 some r2
end T
open Go Go.Va
namespace T
section
variable {a:Net} {f:Opn} {n:Int}
theorem Gq {l:List Int} (h:l.length<=1000000):CE l=some l:=by
 unfold CE
 rw[if_pos (by simp;unfold lim;omega)];simp
end
end T
set_option linter.unusedVariables false
open Go Go.Va
namespace T
def BO (list:List (List Int)) (t:List Int):Option ((List (List Int))):=
 (BC list t).bind λr1=>
 if r1.2 then
 some list
 else
 if(0:Int)<=0/\0<=r1.1/\r1.1<=(list.length:Int)then
 if([]:List (List Int)).length+((list.take (Int.toNat r1.1)).drop (Int.toNat 0)).length<=lim then
 if([]++((list.take (Int.toNat r1.1)).drop (Int.toNat 0))).length+ [t].length<=lim then
 if(0:Int)<=r1.1/\r1.1<=(list.length:Int)/\(list.length:Int)<=(list.length:Int)then
 if(([]++((list.take (Int.toNat r1.1)).drop (Int.toNat 0)))++ [t]).length+((list.take (Int.toNat (list.length:Int))).drop (Int.toNat r1.1)).length<=lim then
 some ((([]++((list.take (Int.toNat r1.1)).drop (Int.toNat 0)))++ [t])++((list.take (Int.toNat (list.length:Int))).drop (Int.toNat r1.1)))
 else none
 else none
 else none
 else none
 else none
end T
open Go Go.Va
namespace T
def rowsB (R W:Nat) (l:List (List Int)):Prop:=l.length<=R/\ ∀r∈l,r.length<=W
theorem rowsB.mono {R W R' W':Nat} {l:List (List Int)} (h:rowsB R W l) (h1:R<=R') (h2:W<=W'):rowsB R' W' l:=⟨by have:=h.1;omega,λr hr=>by have:=h.2 r hr;omega⟩
theorem rowsB.app {R W:Nat} {l:List (List Int)} {t:List Int} (h:rowsB R W l) (ht:t.length<=W):rowsB (R+1) W (l++ [t]):=⟨by rw[List.length_append,List.length_singleton];have:=h.1;omega,λr hr=>by
 rcases List.mem_append.1 hr with hr|hr
 ·exact h.2 r hr
 ·rw[List.mem_singleton.1 hr];exact ht⟩
theorem Hw:BO=CI:=rfl
end T
open Go Go.Va
namespace T
section
variable {n k m:Nat} {r:Fk} {rels:List Fk}
def conOkL (n k:Nat) (l:List Con):Prop:= ∀c∈l,∃m r i,ROk n m r/\c=(cI (PL n k r i),r)
theorem conOkL.small {l:List Con} (h:conOkL n k l): ∀c∈l,c.1.length<=1000/\c.2.2.length<=1000/\ ∀u∈c.2.2,u.length<=1000:=λc hc=>by
 obtain⟨m,r,i,h1,rfl⟩:=h c hc
 have hpl:=h1.pl_len (k:=k) (i:=i)
 have hm:=h1.hm
 have:=h1.many
 exact⟨by show(cI (PL n k r i)).length<=1000;rw[CC];omega,by show r.2.length<=1000;omega,λu hu=>by have:=h1.tl u hu;omega⟩
end
end T
set_option linter.unusedVariables false
open Go Go.Va
namespace T
def Cv:Nat->((Int×(List (Int×(List Int))))×(List (Int×(List Int)))×Int×Int)->Option ((Unit)⊕(Bool))
 |0,_=>none
 |n+1,(a,t20,t21,t22)=>
 if decide (t22<t21)then
 if inb t22 t20 then
 (DT ((gd t20 t22 (0,[])).1,(gd t20 t22 (0,[])).2) a.1).bind λr1=>
 if !r1 then
 some (.inr false)
 else
 Cv n ((a.1,a.2),t20,t21,w64 (t22+1))
 else none
 else
 some (.inl ())
def CV (a:Int×(List (Int×(List Int)))):Option (Bool):=
 if decide (a.1<1)then
  some false
 else
  if decide (a.1>8)then
   some false
  else
   if decide ((a.2.length:Int)>4)then
    some false
   else
    (Cv Aa ((a.1,a.2),a.2,(a.2.length:Int),0)).bind λs1=>
     match s1 with
     | .inl s2=>
      some true
     | .inr s3=>
      some s3
end T
open Go Go.Va
namespace T
section
variable {n:Nat} {t:List Int}
def GZ (n:Nat) (t:List Int) (x y:Nat):Nat:=(t.getD (x*n+y) 0).toNat
structure TabOk (n:Nat) (t:List Int):Prop where
 hn:1<=n/\n<=4
 len:t.length=n*n
 val: ∀x∈t,0<=x/\x<(n:Int)
theorem ix2 (hn:n<=4) {x y:Nat} (hx:x<n) (hy:y<n):w64 (w64 ((x:Int)*(n:Int))+(y:Int))=((x*n+y:Nat):Int)/\x*n+y<n*n:=by
 have h1:x*n+y<n*n:=by
  calc x*n+y<x*n+n:=by omega
   _=(x+1)*n:=by rw[Nat.succ_mul]
   _<=n*n:=Nat.mul_le_mul_right _ hx
 have h2:n*n<=4*4:=Nat.mul_le_mul hn hn
 have e:(x:Int)*(n:Int)=((x*n:Nat):Int):=by simp
 have a1:w64 ((x*n:Nat):Int)=((x*n:Nat):Int):=AN (by omega) (by omega)
 rw[e,a1,AN (by omega) (by omega)]
 exact⟨by omega,h1⟩
theorem TabOk.at (h:TabOk n t) {x y:Nat} (hx:x<n) (hy:y<n):w64 (w64 ((x:Int)*(n:Int))+(y:Int))=((x*n+y:Nat):Int)/\inb ((x*n+y:Nat):Int) t/\gd t ((x*n+y:Nat):Int) 0=((GZ n t x y:Nat):Int)/\GZ n t x y<n:=by
 obtain⟨h1,h2⟩:=ix2 h.hn.2 hx hy
 have hl:x*n+y<t.length:=by rw[h.len];exact h2
 have hv:=h.val _ (List.getElem_mem hl)
 refine⟨h1,by rw[Aj];exact hl,?_,?_⟩
 ·rw[AK hl];unfold GZ;rw[AC hl];omega
 ·unfold GZ;rw[AC hl];omega
theorem TabOk.op (h:TabOk n t):opB (n:Int) (2,t)=true:=by
 have hn:=h.hn
 have h1:=h.len
 have e:((t.length:Nat):Int)=(n:Int)^2:=by rw[h1,Int.pow_succ,Int.pow_succ,Int.pow_zero,Int.one_mul];simp
 have hb:AS (n:Int) t=true:=by
  unfold AS
  rw[List.all_eq_true]
  exact λx hx=>by simpa using h.val x hx
 unfold opB
 rw[Bool.and_eq_true,Bool.and_eq_true]
 exact⟨⟨by simp,decide_eq_true e⟩,hb⟩
end
end T
open Go Go.Va
namespace T
def conD (W:Nat) (c:Con):Prop:=c.1.length<=W/\rowsB 601 3 c.2.2
theorem conD.mono {W W':Nat} {c:Con} (h:W<=W'):conD W c->conD W' c:=λ⟨a,b⟩=>⟨by omega,b⟩
end T
open Go Go.Va
namespace T
section
variable {a:Net} {K:Nat} {c:Con} {i p n:Nat} {st:ASt}
def GT (d:Dom) (V:Nat) (t:List Int):Prop:= ∀u,u<V->d2 d u (t.getD u 0).toNat=true
end
end T
open Go Go.Va
namespace T
structure Semi (n:Int) (op:Int->Int->Int):Prop where
 cl: ∀x y,inR n x->inR n y->inR n (op x y)
 comm: ∀x y,inR n x->inR n y->op x y=op y x
 assoc: ∀x y z,inR n x->inR n y->inR n z->op (op x y) z=op x (op y z)
 idem: ∀x,inR n x->op x x=x
section
variable {n:Int} {op:Int->Int->Int}
theorem Semi.fold_cl (h:Semi n op): ∀(l:List Int) (x:Int),inR n x->(∀y∈l,inR n y)->inR n (l.foldl op x)
 | [],x,hx,_=>hx
 |y::l,x,hx,hl=>h.fold_cl l _ (h.cl x y hx (hl y (List.mem_cons_self ..))) λz hz=>hl z (List.mem_cons_of_mem _ hz)
theorem Semi.up (h:Semi n op): ∀(l:List Int) (x:Int),inR n x->(∀y∈l,inR n y)->op x (l.foldl op x)=l.foldl op x/\ ∀y∈l,op y (l.foldl op x)=l.foldl op x
 | [],x,hx,_=>⟨h.idem x hx,λy hy=>by simp at hy⟩
 |y::l,x,hx,hl=>by
  have hy:=hl y (List.mem_cons_self ..)
  have hl': ∀z∈l,inR n z:=λz hz=>hl z (List.mem_cons_of_mem _ hz)
  have hxy:=h.cl x y hx hy
  obtain⟨h1,h2⟩:=h.up l (op x y) hxy hl'
  have hF:=h.fold_cl l (op x y) hxy hl'
  rw[List.foldl_cons]
  generalize l.foldl op (op x y)=F at*
  have e1:op x F=F:=by
   have:op x (op (op x y) F)=op (op x y) F:=by rw[←h.assoc x (op x y) F hx hxy hF,←h.assoc x x y hx hx hy,h.idem x hx]
   rw[h1]at this;exact this
  have e2:op y F=F:=by
   have:op y (op (op x y) F)=op (op x y) F:=by rw[←h.assoc y (op x y) F hy hxy hF,h.comm x y hx hy,←h.assoc y y x hy hy hx,h.idem y hy]
   rw[h1]at this;exact this
  refine⟨e1,λz hz=>?_⟩
  rcases List.mem_cons.1 hz with rfl|hz
  ·exact e2
  ·exact h2 z hz
theorem Semi.least (h:Semi n op) {z:Int} (hz:inR n z): ∀(l:List Int) (x:Int),inR n x->(∀y∈l,inR n y)->op x z=z->(∀y∈l,op y z=z)->op (l.foldl op x) z=z
 | [],x,_,_,h1,_=>h1
 |y::l,x,hx,hl,h1,h2=>by
  have hy:=hl y (List.mem_cons_self ..)
  refine h.least hz l (op x y) (h.cl x y hx hy) (λw hw=>hl w (List.mem_cons_of_mem _ hw)) ?_ λw hw=>h2 w (List.mem_cons_of_mem _ hw)
  rw[h.assoc x y z hx hy hz,h2 y (List.mem_cons_self ..),h1]
def Gr (op:Int->Int->Int) (l:List Int):Int:=(l.drop 1).foldl op (l.getD 0 0)
theorem EH {x:Int} {l:List Int}:Gr op (x::l)=l.foldl op x:=rfl
theorem Semi.same (h:Semi n op) {l l':List Int} (h0:l≠ []) (h0':l'≠ []) (hl: ∀y∈l,inR n y) (hm: ∀y,y∈l↔y∈l'):Gr op l=Gr op l':=by
 obtain⟨x,l,rfl⟩:=List.exists_cons_of_ne_nil h0
 obtain⟨x',l',rfl⟩:=List.exists_cons_of_ne_nil h0'
 have hl': ∀y∈x'::l',inR n y:=λy hy=>hl y ((hm y).2 hy)
 rw[EH,EH]
 have a1:=hl x (List.mem_cons_self ..)
 have a2: ∀y∈l,inR n y:=λy hy=>hl y (List.mem_cons_of_mem _ hy)
 have b1:=hl' x' (List.mem_cons_self ..)
 have b2: ∀y∈l',inR n y:=λy hy=>hl' y (List.mem_cons_of_mem _ hy)
 have hF:=h.fold_cl l x a1 a2
 have hF':=h.fold_cl l' x' b1 b2
 obtain⟨u1,u2⟩:=h.up l x a1 a2
 obtain⟨v1,v2⟩:=h.up l' x' b1 b2
 have hu: ∀y∈x::l,op y (l.foldl op x)=l.foldl op x:=λy hy=>by
  rcases List.mem_cons.1 hy with rfl|hy
  ·exact u1
  ·exact u2 y hy
 have hv: ∀y∈x'::l',op y (l'.foldl op x')=l'.foldl op x':=λy hy=>by
  rcases List.mem_cons.1 hy with rfl|hy
  ·exact v1
  ·exact v2 y hy
 have e1:=h.least hF' l x a1 a2 (hv x ((hm x).1 (List.mem_cons_self ..))) λy hy=>hv y ((hm y).1 (List.mem_cons_of_mem _ hy))
 have e2:=h.least hF l' x' b1 b2 (hu x' ((hm x').2 (List.mem_cons_self ..))) λy hy=>hu y ((hm y).2 (List.mem_cons_of_mem _ hy))
 rw[←e2,h.comm _ _ hF' hF,e1]
end
section
variable {V m:Nat} {cs:List Con} {t:List Int}
end
end T
open Go Go.Va
namespace T
section
variable {a:Net} {n s:Nat} {t:T4} {u:T3}
def HW (a:Net) (i j k x y z:Nat):Prop:= ∀c∈a.2.2,(∀v∈c.1,v=(i:Int)∨v=(j:Int)∨v=(k:Int))-> ∀vs:List Int,Hr vs (i:Int)=(x:Int)->Hr vs (j:Int)=(y:Int)->Hr vs (k:Int)=(z:Int)->HX vs c=true
structure Fam (a:Net) (n s:Nat) (S:Nat->Nat->Nat->Nat->Prop):Prop where
 sym: ∀i j x y,S i j x y->S j i y x
 first: ∀i j x y,i<j->j<n->x<s->y<s->S i j x y->fB a n i j x y=true
 path: ∀i j k x y,i<n->j<n->k<n->i≠j->k≠i->k≠j->x<s->y<s->S i j x y-> ∃z,z<s/\S i k x z/\S j k y z/\HW a i j k x y z
structure MinP (a:Net) (n s:Nat) (t:T4) (u:T3):Prop where
 rel:Rel34 n s t u
 sym: ∀i j x y,i<n->j<n->i≠j->x<s->y<s->r4 t i j x y=r4 t j i y x
 first: ∀i j x y,i<n->j<n->i≠j->x<s->y<s->r4 t i j x y=true->fB a n i j x y=true
 path: ∀i j k x y,i<n->j<n->k<n->i≠j->k≠i->k≠j->x<s->y<s->r4 t i j x y=true-> ∃z,z<s/\r4 t i k x z=true/\r4 t j k y z=true/\HW a i j k x y z
 all: ∀S,Fam a n s S-> ∀i j x y,i<n->j<n->i≠j->x<s->y<s->S i j x y->r4 t i j x y=true
end
end T
open Go Go.Va
namespace T
section
variable {a:Net} {n s:Nat} {t:T4} {u:T3} {F:Nat->Nat->Nat->Nat}
theorem Hv (hM:MinP a n s t u) {w w' v x y:Nat} (hw:w<n) (hw':w'<n) (hv:v<n) (h1:w≠w') (h2:w≠v) (h3:w'≠v) (hx:x<s) (hy:y<s) (h:r4 t w' v y x=true): ∃z,z<s/\r4 t w v z x=true:=by
 obtain⟨z,hz,_,q,_⟩:=hM.path w' v w y x hw' hv hw h3 h1 h2 hy hx h
 exact⟨z,hz,by rw[hM.sym w v z x hw hv h2 hz hx];exact q⟩
theorem If (p q:Nat): ∃w,w<3/\w≠p/\w≠q:=by
 by_cases h0:0≠p/\0≠q
 ·exact⟨0,by omega,h0.1,h0.2⟩
 ·by_cases h1:1≠p/\1≠q
  ·exact⟨1,by omega,h1.1,h1.2⟩
  ·exact⟨2,by omega,by omega,by omega⟩
end
end T
set_option linter.unusedVariables false
open Go Go.Va
namespace T
def CG (n_:Int) (k:Int) (tuples:List (List Int)):Option ((List (List Int))×Bool):=
 (Bl n_ k tuples).bind λr1=>
 if !r1 then
 some ([],false)
 else
 (A8 n_ k tuples).bind λr2=>
 some (r2.2,true)
def Ce (i:Int) (t:List Int) (u:List Int) (t3:List ByteArray) (t4:List (List Int)):Option ((List ByteArray)×(List (List Int))):=
 if inb i t then
 if inb i u then
 if !(Xs t3 (YbP [i,gd t i 0,gd u i 0]))then
 if t4.length+ [t,u].length<=lim then
 some (YhI t3 (YbP [i,gd t i 0,gd u i 0]),t4++ [t,u])
 else none
 else
 some (t3,t4)
 else none
 else none
def Ac:Nat->(Int×(List (List Int))×((List ByteArray)×(List (List Int)))×Int×Int×Int×(List (List Int)))->Option (Int×(List (List Int))×((List ByteArray)×(List (List Int)))×Int×Int×(List (List Int)))
 |0,_=>none
 |n+1,(t0,t1,t2,t6,t7,t8,t9)=>
 if decide (t8<(t1.length:Int))then
 if inb t7 t1 then
 if(0:Int)<=0/\0<=t6/\t6<=((gd t1 t7 []).length:Int)then
 if inb t8 t1 then
 if(0:Int)<=0/\0<=t6/\t6<=((gd t1 t8 []).length:Int)then
 (CK (((gd t1 t7 []).take (Int.toNat t6)).drop (Int.toNat 0)) (((gd t1 t8 []).take (Int.toNat t6)).drop (Int.toNat 0))).bind λr1=>
 if r1 then
 if t8==t7 then
 if inb t8 t1 then
 if t9.length+ [gd t1 t8 []].length<=lim then
 Ac n (t0,t1,(t2.1,t2.2),t6,t7,w64 (t8+1),t9++ [gd t1 t8 []])
 else none
 else none
 else
 if inb t8 t1 then
 if inb t6 (gd t1 t8 [])then
 if inb (w64 (t8-1)) t1 then
 if inb t6 (gd t1 (w64 (t8-1)) [])then
 if(gd (gd t1 t8 []) t6 0) !=(gd (gd t1 (w64 (t8-1)) []) t6 0)then
 if inb t8 t1 then
 if t9.length+ [gd t1 t8 []].length<=lim then
 Ac n (t0,t1,(t2.1,t2.2),t6,t7,w64 (t8+1),t9++ [gd t1 t8 []])
 else none
 else none
 else
 Ac n (t0,t1,(t2.1,t2.2),t6,t7,w64 (t8+1),t9)
 else none
 else none
 else none
 else none
 else
 some (t0,t1,(t2.1,t2.2),t6,t8,t9)
 else none
 else none
 else none
 else none
 else
 some (t0,t1,(t2.1,t2.2),t6,t8,t9)
def Al:Nat->(Unit×Unit×Int×(List (List Int))×((List ByteArray)×(List (List Int)))×Int×Int×(List (List Int))×(List Int)×Int×Int×Int×Int)->Option (Unit×Int×(List (List Int))×((List ByteArray)×(List (List Int)))×Int×Int×(List (List Int))×Int×Int)
 |0,_=>none
 |n+1,(al74,al80,t0,t1,t2,t6,t8,t9,t11,t75,t76,t81,t82)=>
 if decide (t82<t81)then
 if inb t82 t9 then
 (Ce t6 t11 (gd t9 t82 []) t2.1 t2.2).bind λr3=>
 Al n ((),(),t0,t1,(r3.1,r3.2),t6,t8,t9,t11,t75,t76,t81,w64 (t82+1))
 else none
 else
 some ((),t0,t1,(t2.1,t2.2),t6,t8,t9,t75,t76)
def Ak:Nat->(Unit×Int×(List (List Int))×((List ByteArray)×(List (List Int)))×Int×Int×(List (List Int))×Int×Int)->Option (Int×(List (List Int))×((List ByteArray)×(List (List Int)))×Int×Int)
 |0,_=>none
 |n+1,(al74,t0,t1,t2,t6,t8,t9,t75,t76)=>
 if decide (t76<t75)then
 if inb t76 t9 then
 (Al Aa ((),(),t0,t1,(t2.1,t2.2),t6,t8,t9,gd t9 t76 [],t75,t76,(t9.length:Int),0)).bind λs3=>
 Ak n ((),s3.2.1,s3.2.2.1,(s3.2.2.2.1.1,s3.2.2.2.1.2),s3.2.2.2.2.1,s3.2.2.2.2.2.1,s3.2.2.2.2.2.2.1,s3.2.2.2.2.2.2.2.1,w64 (s3.2.2.2.2.2.2.2.2+1))
 else none
 else
 some (t0,t1,(t2.1,t2.2),t6,t8)
def Ai:Nat->(Int×(List (List Int))×((List ByteArray)×(List (List Int)))×Int×Int)->Option (Int×(List (List Int))×((List ByteArray)×(List (List Int)))×Int)
 |0,_=>none
 |n+1,(t0,t1,t2,t6,t7)=>
 if decide (t7<(t1.length:Int))then
 (Ac Aa (t0,t1,(t2.1,t2.2),t6,t7,t7,[])).bind λs1=>
 (Ak Aa ((),s1.1,s1.2.1,(s1.2.2.1.1,s1.2.2.1.2),s1.2.2.2.1,s1.2.2.2.2.1,s1.2.2.2.2.2,(s1.2.2.2.2.2.length:Int),0)).bind λs2=>
 Ai n (s2.1,s2.2.1,(s2.2.2.1.1,s2.2.2.1.2),s2.2.2.2.1,s2.2.2.2.2)
 else
 some (t0,t1,(t2.1,t2.2),t6)
def Ah:Nat->(Int×(List (List Int))×((List ByteArray)×(List (List Int)))×Int)->Option (((List ByteArray)×(List (List Int))))
 |0,_=>none
 |n+1,(t0,t1,t2,t6)=>
 if decide (t6<t0)then
 (Ai Aa (t0,t1,(t2.1,t2.2),t6,0)).bind λs1=>
 Ah n (s1.1,s1.2.1,(s1.2.2.1.1,s1.2.2.1.2),w64 (s1.2.2.2+1))
 else
 some (t2.1,t2.2)
def AM (t0:Int) (t1:List (List Int)) (t2:(List ByteArray)×(List (List Int))):Option (((List ByteArray)×(List (List Int)))):=
 (Ah Aa (t0,t1,(t2.1,t2.2),0)).bind λs1=>
 some (s1.1,s1.2)
def CD (n_:Int) (k:Int) (tuples:List (List Int)):Option ((List (List Int))×Bool):=
 (BP n_ k tuples).bind λr1=>
 if !r1 then
 some ([],false)
 else
 (AM k tuples ([],[])).bind λr2=>
 (BV r2.2).bind λr3=>
 (BF r3).bind λr4=>
 some (r4,true)
end T
open Go Go.Va
namespace T
section
variable {n:Int} {k:Nat} {ts:List (List Int)}
abbrev WSt:=List ByteArray×List (List Int)
def Ee (i:Nat) (t u:List Int):ByteArray:=YbP [(i:Int),t.getD i 0,u.getD i 0]
def stW (i:Nat) (t u:List Int) (s:WSt):WSt:=if Xs s.1 (Ee i t u)then s else(YhI s.1 (Ee i t u),s.2++ [t,u])
theorem Hq {i:Nat} {t u:List Int} {s:WSt}:(stW i t u s).2.length<=s.2.length+2:=by
 unfold stW;split
 ·omega
 ·simp
theorem HS {i:Nat} {t u:List Int} {s:WSt} (ht:i<t.length) (hu:i<u.length) (ho:s.2.length<=1000000000):Ce (i:Int) t u s.1 s.2=some (stW i t u s):=by
 unfold Ce stW Ee
 rw[if_pos (Aj.2 ht),if_pos (Aj.2 hu)]
 rw[show gd t (i:Int) 0=t.getD i 0 from Ec,show gd u (i:Int) 0=u.getD i 0 from Ec]
 generalize Xs s.1 (YbP [(i:Int),t.getD i 0,u.getD i 0])=b
 cases b with
 |true=>simp
 |false=>
  simp only[Bool.not_false,if_true,Bool.false_eq_true,if_false]
  rw[if_pos (by simp;unfold lim;omega)]
def Eh (i:Nat) (t:List Int) (fs:List (List Int)) (s:WSt):WSt:=fs.foldl (λs u=>stW i t u s) s
theorem EO {i:Nat} {t:List Int}: ∀(fs:List (List Int)) (s:WSt),(Eh i t fs s).2.length<=s.2.length+2*fs.length
 | [],s=>by simp[Eh]
 |u::fs,s=>by
  have h1:=EO (i:=i) (t:=t) fs (stW i t u s)
  have h2:=Hq (i:=i) (t:=t) (u:=u) (s:=s)
  unfold Eh at h1⊢
  rw[List.foldl_cons,List.length_cons];omega
def Em (i:Nat) (gs fs:List (List Int)) (s:WSt):WSt:=gs.foldl (λs t=>Eh i t fs s) s
theorem EI {i:Nat} {fs:List (List Int)}: ∀(gs:List (List Int)) (s:WSt),(Em i gs fs s).2.length<=s.2.length+gs.length*(2*fs.length)
 | [],s=>by simp[Em]
 |t::gs,s=>by
  have h1:=EI (i:=i) (fs:=fs) gs (Eh i t fs s)
  have h2:=EO (i:=i) (t:=t) fs s
  unfold Em at h1⊢
  rw[List.foldl_cons,List.length_cons,Nat.succ_mul];omega
theorem Ht {i:Nat} {t0:Int} {fs:List (List Int)} {t:List Int} (ht:i<t.length) (hfs: ∀u∈fs,i<u.length) (hl:fs.length<=4096) (s:WSt) (ho:s.2.length<=900000000) (t8 t75 t76:Int):
  Al Aa ((),(),t0,ts,s,(i:Int),t8,fs,t,t75,t76,(fs.length:Int),0)=some ((),t0,ts,Eh i t fs s,(i:Int),t8,fs,t75,t76):=by
 have:=DC fs.length (λf (o:WSt) v=>Al f ((),(),t0,ts,o,(i:Int),t8,fs,t,t75,t76,(fs.length:Int),v)) (λc=>Eh i t (fs.take c) s) (r:=some ((),t0,ts,Eh i t fs s,(i:Int),t8,fs,t75,t76)) (λf c hc=>?_) (λf=>?_) (n:=Aa) (by unfold Aa;omega)
 ·exact this
 ·have hcl:(Eh i t (fs.take c) s).2.length<=1000000000:=by
   have:=EO (i:=i) (t:=t) (fs.take c) s
   rw[List.length_take]at this;omega
  have hu:=hfs _ (List.getElem_mem hc)
  have e:=HS (i:=i) ht hu hcl
  have e2:Eh i t (fs.take (c+1)) s=stW i t fs[c] (Eh i t (fs.take c) s):=by
   unfold Eh
   rw[List.take_succ_eq_append_getElem hc,List.foldl_append];rfl
  simp only[Al,Aj,hc,AK hc,if_true,e,Option.bind_some,Af (show c<4611686018427387904 by omega),e2]
  rw[if_pos (by simp;omega)]
 ·simp only[Al,List.take_length]
  rw[if_neg (by simp)]
theorem Hs {i:Nat} {t0:Int} {fs:List (List Int)} (hfs: ∀u∈fs,i<u.length) (hl:fs.length<=4096) (s:WSt) (ho:s.2.length<=800000000) (t8:Int):
  Ak Aa ((),t0,ts,s,(i:Int),t8,fs,(fs.length:Int),0)=some (t0,ts,Em i fs fs s,(i:Int),t8):=by
 have:=DC fs.length (λf (o:WSt) v=>Ak f ((),t0,ts,o,(i:Int),t8,fs,(fs.length:Int),v)) (λc=>Em i (fs.take c) fs s) (r:=some (t0,ts,Em i fs fs s,(i:Int),t8)) (λf c hc=>?_) (λf=>?_) (n:=Aa) (by unfold Aa;omega)
 ·exact this
 ·have hcl:(Em i (fs.take c) fs s).2.length<=900000000:=by
   have:=EI (i:=i) (fs:=fs) (fs.take c) s
   rw[List.length_take]at this
   have:min c fs.length*(2*fs.length)<=4096*(2*4096):=Nat.mul_le_mul (by omega) (by omega)
   omega
  have hu:=hfs _ (List.getElem_mem hc)
  have e:=Ht (ts:=ts) (t0:=t0) hu hfs hl _ hcl t8 (fs.length:Int) (c:Int)
  have e2:Em i (fs.take (c+1)) fs s=Eh i fs[c] fs (Em i (fs.take c) fs s):=by
   unfold Em
   rw[List.take_succ_eq_append_getElem hc,List.foldl_append];rfl
  simp only[Ak,Aj,hc,AK hc,if_true,e,Option.bind_some,Af (show c<4611686018427387904 by omega),e2]
  rw[if_pos (by simp;omega)]
 ·simp only[Ak,List.take_length]
  rw[if_neg (by simp)]
structure PairsW (i:Nat) (s:WSt) (P:List Int->List Int->Prop) (s':WSt):Prop where
 key: ∀κ,κ∈s'.1↔κ∈s.1∨ ∃t u,P t u/\κ=Ee i t u
 mem: ∀w,w∈s'.2↔w∈s.2∨ ∃t u,P t u/\Ee i t u∉s.1/\(w=t∨w=u)
theorem Gf {i:Nat} {s s':WSt} {P:List Int->List Int->Prop} {t u:List Int} (h:PairsW i s P s') (hd: ∀t' u',P t' u'->Ee i t' u'=Ee i t u->t'=t/\u'=u):PairsW i s (λt' u'=>P t' u'∨(t'=t/\u'=u)) (stW i t u s'):=by
 unfold stW
 by_cases hm:Ee i t u∈s'.1
 ·rw[if_pos (Eg.2 hm)]
  refine⟨fun κ=>?_,λw=>?_⟩
  ·rw[h.key]
   constructor
   ·rintro (h1|⟨t',u',h1,h2⟩)
    ·exact .inl h1
    ·exact .inr ⟨t',u',.inl h1,h2⟩
   ·rintro (h1|⟨t',u',h1|⟨rfl,rfl⟩,h2⟩)
    ·exact .inl h1
    ·exact .inr ⟨t',u',h1,h2⟩
    ·subst h2;exact(h.key _).1 hm
  ·rw[h.mem]
   constructor
   ·rintro (h1|⟨t',u',h1,h2⟩)
    ·exact .inl h1
    ·exact .inr ⟨t',u',.inl h1,h2⟩
   ·rintro (h1|⟨t',u',h1|⟨rfl,rfl⟩,h2,h3⟩)
    ·exact .inl h1
    ·exact .inr ⟨t',u',h1,h2,h3⟩
    ·rcases(h.key _).1 hm with h4|⟨t2,u2,h4,h5⟩
     ·exact absurd h4 h2
     ·obtain⟨rfl,rfl⟩:=hd t2 u2 h4 h5.symm
      exact .inr ⟨t2,u2,h4,h2,h3⟩
 ·rw[if_neg (λe=>hm (Eg.1 e))]
  have hs:Ee i t u∉s.1:=λe=>hm ((h.key _).2 (.inl e))
  refine⟨fun κ=>?_,λw=>?_⟩
  ·rw[Fu,h.key]
   constructor
   ·rintro ((h1|⟨t',u',h1,h2⟩)|rfl)
    ·exact .inl h1
    ·exact .inr ⟨t',u',.inl h1,h2⟩
    ·exact .inr ⟨t,u,.inr ⟨rfl,rfl⟩,rfl⟩
   ·rintro (h1|⟨t',u',h1|⟨rfl,rfl⟩,h2⟩)
    ·exact .inl (.inl h1)
    ·exact .inl (.inr ⟨t',u',h1,h2⟩)
    ·exact .inr h2
  ·rw[List.mem_append,h.mem]
   simp only[List.mem_cons,List.not_mem_nil,or_false]
   constructor
   ·rintro ((h1|⟨t',u',h1,h2⟩)|h1)
    ·exact .inl h1
    ·exact .inr ⟨t',u',.inl h1,h2⟩
    ·exact .inr ⟨t,u,.inr ⟨rfl,rfl⟩,hs,h1⟩
   ·rintro (h1|⟨t',u',h1|⟨rfl,rfl⟩,h2,h3⟩)
    ·exact .inl (.inl h1)
    ·exact .inl (.inr ⟨t',u',h1,h2,h3⟩)
    ·exact .inr h3
theorem PairsW.congr {i:Nat} {s s':WSt} {P Q:List Int->List Int->Prop} (h:PairsW i s P s') (e: ∀t u,P t u↔Q t u):PairsW i s Q s':=by
 have:P=Q:=funext λt=>funext λu=>propext (e t u)
 exact this▸h
theorem Gy {i:Nat} {t u t' u':List Int} (h:Ee i t u=Ee i t' u'):t.getD i 0=t'.getD i 0/\u.getD i 0=u'.getD i 0:=by
 have:=Yem h
 simp only[List.cons.injEq,and_true,true_and]at this
 exact this
theorem G9 {i:Nat} {fs:List (List Int)} (hd: ∀r∈fs,∀r'∈fs,r.getD i 0=r'.getD i 0->r=r') (s:WSt):PairsW i s (λt u=>t∈fs/\u∈fs) (Em i fs fs s):=by
 have row: ∀(t:List Int),t∈fs-> ∀(l:List (List Int)),(∀u∈l,u∈fs)-> ∀(P:List Int->List Int->Prop) (s':WSt),(∀t u,P t u->t∈fs/\u∈fs)->PairsW i s P s'->PairsW i s (λt' u'=>P t' u'∨(t'=t/\u'∈l)) (Eh i t l s'):=by
  intro t ht l
  induction l with
  |nil=>
   intro _ P s' _ h
   exact h.congr λt' u'=>by simp
  |cons u l ih=>
   intro hl P s' hP h
   have hu:=hl u (List.mem_cons_self ..)
   have h1:=Gf (t:=t) (u:=u) h λt' u' hp hk=>by
    obtain⟨e1,e2⟩:=Gy hk
    obtain⟨m1,m2⟩:=hP t' u' hp
    exact⟨hd _ m1 _ ht e1,hd _ m2 _ hu e2⟩
   have h2:=ih (λu hu=>hl u (List.mem_cons_of_mem _ hu)) _ _ (λt' u' hp=>by
    rcases hp with hp|⟨rfl,rfl⟩
    ·exact hP _ _ hp
    ·exact⟨ht,hu⟩) h1
   refine h2.congr λt' u'=>?_
   simp only[List.mem_cons]
   constructor
   ·rintro ((a|⟨a,b⟩)|⟨a,b⟩)
    ·exact .inl a
    ·exact .inr ⟨a,.inl b⟩
    ·exact .inr ⟨a,.inr b⟩
   ·rintro (a|⟨a,b|b⟩)
    ·exact .inl (.inl a)
    ·exact .inl (.inr ⟨a,b⟩)
    ·exact .inr ⟨a,b⟩
 have all: ∀(l:List (List Int)),(∀t∈l,t∈fs)-> ∀(P:List Int->List Int->Prop) (s':WSt),(∀t u,P t u->t∈fs/\u∈fs)->PairsW i s P s'->PairsW i s (λt' u'=>P t' u'∨(t'∈l/\u'∈fs)) (Em i l fs s'):=by
  intro l
  induction l with
  |nil=>
   intro _ P s' _ h
   exact h.congr λt' u'=>by simp
  |cons t l ih=>
   intro hl P s' hP h
   have ht:=hl t (List.mem_cons_self ..)
   have h1:=row t ht fs (λ_ h=>h) P s' hP h
   have h2:=ih (λu hu=>hl u (List.mem_cons_of_mem _ hu)) _ _ (λt' u' hp=>by
    rcases hp with hp|⟨rfl,hu⟩
    ·exact hP _ _ hp
    ·exact⟨ht,hu⟩) h1
   refine h2.congr λt' u'=>?_
   simp only[List.mem_cons]
   constructor
   ·rintro ((a|⟨a,b⟩)|⟨a,b⟩)
    ·exact .inl a
    ·exact .inr ⟨.inl a,b⟩
    ·exact .inr ⟨.inr a,b⟩
   ·rintro (a|⟨a|a,b⟩)
    ·exact .inl (.inl a)
    ·exact .inl (.inr ⟨a,b⟩)
    ·exact .inr ⟨a,b⟩
 have:=all fs (λ_ h=>h) (λ_ _=>False) s (λ_ _ h=>h.elim) ⟨fun κ=>by simp,λw=>by simp⟩
 exact this.congr λt u=>by simp
end
end T
