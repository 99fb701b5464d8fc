/- Plain lemmas on the typed functions of the program, the first part; no conditions. -/
import Derived.Test.YtgeboeaoblppcabGreatV1
import Derived.Test.YtgeboeaoblppcabGreatV5
import Derived.KernelRfl
set_option linter.all false
namespace Go.Va
theorem EU (x:Int):w64 x=(x+9223372036854775808)%18446744073709551616-9223372036854775808:=by
 simp[w64,IntKind.wrap,IntKind.bits,IntKind.signed]
 split<;>omega
theorem Bp {x:Int} (h1: -9223372036854775808<=x) (h2:x<=9223372036854775807):w64 x=x:=by
 rw[EU];omega
theorem Aw {k:Nat} (h:k<4611686018427387904):w64 ((k:Int)+1)=((k+1:Nat):Int):=by
 rw[Bp (by omega) (by omega)];rfl
theorem AA {α:Type} {k:Nat} {xs:List α}:inb (k:Int) xs↔k<xs.length:=by
 unfold inb;omega
theorem AC {α:Type} {k:Nat} {xs:List α} {d:α} (h:k<xs.length):gd xs (k:Int) d=xs[k]:=by
 unfold gd;simp[h]
theorem DD {α:Type} {k:Nat} {xs:List α} {x:α}:stt xs (k:Int) x=xs.set k x:=by
 unfold stt;simp
def Hg {α σ β:Type} (step:σ->α->Option (σ⊕β)) (fin:σ->Option β):List α->σ->Option β
 | [],s=>fin s
 |a::l,s=>match step s a with|some (.inl s')=>Hg step fin l s'|some (.inr r)=>some r|none=>none
theorem I3 {α σ β:Type} (xs:List α) (L:Nat->σ->Int->Option β) (step:σ->α->Option (σ⊕β)) (fin:σ->Option β)
  (hs: ∀n s (k:Nat) (hk:k<xs.length),L (n+1) s k=match step s xs[k]with|some (.inl s')=>L n s' ((k+1:Nat):Int)|some (.inr r)=>some r|none=>none)
  (he: ∀n s,L (n+1) s (xs.length:Nat)=fin s): ∀(n k:Nat) (s:σ),k<=xs.length->xs.length-k<n->L n s k=Hg step fin (xs.drop k) s:=by
 intro n
 induction n with
 |zero=>intro k s _ h;omega
 |succ n ih=>
  intro k s hk hn
  rcases Nat.lt_or_ge k xs.length with hlt|hge
  ·rw[hs n s k hlt,List.drop_eq_getElem_cons hlt]
   simp only[Hg]
   cases step s xs[k]with
   |none=>rfl
   |some q=>
    cases q with
    |inl s'=>exact ih (k+1) s' hlt (by omega)
    |inr r=>rfl
  ·have:k=xs.length:=by omega
   subst this
   rw[he,List.drop_length];rfl
theorem ID {α σ β:Type} (xs:List α) (L:Nat->σ->Int->Option β) (step:σ->α->Option (σ⊕β)) (fin:σ->Option β)
  (hs: ∀n s (k:Nat) (hk:k<xs.length),L (n+1) s k=match step s xs[k]with|some (.inl s')=>L n s' ((k+1:Nat):Int)|some (.inr r)=>some r|none=>none)
  (he: ∀n s,L (n+1) s (xs.length:Nat)=fin s) {n:Nat} (hn:xs.length<n) (s:σ):L n s 0=Hg step fin xs s:=by
 have:=I3 xs L step fin hs he n 0 s (Nat.zero_le _) (by omega)
 simpa using this
theorem Gk {α β:Type} {p:α->Bool} {step:Unit->α->Option (Unit⊕β)} {fin:Unit->Option β} {r:β}: ∀ {l:List α},(∀a∈l,step () a=if p a then some (.inl ())else some (.inr r))->Hg step fin l ()=if l.all p then fin ()else some r
 | [],_=>rfl
 |a::l,h=>by
  simp only[Hg]
  rw[h a (by simp)]
  cases hp:p a with
  |true=>simp only[if_true,List.all_cons,hp,Bool.true_and];exact Gk λb hb=>h b (List.mem_cons_of_mem _ hb)
  |false=>simp[List.all_cons,hp]
theorem IX {α β γ:Type} (xs:List α) (L:Nat->List β->Int->Option γ) (g:α->β) (fin:List β->Option γ)
  (hs: ∀n (out:List β) (k:Nat) (hk:k<xs.length),out.length=xs.length->L (n+1) out k=L n (out.set k (g xs[k])) ((k+1:Nat):Int))
  (he: ∀n out,out.length=xs.length->L (n+1) out (xs.length:Nat)=fin out): ∀(n k:Nat) (out:List β),out.length=xs.length->k<=xs.length->xs.length-k<n->L n out k=fin (out.take k++(xs.drop k).map g):=by
 intro n
 induction n with
 |zero=>intro k out _ _ h;omega
 |succ n ih=>
  intro k out hl hk hn
  rcases Nat.lt_or_ge k xs.length with hlt|hge
  ·have:(out.set k (g xs[k])).take (k+1)=out.take k++ [g xs[k]]:=by
    rw[List.take_succ_eq_append_getElem (by simp;omega),List.take_set_of_le (Nat.le_refl _),List.getElem_set_self]
   rw[hs n out k hlt hl,ih (k+1) _ (by simpa using hl) hlt (by omega),List.drop_eq_getElem_cons hlt,this,List.map_cons,List.append_assoc,List.singleton_append]
  ·have:k=xs.length:=by omega
   subst this
   rw[he _ _ hl,List.drop_length,List.take_of_length_le (by omega)];simp
theorem IC {α β γ:Type} (xs:List α) (L:Nat->List β->Int->Option γ) (g:α->β) (fin:List β->Option γ)
  (hs: ∀n (out:List β) (k:Nat) (hk:k<xs.length),out.length=xs.length->L (n+1) out k=L n (out.set k (g xs[k])) ((k+1:Nat):Int))
  (he: ∀n out,out.length=xs.length->L (n+1) out (xs.length:Nat)=fin out) {n:Nat} {out:List β} (hl:out.length=xs.length) (hn:xs.length<n):L n out 0=fin (xs.map g):=by
 have:=IX xs L g fin hs he n 0 out hl (Nat.zero_le _) (by omega)
 simpa using this
theorem eqX {α:Type} [DecidableEq α] (a b:List α) (hl:a.length=b.length) (L:Nat->Int->Option (Unit⊕Bool))
  (hs: ∀n (k:Nat) (h1:k<a.length) (h2:k<b.length),L (n+1) k=if a[k]=b[k]then L n ((k+1:Nat):Int)else some (.inr false)) (he: ∀n,L (n+1) (a.length:Nat)=some (.inl ())) {n:Nat} (hn:a.length<n):
  L n 0=some (if a=b then .inl ()else .inr false):=by
 have key: ∀(n k:Nat),k<=a.length->a.length-k<n->L n k=some (if a.drop k=b.drop k then .inl ()else .inr false):=by
  intro n
  induction n with
  |zero=>intro k _ h;omega
  |succ n ih=>
   intro k hk hn
   rcases Nat.lt_or_ge k a.length with hlt|hge
   ·have h2:k<b.length:=by omega
    have e:(a.drop k=b.drop k)↔(a[k]=b[k]/\a.drop (k+1)=b.drop (k+1)):=by
     rw[List.drop_eq_getElem_cons hlt,List.drop_eq_getElem_cons h2];exact List.cons_eq_cons
    rw[hs n k hlt h2]
    by_cases h:a[k]=b[k]
    ·rw[if_pos h,ih (k+1) hlt (by omega)]
     by_cases h3:a.drop (k+1)=b.drop (k+1)
     ·rw[if_pos h3,if_pos (e.2 ⟨h,h3⟩)]
     ·rw[if_neg h3,if_neg λh'=>h3 (e.1 h').2]
    ·rw[if_neg h,if_neg λh'=>h (e.1 h').1]
   ·have:k=a.length:=by omega
    subst this
    rw[he,List.drop_length,hl,List.drop_length];rfl
 have:=key n 0 (Nat.zero_le _) (by omega)
 simpa using this
theorem Gu {α β:Type} (xs:List α) (L:Nat->Int->Option β) (p:α->Bool) (r e:β)
  (hs: ∀n (k:Nat) (hk:k<xs.length),L (n+1) k=if p xs[k]then L n ((k+1:Nat):Int)else some r) (he: ∀n,L (n+1) (xs.length:Nat)=some e) {n:Nat} (hn:xs.length<n):
  L n 0=some (if xs.all p then e else r):=by
 have:=ID xs (λn (_:Unit) i=>L n i) (λ_ a=>if p a then some (.inl ())else some (.inr r)) (λ_=>some e) (λn s k hk=>by rw[hs n k hk];cases p xs[k]<;>simp) (λn s=>he n) hn ()
 rw[this,Gk (p:=p) (r:=r) λa _=>by cases p a<;>simp]
 cases xs.all p<;>simp
theorem D0 {σ β:Type} (N:Nat) (L:Nat->σ->Int->Option β) (S:Nat->σ) {r:Option β}
  (hs: ∀n (k:Nat),k<N->L (n+1) (S k) k=L n (S (k+1)) ((k+1:Nat):Int)) (he: ∀n,L (n+1) (S N) (N:Nat)=r) {n:Nat} (hn:N<n):L n (S 0) 0=r:=by
 have key: ∀(n k:Nat),k<=N->N-k<n->L n (S k) k=r:=by
  intro n
  induction n with
  |zero=>intro k _ h;omega
  |succ n ih=>
   intro k hk hn
   rcases Nat.lt_or_ge k N with hlt|hge
   ·rw[hs n k hlt];exact ih (k+1) hlt (by omega)
   ·have:k=N:=by omega
    subst this;exact he n
 exact key n 0 (Nat.zero_le _) (by omega)
theorem H4 {σ β:Type} (N:Nat) (L:Nat->σ->Int->Option β) (S:Nat->σ) (p:Nat->Bool) {r e:Option β}
  (hs: ∀n (k:Nat),k<N->L (n+1) (S k) k=if p k then L n (S (k+1)) ((k+1:Nat):Int)else r) (he: ∀n,L (n+1) (S N) (N:Nat)=e) {n:Nat} (hn:N<n):
  L n (S 0) 0=if(List.range N).all p then e else r:=by
 have key: ∀(n k:Nat),k<=N->N-k<n->L n (S k) k=if(List.range' k (N-k)).all p then e else r:=by
  intro n
  induction n with
  |zero=>intro k _ h;omega
  |succ n ih=>
   intro k hk hn
   rcases Nat.lt_or_ge k N with hlt|hge
   ·rw[hs n k hlt,show N-k=(N-(k+1))+1 by omega,List.range'_succ,List.all_cons]
    cases hp:p k with
    |false=>simp
    |true=>simp only[if_true,Bool.true_and];exact ih (k+1) hlt (by omega)
   ·have:k=N:=by omega
    subst this;rw[he];simp
 have:=key n 0 (Nat.zero_le _) (by omega)
 rw[List.range_eq_range']
 simpa using this
theorem Jh {σ β:Type} (N:Nat) (L:Nat->σ->Int->Option β) (S:Nat->σ) (p:Nat->Bool) {r e:Option β}
  (hs: ∀n (k:Nat),k<N->(∀j,j<k->p j=true)->L (n+1) (S k) k=if p k then L n (S (k+1)) ((k+1:Nat):Int)else r) (he: ∀n,(∀j,j<N->p j=true)->L (n+1) (S N) (N:Nat)=e) {n:Nat} (hn:N<n):
  L n (S 0) 0=if(List.range N).all p then e else r:=by
 have key: ∀(n k:Nat),k<=N->N-k<n->(∀j,j<k->p j=true)->L n (S k) k=if(List.range' k (N-k)).all p then e else r:=by
  intro n
  induction n with
  |zero=>intro k _ h;omega
  |succ n ih=>
   intro k hk hn hb
   rcases Nat.lt_or_ge k N with hlt|hge
   ·rw[hs n k hlt hb,show N-k=(N-(k+1))+1 by omega,List.range'_succ,List.all_cons]
    cases hp:p k with
    |false=>simp
    |true=>
     simp only[if_true,Bool.true_and]
     refine ih (k+1) hlt (by omega) λj hj=>?_
     rcases Nat.lt_or_ge j k with h|h
     ·exact hb j h
     ·have:j=k:=by omega
      rw[this];exact hp
   ·have:k=N:=by omega
    subst this;rw[he n hb];simp
 have:=key n 0 (Nat.zero_le _) (by omega) (λj h=>by omega)
 rw[List.range_eq_range']
 simpa using this
end Go.Va
set_option linter.unusedVariables false
open Go Go.Va
namespace T
def Ad:Nat:=1099511627776
def CH (x:Int) (a:Int) (b:Int):Option (Bool):=
 if decide (x≥a)then
 some (decide (x<=b))
 else
 some false
def B4:Nat->(Int×(List Int)×Int)->Option ((Unit)⊕(Bool))
 |0,_=>none
 |n+1,(n_,list,i)=>
 if decide (i<(list.length:Int))then
 if inb i list then
 (CH (gd list i 0) 0 (w64 (n_-1))).bind λr1=>
 if !r1 then
 some (.inr false)
 else
 B4 n (n_,list,w64 (i+1))
 else none
 else
 some (.inl ())
def Cc (n_:Int) (list:List Int):Option (Bool):=
 (B4 Ad (n_,list,0)).bind λs1=>
  match s1 with
  | .inl s2=>
   some true
  | .inr s3=>
   some s3
def DS (n_:Int) (k:Int) (t:List Int):Option (Bool):=
 if(t.length:Int)==k then
 (Cc n_ t).bind λr1=>
 some r1
 else
 some false
def CL:Nat->(Int×(List Int)×Int×Int)->Option ((Unit)⊕(Bool))
 |0,_=>none
 |n+1,(n_,t7,t8,t9)=>
 if decide (t9<t8)then
 if inb t9 t7 then
 if decide ((gd t7 t9 0)<0)then
 some (.inr false)
 else
 if decide ((gd t7 t9 0)≥n_)then
 some (.inr false)
 else
 CL n (n_,t7,t8,w64 (t9+1))
 else none
 else
 some (.inl ())
def C6 (list:List Int) (n_:Int):Option (Bool):=
 (CL Ad (n_,list,(list.length:Int),0)).bind λs1=>
  match s1 with
  | .inl s2=>
   some true
  | .inr s3=>
   some s3
def Ed (n_:Int):Option (Bool):=
 (CH n_ 1 8).bind λr1=>
 some r1
def Cj:Nat->(Int×Int×Int)->Option (Int)
 |0,_=>none
 |n+1,(n_,k,out)=>
 if decide (k>0)then
 Cj n (n_,w64 (k-1),w64 (out*n_))
 else
 some out
def CP (n_:Int) (k:Int):Option (Int):=
 (Cj Ad (n_,k,1)).bind λs1=>
 some s1
def CQ:Nat->((List Int)×(List Int)×Int)->Option ((Unit)⊕(Bool))
 |0,_=>none
 |n+1,(a,b,i)=>
 if decide (i<(a.length:Int))then
 if inb i a then
 if inb i b then
 if(gd a i 0) !=(gd b i 0)then
 if inb i a then
 if inb i b then
 some (.inr (decide ((gd a i 0)<(gd b i 0))))
 else none
 else none
 else
 CQ n (a,b,w64 (i+1))
 else none
 else none
 else
 some (.inl ())
def Eb (a:List Int) (b:List Int):Option (Bool):=
 (CQ Ad (a,b,0)).bind λs1=>
  match s1 with
  | .inl s2=>
   some false
  | .inr s3=>
   some s3
def CN:Nat->((List Int)×(List Int)×Int)->Option ((Unit)⊕(Bool))
 |0,_=>none
 |n+1,(a,b,i)=>
 if decide (i<(a.length:Int))then
 if inb i a then
 if inb i b then
 if(gd a i 0) !=(gd b i 0)then
 some (.inr false)
 else
 CN n (a,b,w64 (i+1))
 else none
 else none
 else
 some (.inl ())
def Ea (a:List Int) (b:List Int):Option (Bool):=
 if(a.length:Int) !=(b.length:Int)then
  some false
 else
  (CN Ad (a,b,0)).bind λs1=>
   match s1 with
   | .inl s2=>
    some true
   | .inr s3=>
    some s3
def Ct:Nat->((List (List Int))×(List Int)×Int×Int)->Option ((List (List Int))×(List Int)×Int)
 |0,_=>none
 |n+1,(list,t,from_,to)=>
 if decide (from_<to)then
 if(2:Int)≠0 then
 if inb (w64 (Int.tdiv (w64 (from_+to)) 2)) list then
 (Eb (gd list (w64 (Int.tdiv (w64 (from_+to)) 2)) []) t).bind λr1=>
 if r1 then
 Ct n (list,t,w64 ((w64 (Int.tdiv (w64 (from_+to)) 2))+1),to)
 else
 Ct n (list,t,from_,w64 (Int.tdiv (w64 (from_+to)) 2))
 else none
 else none
 else
 some (list,t,from_)
def Dn (list:List (List Int)) (t:List Int):Option (Int×Bool):=
 (Ct Ad (list,t,0,(list.length:Int))).bind λs1=>
 if decide (s1.2.2<(s1.1.length:Int))then
 if inb s1.2.2 s1.1 then
 (Ea (gd s1.1 s1.2.2 []) s1.2.1).bind λr2=>
 some (s1.2.2,r2)
 else none
 else
 some (s1.2.2,false)
def Bv:Nat->((List Int)×(List Int)×Int)->Option (((List Int)×(List Int))⊕(Int))
 |0,_=>none
 |n+1,(s,t,i)=>
 if decide (i<(s.length:Int))then
 if decide (i<(t.length:Int))then
 if inb i s then
 if inb i t then
 if(gd s i 0) !=(gd t i 0)then
 if inb i s then
 if inb i t then
 if decide ((gd s i 0)<(gd t i 0))then
 some (.inr (-1))
 else
 some (.inr 1)
 else none
 else none
 else
 Bv n (s,t,w64 (i+1))
 else none
 else none
 else
 some (.inl (s,t))
 else
 some (.inl (s,t))
def DC (s:List Int) (t:List Int):Option (Int):=
 (Bv Ad (s,t,0)).bind λs1=>
  match s1 with
  | .inl s2=>
   if decide ((s2.1.length:Int)<(s2.2.length:Int))then
    some (-1)
   else
    if decide ((s2.1.length:Int)>(s2.2.length:Int))then
     some 1
    else
     some 0
  | .inr s3=>
   some s3
end T
open Go Go.Va
namespace T
abbrev Lin:=Int×Int×List (List Int)
theorem Ch (x a b:Int):CH x a b=some (decide (a<=x/\x<=b)):=by
 unfold CH
 by_cases h:a<=x<;>simp[h]
def Bf (n:Int) (l:List Int):Bool:=l.all λx=>decide (0<=x/\x<n)
theorem C9 {l:List Int} (n:Int) (hl:l.length<=1099511627775):C6 l n=some (Bf n l):=by
 unfold C6
 rw[Gu l (λm i=>CL m (n,l,(l.length:Int),i)) (λx=>decide (0<=x/\x<n)) (.inr false) (.inl ()) ?_ ?_ (by unfold Ad;omega)]
 ·unfold Bf;cases l.all (λx=>decide (0<=x/\x<n))<;>simp
 ·intro m k hk
  simp only[CL,AA,AC hk,Aw (show k<4611686018427387904 by omega)]
  by_cases h1:l[k]<0
  ·simp[hk,h1,show¬0<=l[k] by omega]
  ·by_cases h2:n<=l[k]
   ·simp[hk,h1,h2,show¬l[k]<n by omega]
   ·simp[hk,h1,h2,show 0<=l[k]/\l[k]<n by omega]
 ·intro m
  simp[CL]
theorem Cz {l:List Int} {n:Int} (hn: -9223372036854775808<n) (hn':n<=9223372036854775807) (hl:l.length<=1099511627775):Cc n l=some (Bf n l):=by
 unfold Cc
 rw[Gu l (λm i=>B4 m (n,l,i)) (λx=>decide (0<=x/\x<n)) (.inr false) (.inl ()) ?_ ?_ (by unfold Ad;omega)]
 ·unfold Bf;cases l.all (λx=>decide (0<=x/\x<n))<;>simp
 ·intro m k hk
  simp only[B4,AA,AC hk,Aw (show k<4611686018427387904 by omega),Ch,Bp (show-9223372036854775808<=n-1 by omega) (show n-1<=9223372036854775807 by omega)]
  by_cases h1:0<=l[k]/\l[k]<n
  ·simp[hk,h1,show l[k]<=n-1 by omega]
  ·have: ¬(0<=l[k]/\l[k]<=n-1):=by omega
   simp[hk,h1,this]
 ·intro m
  simp[B4]
theorem ER {l:List Int} {n:Int} (k:Int) (hn: -9223372036854775808<n) (hn':n<=9223372036854775807) (hl:l.length<=1099511627775):DS n k l=some (decide ((l.length:Int)=k)&&Bf n l):=by
 unfold DS
 rw[Cz hn hn' hl]
 by_cases h:(l.length:Int)=k<;>simp[h]
end T
open Go Go.Va
namespace T
theorem EX {n:Int} {l:List Int} (h:Bf n l=true) (k:Nat) (hk:k<l.length):0<=l[k]/\l[k]<n:=by
 have:=(List.all_eq_true.1 h) l[k] (List.getElem_mem hk)
 simpa using this
section
variable {p v:Int} {rows:List (List Int)} {y:List Int}
end
end T
open Go Go.Va
namespace T
def cmpL:List Int->List Int->Int
 | [],[]=>0
 | [],_::_=> -1
 |_::_,[]=>1
 |a::s,b::t=>if a=b then cmpL s t else if a<b then-1 else 1
theorem Gx {s t:List Int} (hs:s.length<=1099511627775): ∀(n k:Nat),k<=s.length->k<=t.length->s.length-k<n->
  (Bv n (s,t,(k:Int))).bind (λs1=>match s1 with
   | .inl s2=>if decide ((s2.1.length:Int)<(s2.2.length:Int))then some (-1)else if decide ((s2.1.length:Int)>(s2.2.length:Int))then some 1 else some 0
   | .inr s3=>some s3)=some (cmpL (s.drop k) (t.drop k)):=by
 intro n
 induction n with
 |zero=>intro k _ _ h;omega
 |succ n ih=>
  intro k h1 h2 hn
  by_cases k1:k<s.length
  ·by_cases k2:k<t.length
   ·rw[List.drop_eq_getElem_cons k1,List.drop_eq_getElem_cons k2]
    simp only[Bv,AA,AC k1,AC k2,Aw (show k<4611686018427387904 by omega),cmpL]
    by_cases he:s[k]=t[k]
    ·have:=ih (k+1) k1 k2 (by omega)
     simp[k1,k2,he]
     simpa using this
    ·by_cases hl:s[k]<t[k]<;>simp[k1,k2,he,hl]
   ·rw[List.drop_eq_getElem_cons k1,List.drop_of_length_le (show t.length<=k by omega)]
    have e:k=t.length:=by omega
    simp only[Bv,cmpL]
    simp[k1,k2,show¬s.length<t.length by omega,show t.length<s.length by omega]
  ·rw[List.drop_of_length_le (show s.length<=k by omega)]
   simp only[Bv]
   by_cases k2:k<t.length
   ·rw[List.drop_eq_getElem_cons k2]
    simp[k1,cmpL,show s.length<t.length by omega]
   ·rw[List.drop_of_length_le (show t.length<=k by omega)]
    simp[k1,cmpL,show¬s.length<t.length by omega,show¬t.length<s.length by omega]
theorem D1 {s t:List Int} (hs:s.length<=1099511627775):DC s t=some (cmpL s t):=by
 have:=Gx (t:=t) hs Ad 0 (Nat.zero_le _) (Nat.zero_le _) (by unfold Ad;omega)
 rw[List.drop_zero,List.drop_zero]at this
 exact this
theorem Ec {s t:List Int} (hs:s.length<=1099511627775) (hl:s.length=t.length):Eb s t=some (decide (cmpL s t<0)):=by
 have key: ∀(n k:Nat),k<=s.length->s.length-k<n->(CQ n (s,t,(k:Int))).bind (λs1=>match s1 with| .inl _=>some false| .inr s3=>some s3)=some (decide (cmpL (s.drop k) (t.drop k)<0)):=by
  intro n
  induction n with
  |zero=>intro k _ h;omega
  |succ n ih=>
   intro k h1 hn
   by_cases k1:k<s.length
   ·have k2:k<t.length:=by omega
    rw[List.drop_eq_getElem_cons k1,List.drop_eq_getElem_cons k2]
    simp only[CQ,AA,AC k1,AC k2,Aw (show k<4611686018427387904 by omega),cmpL]
    by_cases he:s[k]=t[k]
    ·have:=ih (k+1) k1 (by omega)
     simp[k1,k2,he]
     simpa using this
    ·by_cases hl:s[k]<t[k]<;>simp[k1,k2,he,hl]
   ·rw[List.drop_of_length_le (show s.length<=k by omega),List.drop_of_length_le (show t.length<=k by omega)]
    simp[CQ,k1,cmpL]
 have:=key Ad 0 (Nat.zero_le _) (by unfold Ad;omega)
 rw[List.drop_zero,List.drop_zero]at this
 exact this
theorem Fg {a b:List Int} (ha:a.length<=1099511627775):Ea a b=some (decide (a=b)):=by
 unfold Ea
 by_cases hl:a.length=b.length
 ·rw[if_neg (by simp[hl]),eqX a b hl (λn i=>CN n (a,b,i)) ?_ ?_ (by unfold Ad;omega)]
  ·by_cases h:a=b<;>simp[h]
  ·intro n k h1 h2
   simp only[CN,AA,AC h1,AC h2,Aw (show k<4611686018427387904 by omega)]
   by_cases h:a[k]=b[k]<;>simp[h1,h2,h]
  ·intro n
   simp[CN]
 ·rw[if_pos (by simp;omega),decide_eq_false (λe=>hl (by rw[e]))]
theorem cmpL_refl: ∀s,cmpL s s=0
 | []=>rfl
 |a::s=>by simp[cmpL,cmpL_refl s]
theorem cmpL_eq: ∀ {s t},cmpL s t=0↔s=t
 | [],[]=>by simp[cmpL]
 | [],_::_=>by simp[cmpL]
 |_::_,[]=>by simp[cmpL]
 |a::s,b::t=>by
  simp only[cmpL]
  by_cases h:a=b
  ·rw[if_pos h,cmpL_eq];simp[h]
  ·rw[if_neg h];split<;>simp[h]
theorem cmpL_symm: ∀s t,cmpL t s= -cmpL s t
 | [],[]=>by simp[cmpL]
 | [],_::_=>by simp[cmpL]
 |_::_,[]=>by simp[cmpL]
 |a::s,b::t=>by
  simp only[cmpL]
  by_cases h:a=b
  ·rw[if_pos h,if_pos h.symm,cmpL_symm s t]
  ·rw[if_neg h,if_neg (Ne.symm h)]
   by_cases h2:a<b
   ·rw[if_pos h2,if_neg (by omega)];rfl
   ·rw[if_neg h2,if_pos (by omega)]
theorem cmpL_trans: ∀ {s t u},cmpL s t<0->cmpL t u<0->cmpL s u<0
 | [],[],_,h,_=>by simp[cmpL]at h
 | [],_::_,[],_,h=>by simp[cmpL]at h
 | [],_::_,_::_,_,_=>by simp[cmpL]
 |_::_,[],_,h,_=>by simp[cmpL]at h
 |_::_,_::_,[],_,h=>by simp[cmpL]at h
 |a::s,b::t,c::u,h1,h2=>by
  simp only[cmpL]at*
  by_cases e1:a=b
  ·rw[if_pos e1]at h1
   by_cases e2:b=c
   ·rw[if_pos e2]at h2;rw[if_pos (e1.trans e2)];exact cmpL_trans h1 h2
   ·rw[if_neg e2]at h2;rw[e1,if_neg e2];exact h2
  ·rw[if_neg e1]at h1
   have l1:a<b:=by
    by_cases h:a<b
    ·exact h
    ·rw[if_neg h]at h1;omega
   by_cases e2:b=c
   ·rw[←e2,if_neg e1,if_pos l1];omega
   ·rw[if_neg e2]at h2
    have l2:b<c:=by
     by_cases h:b<c
     ·exact h
     ·rw[if_neg h]at h2;omega
    rw[if_neg (by omega),if_pos (by omega)];omega
def CT:List (List Int)->Bool
 |a::b::l=>decide (cmpL a b<0)&&CT (b::l)
 |_=>true
theorem G8 {a:List Int} {l:List (List Int)} (h:CT (a::l)=true):CT l=true:=by
 cases l with
 |nil=>rfl
 |cons b l=>simp only[CT,Bool.and_eq_true]at h;exact h.2
theorem Fz: ∀ {a:List Int} {l:List (List Int)},CT (a::l)=true-> ∀b∈l,cmpL a b<0
 |a,[],_,b,hb=>by cases hb
 |a,c::l,h,b,hb=>by
  simp only[CT,Bool.and_eq_true,decide_eq_true_eq]at h
  rcases List.mem_cons.1 hb with rfl|hb
  ·exact h.1
  ·exact cmpL_trans h.1 (Fz h.2 b hb)
theorem DO: ∀ {l:List (List Int)},CT l=true-> ∀(i j:Nat) (hi:i<j) (hj:j<l.length),cmpL (l[i]'(by omega)) l[j]<0
 | [],_,i,j,_,hj=>by simp at hj
 |a::l,h,0,j+1,_,hj=>by
  simp only[List.getElem_cons_zero,List.getElem_cons_succ]
  exact Fz h _ (List.getElem_mem _)
 |a::l,h,i+1,j+1,hi,hj=>by
  simp only[List.getElem_cons_succ]
  exact DO (G8 h) i j (by omega) (by simpa using hj)
theorem Gc {l:List (List Int)}:CT l=true↔ ∀(i:Nat) (hi:i+1<l.length),cmpL (l[i]'(by omega)) l[i+1]<0:=by
 constructor
 ·exact λh i hi=>DO h i (i+1) (by omega) hi
 ·induction l with
  |nil=>intro _;rfl
  |cons a l ih=>
   intro h
   cases l with
   |nil=>rfl
   |cons b l=>
    simp only[CT,Bool.and_eq_true,decide_eq_true_eq]
    exact⟨h 0 (by simp),ih λi hi=>by have:=h (i+1) (by simpa using hi);simpa using this⟩
end T
open Go Go.Va
namespace T
theorem FE {n:Int} (h0:0<=n) (h8:n<=8): ∀k:Nat,0<=n^k/\n^k<=8^k
 |0=>by simp
 |k+1=>by
  obtain⟨h1,h2⟩:=FE h0 h8 k
  rw[Int.pow_succ,Int.pow_succ]
  exact⟨Int.mul_nonneg h1 h0,Int.mul_le_mul h2 h8 h0 (by have:(0:Int)<=8^k:=Int.le_trans h1 h2;exact this)⟩
theorem Ig: ∀k:Nat,k<=20->(8:Int)^k<=8^20:=by
 intro k hk
 have:((8^k:Nat):Int)<=((8^20:Nat):Int):=Int.ofNat_le.2 (Nat.pow_le_pow_right (by omega) hk)
 simpa using this
theorem HL {n:Int} (h0:0<=n) (h8:n<=8) {k:Nat} (hk:k<=20):0<=n^k/\n^k<=1152921504606846976:=by
  obtain⟨h1,h2⟩:=FE h0 h8 k
  have:=Ig k hk
  exact ⟨h1, by have e : (8 : Int) ^ 20 = 1152921504606846976 := by decide
                omega⟩
theorem HF {n:Int} (h0:0<=n) (h8:n<=8): ∀(m k j:Nat),j+k<=20->k<m->Cj m (n,(k:Int),n^j)=some (n^(j+k)):=by
 intro m
 induction m with
 |zero=>intro k j _ h;omega
 |succ m ih=>
  intro k j hj hk
  simp only[Cj]
  cases k with
  |zero=>simp
  |succ k=>
   have e:w64 (((k+1:Nat):Int)-1)=(k:Int):=by rw[Bp (by omega) (by omega)];omega
   have hb:=HL h0 h8 (k:=j+1) (by omega)
   rw[Int.pow_succ]at hb
   rw[e,Bp (by omega) (by omega),←Int.pow_succ,if_pos (by simp),ih k (j+1) (by omega) (by omega)]
   congr 2<;>omega
theorem Ek {n:Int} (h0:0<=n) (h8:n<=8) {k:Nat} (hk:k<=20):CP n (k:Int)=some (n^k):=by
 unfold CP
 have:=HF h0 h8 Ad k 0 (by omega) (by unfold Ad;omega)
 rw[Int.pow_zero]at this
 rw[this];simp
def Ew (n:Int):Int->List Int->Int
 |i,[]=>i
 |i,a::l=>Ew n (i*n+a) l
def idx (n:Int) (l:List Int):Int:=Ew n 0 l
theorem FP (n:Int): ∀(l:List Int) (i:Int),Ew n i l=i*n^l.length+Ew n 0 l
 | [],i=>by simp[Ew]
 |a::l,i=>by
  simp only[Ew,List.length_cons]
  rw[FP n l (i*n+a),FP n l (0*n+a),Int.pow_succ]
  simp only[Int.zero_mul,Int.zero_add]
  rw[Int.add_mul,Int.mul_assoc,Int.mul_comm n (n^l.length)]
  omega
theorem E5 (n a:Int) (l:List Int):idx n (a::l)=a*n^l.length+idx n l:=by
 unfold idx
 simp only[Ew]
 rw[FP];simp
theorem DZ {n a:Int} {l:List Int}:Bf n (a::l)=true↔(0<=a/\a<n)/\Bf n l=true:=by
 unfold Bf;simp[List.all_cons]
theorem E4 {n:Int}: ∀ {l:List Int},Bf n l=true->0<=idx n l/\idx n l<n^l.length
 | [],_=>by simp[idx,Ew]
 |a::l,h=>by
  obtain⟨h1,h2⟩:=DZ.1 h
  obtain⟨h3,h4⟩:=E4 h2
  rw[E5,List.length_cons,Int.pow_succ]
  have hp:0<=n^l.length:=by omega
  have k1:=Int.mul_nonneg h1.1 hp
  have k2:=Int.mul_le_mul_of_nonneg_right (show a+1<=n by omega) hp
  rw[Int.add_mul,Int.one_mul,Int.mul_comm n]at k2
  exact⟨by omega,by omega⟩
theorem FQ {n:Int}: ∀ {s t:List Int},Bf n s=true->Bf n t=true->s.length=t.length->(cmpL s t<0↔idx n s<idx n t)/\(cmpL s t=0↔idx n s=idx n t)
 | [],[],_,_,_=>by simp[cmpL,idx,Ew]
 | [],_::_,_,_,h=>by simp at h
 |_::_,[],_,_,h=>by simp at h
 |a::s,b::t,hs,ht,hl=>by
  obtain⟨s1,s2⟩:=DZ.1 hs
  obtain⟨t1,t2⟩:=DZ.1 ht
  have hl':s.length=t.length:=by simpa using hl
  have ih:=FQ s2 t2 hl'
  obtain⟨b1,b2⟩:=E4 s2
  obtain⟨c1,c2⟩:=E4 t2
  rw[E5,E5,hl']
  rw[hl']at b2
  simp only[cmpL]
  have hp:0<=n^t.length:=by omega
  rcases Int.lt_trichotomy a b with h|h|h
  ·have:=Int.mul_le_mul_of_nonneg_right (show a+1<=b by omega) hp
   rw[Int.add_mul,Int.one_mul]at this
   rw[if_neg (by omega),if_pos h]
   exact⟨by constructor<;>intro<;>omega,by constructor<;>intro<;>omega⟩
  ·subst h
   rw[if_pos rfl]
   exact⟨by rw[ih.1];constructor<;>intro<;>omega,by rw[ih.2];constructor<;>intro<;>omega⟩
  ·have:=Int.mul_le_mul_of_nonneg_right (show b+1<=a by omega) hp
   rw[Int.add_mul,Int.one_mul]at this
   rw[if_neg (by omega),if_neg (by omega)]
   exact⟨by constructor<;>intro<;>omega,by constructor<;>intro<;>omega⟩
theorem EG {n:Int} {k:Nat} {l:List (List Int)} (hi:CT l=true) (hv: ∀t∈l,t.length=k/\Bf n t=true):(l.length:Int)<=n^k∨l= []:=by
 have key: ∀(i:Nat) (h:i<l.length),(i:Int)<=idx n l[i]:=by
  intro i
  induction i with
  |zero=>intro h;exact(E4 (hv _ (List.getElem_mem h)).2).1
  |succ i ih=>
   intro h
   have h1:=ih (by omega)
   obtain⟨l1,b1⟩:=hv _ (List.getElem_mem (show i<l.length by omega))
   obtain⟨l2,b2⟩:=hv _ (List.getElem_mem h)
   have:=(FQ b1 b2 (l1.trans l2.symm)).1.1 (DO hi i (i+1) (by omega) h)
   omega
 cases hn:l.length with
 |zero=>exact .inr (List.length_eq_zero_iff.1 hn)
 |succ m=>
  left
  have h:=key m (by omega)
  obtain⟨l1,b1⟩:=hv _ (List.getElem_mem (show m<l.length by omega))
  have:=(E4 b1).2
  rw[l1]at this
  omega
theorem HZ {list:List (List Int)} {t:List Int} {k:Nat} (hl:list.length<=1099511627775) (hk:k<=1099511627775) (hv: ∀u∈list,u.length=k) (ht:t.length=k) (hi:CT list=true): ∀(m a b:Nat),a<=b->b<=list.length->b-a<m->
  (∀i (h:i<list.length),i<a->cmpL list[i] t<0)->(∀i (h:i<list.length),b<=i-> ¬cmpL list[i] t<0)->
  ∃c:Nat,Ct m (list,t,(a:Int),(b:Int))=some (list,t,(c:Int))/\c<=list.length/\(∀i (h:i<list.length),i<c->cmpL list[i] t<0)/\(∀i (h:i<list.length),c<=i-> ¬cmpL list[i] t<0):=by
 intro m
 induction m with
 |zero=>intro a b _ _ h;omega
 |succ m ih=>
  intro a b hab hb hm h1 h2
  simp only[Ct]
  by_cases hlt:a<b
  ·have emid:w64 (Int.tdiv (w64 ((a:Int)+b)) 2)=(((a+b)/2:Nat):Int):=by
    rw[Bp (x:=(a:Int)+b) (by omega) (by omega),Int.tdiv_eq_ediv_of_nonneg (by omega),Bp (by omega) (by omega)];omega
   have hmid:(a+b)/2<list.length:=by omega
   rw[emid]
   have hless:=Ec (s:=list[(a+b)/2]) (t:=t) (by rw[hv _ (List.getElem_mem hmid)];omega) (by rw[hv _ (List.getElem_mem hmid),ht])
   simp only[AA,AC hmid,hless,Option.bind_some,Aw (show(a+b)/2<4611686018427387904 by omega)]
   by_cases hc:cmpL list[(a+b)/2] t<0
   ·obtain⟨c,e,k1,k2,k3⟩:=ih ((a+b)/2+1) b (by omega) hb (by omega) (λi h hi'=>by
     rcases Nat.lt_or_ge i ((a+b)/2)with h'|h'
     ·exact cmpL_trans (DO hi i ((a+b)/2) h' hmid) hc
     ·have:i=(a+b)/2:=by omega
      subst this;exact hc) h2
    exact⟨c,by simpa[hlt,hmid,hc]using e,k1,k2,k3⟩
   ·obtain⟨c,e,k1,k2,k3⟩:=ih a ((a+b)/2) (by omega) (by omega) (by omega) h1 (λi h hi' hneg=>by
     rcases Nat.lt_or_ge ((a+b)/2) i with h'|h'
     ·exact hc (cmpL_trans (DO hi ((a+b)/2) i h' h) hneg)
     ·have:i=(a+b)/2:=by omega
      subst this;exact hc hneg)
    exact⟨c,by simpa[hlt,hmid,hc]using e,k1,k2,k3⟩
  ·have:a=b:=by omega
   subst this
   exact⟨a,by simp,hb,h1,h2⟩
theorem Dy {list:List (List Int)} {t:List Int} {k:Nat} (hl:list.length<=1099511627774) (hk:k<=1099511627775) (hv: ∀u∈list,u.length=k) (ht:t.length=k) (hi:CT list=true):
  ∃c:Nat,Dn list t=some ((c:Int),decide (t∈list))/\c<=list.length/\(∀i (h:i<list.length),i<c->cmpL list[i] t<0)/\(∀i (h:i<list.length),c<=i-> ¬cmpL list[i] t<0):=by
 obtain⟨c,e,k1,k2,k3⟩:=HZ (by omega) hk hv ht hi Ad 0 list.length (Nat.zero_le _) (Nat.le_refl _) (by unfold Ad;omega) (λi _ h=>by omega) (λi h h'=>by omega)
 refine⟨c,?_,k1,k2,k3⟩
 unfold Dn
 have e':Ct Ad (list,t,0,(list.length:Int))=some (list,t,(c:Int)):=e
 rw[e']
 simp only[Option.bind_some]
 by_cases hc:c<list.length
 ·have hs:=Fg (a:=list[c]) (b:=t) (by rw[hv _ (List.getElem_mem hc)];omega)
  simp only[AA,AC hc,hs,Option.bind_some]
  have:decide (list[c]=t)=decide (t∈list):=by
   by_cases h:list[c]=t
   ·rw[decide_eq_true h,decide_eq_true (h▸List.getElem_mem hc)]
   ·rw[decide_eq_false h]
    symm;rw[decide_eq_false_iff_not]
    intro hm
    obtain⟨j,hj,rfl⟩:=List.mem_iff_getElem.1 hm
    have hne:j≠c:=λe=>h (by subst e;rfl)
    rcases Nat.lt_or_ge j c with hlt|hge
    ·have:=k2 j hj hlt;rw[cmpL_refl]at this;omega
    ·exact k3 c hc (Nat.le_refl _) (DO hi c j (by omega) hj)
  simp[hc,this]
 ·have:decide (t∈list)=false:=by
   rw[decide_eq_false_iff_not]
   intro hm
   obtain⟨j,hj,rfl⟩:=List.mem_iff_getElem.1 hm
   have:=k2 j hj (by omega);rw[cmpL_refl]at this;omega
  rw[if_neg (by simp;omega),this]
end T
open Go Go.Va
namespace T
def Gl (n:Int):Bool:=decide (1<=n/\n<=8)
theorem Fh (n:Int):Ed n=some (Gl n):=by
 unfold Ed Gl
 rw[Ch];simp
def Jj (n k:Int) (t:List Int):Bool:=decide ((t.length:Int)=k)&&Bf n t
def IM (n k:Int) (ts:List (List Int)):Bool:=Gl n&&decide (1<=k/\k<=4)&&ts.all (Jj n k)&&CT ts
end T
open Go Go.Va
namespace T
section
variable {p:Int} {k:Nat} {ts:List (List Int)}
theorem Fy (n:Int): ∀(l:List Int) (i a:Int),Ew n i (l++ [a])=Ew n i l*n+a
 | [],i,a=>by simp[Ew]
 |b::l,i,a=>by simp only[List.cons_append,Ew];exact Fy n l _ _
end
end T
set_option linter.unusedVariables false
open Go Go.Va
namespace T
def B7:Nat->(Int×(Int×(List (List Int)))×Int)->Option ((Unit)⊕(Bool))
 |0,_=>none
 |n+1,(n_,r,i)=>
 if decide (i<(r.2.length:Int))then
 if inb i r.2 then
 (DS n_ r.1 (gd r.2 i [])).bind λr3=>
 if !r3 then
 some (.inr false)
 else
 if decide (i>0)then
 if inb (w64 (i-1)) r.2 then
 if inb i r.2 then
 (Eb (gd r.2 (w64 (i-1)) []) (gd r.2 i [])).bind λr4=>
 if !r4 then
 some (.inr false)
 else
 B7 n (n_,(r.1,r.2),w64 (i+1))
 else none
 else none
 else
 B7 n (n_,(r.1,r.2),w64 (i+1))
 else none
 else
 some (.inl ())
def DP (n_:Int) (r:Int×(List (List Int))):Option (Bool):=
 (CH r.1 1 3).bind λr1=>
  if !r1 then
   some false
  else
   (CP n_ r.1).bind λr2=>
    if decide ((r.2.length:Int)>r2)then
     some false
    else
     (B7 Ad (n_,(r.1,r.2),0)).bind λs3=>
      match s3 with
      | .inl s4=>
       some true
      | .inr s5=>
       some s5
def Dw (vars:Int) (size:Int) (c:(List Int)×Int×(List (List Int))):Option (Bool):=
 (DP size (c.2.1,c.2.2)).bind λr1=>
 if r1 then
 if(c.1.length:Int)==c.2.1 then
 (Cc vars c.1).bind λr2=>
 some r2
 else
 some false
 else
 some false
def CE:Nat->((Int×Int×(List ((List Int)×Int×(List (List Int)))))×Int)->Option ((Unit)⊕(Bool))
 |0,_=>none
 |n+1,(net,i)=>
 if decide (i<(net.2.2.length:Int))then
 if inb i net.2.2 then
 (Dw net.1 net.2.1 (gd net.2.2 i ([],(0,[])))).bind λr3=>
 if !r3 then
 some (.inr false)
 else
 CE n ((net.1,(net.2.1,net.2.2)),w64 (i+1))
 else none
 else
 some (.inl ())
def BZ (net:Int×Int×(List ((List Int)×Int×(List (List Int))))):Option (Bool):=
 (CH net.1 0 9).bind λr1=>
  if !r1 then
   some false
  else
   (CH net.2.1 1 4).bind λr2=>
    if !r2 then
     some false
    else
     if decide ((net.2.2.length:Int)>40)then
      some false
     else
      (CE Ad ((net.1,(net.2.1,net.2.2)),0)).bind λs3=>
       match s3 with
       | .inl s4=>
        some true
       | .inr s5=>
        some s5
def Ci (l:List Int):Option ((List Int)):=
 if([]:List Int).length+l.length<=lim then
 some ([]++l)
 else none
def Dr (n_:Int):Option (Bool):=
 if decide (n_≥1)then
 some (decide (n_<=4))
 else
 some false
def BM:Nat->(Int×(Int×(List (List Int)))×(List (List Int))×Int×Int)->Option ((Unit)⊕(Bool))
 |0,_=>none
 |n+1,(n_,r,t16,t17,t18)=>
 if decide (t18<t17)then
 if inb t18 t16 then
 if((gd t16 t18 []).length:Int) !=r.1 then
 some (.inr false)
 else
 (C6 (gd t16 t18 []) n_).bind λr1=>
 if !r1 then
 some (.inr false)
 else
 if decide (t18>0)then
 if inb (w64 (t18-1)) r.2 then
 (DC (gd r.2 (w64 (t18-1)) []) (gd t16 t18 [])).bind λr2=>
 if decide (r2≥0)then
 some (.inr false)
 else
 BM n (n_,(r.1,r.2),t16,t17,w64 (t18+1))
 else none
 else
 BM n (n_,(r.1,r.2),t16,t17,w64 (t18+1))
 else none
 else
 some (.inl ())
def Do (n_:Int) (r:Int×(List (List Int))):Option (Bool):=
 if decide (r.1<1)then
  some false
 else
  if decide (r.1>3)then
   some false
  else
   (BM Ad (n_,(r.1,r.2),r.2,(r.2.length:Int),0)).bind λs1=>
    match s1 with
    | .inl s2=>
     some true
    | .inr s3=>
     some s3
def Cg (vars:Int) (size:Int) (c:(List Int)×Int×(List (List Int))):Option (Bool):=
 (Do size (c.2.1,c.2.2)).bind λr1=>
 if r1 then
 if(c.1.length:Int)==c.2.1 then
 (C6 c.1 vars).bind λr2=>
 some r2
 else
 some false
 else
 some false
def Ce:Nat->((Int×Int×(List ((List Int)×Int×(List (List Int)))))×(List ((List Int)×Int×(List (List Int))))×Int×Int)->Option ((Unit)⊕(Bool))
 |0,_=>none
 |n+1,(net,t26,t27,t28)=>
 if decide (t28<t27)then
 if inb t28 t26 then
 (Cg net.1 net.2.1 ((gd t26 t28 ([],(0,[]))).1,(((gd t26 t28 ([],(0,[]))).2).1,((gd t26 t28 ([],(0,[]))).2).2))).bind λr2=>
 if !r2 then
 some (.inr false)
 else
 Ce n ((net.1,(net.2.1,net.2.2)),t26,t27,w64 (t28+1))
 else none
 else
 some (.inl ())
def BA (net:Int×Int×(List ((List Int)×Int×(List (List Int))))):Option (Bool):=
 if decide (net.1<0)then
  some false
 else
  if decide (net.1>9)then
   some false
  else
   (Dr net.2.1).bind λr1=>
    if !r1 then
     some false
    else
     if decide ((net.2.2.length:Int)>40)then
      some false
     else
      (Ce Ad ((net.1,(net.2.1,net.2.2)),net.2.2,(net.2.2.length:Int),0)).bind λs2=>
       match s2 with
       | .inl s3=>
        some true
       | .inr s4=>
        some s4
end T
open Go Go.Va
namespace T
abbrev Con:=List Int×Int×List (List Int)
abbrev Net:=Int×Int×List Con
def HN (a:List (List Int)):Prop:=a.length<=1048576/\ ∀r∈a,r.length<=1048576
def Gy (c:Con):Prop:=c.1.length<=1048576/\HN c.2.2
def Ey (a:Net):Prop:=a.2.2.length<=1048576/\ ∀c∈a.2.2,Gy c
def Fm (n:Int) (r:Int×List (List Int)):Bool:=decide (1<=r.1/\r.1<=3)&&(r.2.all λt=>decide ((t.length:Int)=r.1)&&Bf n t)&&CT r.2
def Fi (n:Int) (r:Int×List (List Int)) (k:Nat):Bool:=decide (((r.2.getD k []).length:Int)=r.1)&&Bf n (r.2.getD k [])&&(decide (k=0)||decide (cmpL (r.2.getD (k-1) []) (r.2.getD k [])<0))
theorem AF {α:Type} {l:List α} {k:Nat} {d:α} (h:k<l.length):l.getD k d=l[k]:=by simp[List.getD_eq_getElem?_getD,h]
theorem FH {n ar:Int} {ts:List (List Int)}:(List.range ts.length).all (Fi n (ar,ts))=((ts.all λt=>decide ((t.length:Int)=ar)&&Bf n t)&&CT ts):=by
 rw[Bool.eq_iff_iff,Bool.and_eq_true,List.all_eq_true,List.all_eq_true,Gc]
 unfold Fi
 constructor
 ·intro h
  refine⟨λt ht=>?_,λi hi=>?_⟩
  ·obtain⟨k,hk,rfl⟩:=List.getElem_of_mem ht
   have:=h k (List.mem_range.2 hk)
   rw[AF hk]at this
   simp only[Bool.and_eq_true]at this
   rw[Bool.and_eq_true];exact this.1
  ·have:=h (i+1) (List.mem_range.2 hi)
   rw[AF hi,Nat.add_sub_cancel,AF (show i<ts.length by omega)]at this
   simp at this
   exact this.2
 ·rintro ⟨h1,h2⟩ k hk
  have hk:=List.mem_range.1 hk
  have e:=h1 _ (List.getElem_mem hk)
  rw[AF hk]
  rw[Bool.and_eq_true]at e
  rw[Bool.and_eq_true,Bool.and_eq_true]
  refine⟨e,?_⟩
  cases k with
  |zero=>simp
  |succ i=>
   have:=h2 i hk
   rw[Nat.add_sub_cancel,AF (show i<ts.length by omega)]
   simp[this]
theorem Em {n:Int} {r:Int×List (List Int)} (h:HN r.2):Do n r=some (Fm n r):=by
 obtain⟨ar,ts⟩:=r
 unfold Do Fm
 by_cases h1:ar<1
 ·simp[h1,show¬1<=ar by omega]
 ·by_cases h2:ar>3
  ·simp[h1,h2,show¬ar<=3 by omega]
  ·rw[if_neg (by simpa using h1),if_neg (by simpa using h2)]
   have key:=H4 ts.length (λm (_:Unit) i=>BM m (n,(ar,ts),ts,(ts.length:Int),i)) (λ_=>()) (Fi n (ar,ts)) (r:=some (.inr false)) (e:=some (.inl ())) (λm k hk=>?_) (λm=>?_) (n:=Ad) (by unfold Ad;have:=h.1;simp at this;omega)
   ·rw[key,FH]
    simp only[show(1<=ar/\ar<=3)=True by simp;omega,decide_true,Bool.true_and]
    cases (ts.all λt=>decide ((t.length:Int)=ar)&&Bf n t)&&CT ts<;>simp
   ·have hx:=h.2 ts[k] (List.getElem_mem hk)
    have hk':=h.1
    simp only at hk'
    simp only[BM,AA,AC hk,Aw (show k<4611686018427387904 by omega),C9 n (show ts[k].length<=1099511627775 by omega),Fi,AF hk]
    by_cases hl:(ts[k].length:Int)=ar
    ·cases hb:Bf n ts[k]with
     |false=>simp[hk,hl]
     |true=>
      cases k with
      |zero=>simp[hk,hl]
      |succ i=>
       have hi:i<ts.length:=by omega
       have hx2:=h.2 ts[i] (List.getElem_mem hi)
       have e:w64 (((i+1:Nat):Int)-1)=(i:Int):=by rw[Bp (by omega) (by omega)];omega
       simp only[e,AA,AC hi,Nat.add_sub_cancel,AF hi,D1 (show ts[i].length<=1099511627775 by omega)]
       by_cases hc:cmpL ts[i] ts[i+1]<0
       ·simp[hk,hl,hi,hc,show¬cmpL ts[i] ts[i+1]≥0 by omega];omega
       ·simp[hk,hl,hi,hc,show cmpL ts[i] ts[i+1]≥0 by omega];omega
    ·simp[hk,hl]
   ·simp[BM]
theorem EO {n:Int} {r:Int×List (List Int)} (h:HN r.2) (hn:1<=n/\n<=8):DP n r=some (Fm n r):=by
 obtain⟨ar,ts⟩:=r
 unfold DP Fm
 rw[Ch]
 by_cases h1:1<=ar/\ar<=3
 ·simp only[h1,and_self,decide_true,Option.bind_some,Bool.not_true,Bool.false_eq_true,if_false,Bool.true_and]
  obtain⟨m,rfl⟩: ∃m:Nat,ar=m:=⟨ar.toNat,by omega⟩
  rw[Ek (by omega) (by omega) (by omega)]
  simp only[Option.bind_some]
  have key:=Jh ts.length (λm' (_:Unit) i=>B7 m' (n,((m:Int),ts),i)) (λ_=>()) (Fi n ((m:Int),ts)) (r:=some (.inr false)) (e:=some (.inl ())) (λm' k hk hb0=>?_) (λm' _=>?_) (n:=Ad) (by unfold Ad;have:=h.1;simp at this;omega)
  ·by_cases hc:(ts.length:Int)>n^m
   ·rw[if_pos (by simpa using hc)]
    by_cases hv:((ts.all λt=>decide ((t.length:Int)=m)&&Bf n t)&&CT ts)=true
    ·rw[Bool.and_eq_true,List.all_eq_true]at hv
     rcases EG (k:=m) hv.2 λt ht=>by have:=hv.1 t ht;simp at this;exact⟨by omega,this.2⟩with h2|h2
     ·omega
     ·subst h2
      have:=HL (n:=n) (by omega) (by omega) (k:=m) (by omega)
      simp at hc;omega
    ·simp only[Bool.not_eq_true]at hv;rw[hv]
   ·rw[if_neg (by simpa using hc),key,FH]
    cases (ts.all λt=>decide ((t.length:Int)=m)&&Bf n t)&&CT ts<;>simp
  ·have hx:=h.2 ts[k] (List.getElem_mem hk)
   have hk':=h.1
   simp only at hk'
   simp only[B7,AA,AC hk,Aw (show k<4611686018427387904 by omega),ER (n:=n) _ (by omega) (by omega) (show ts[k].length<=1099511627775 by omega),Fi,AF hk]
   by_cases hl:(ts[k].length:Int)=m
   ·cases hb:Bf n ts[k]with
    |false=>simp[hk,hl]
    |true=>
     cases k with
     |zero=>simp[hk,hl]
     |succ i=>
      have hi:i<ts.length:=by omega
      have hx2:=h.2 ts[i] (List.getElem_mem hi)
      have e:w64 (((i+1:Nat):Int)-1)=(i:Int):=by rw[Bp (by omega) (by omega)];omega
      simp only[e,AA,AC hi,Nat.add_sub_cancel,AF hi]
      have hb1:=hb0 i (by omega)
      simp only[Fi,AF hi,Bool.and_eq_true,decide_eq_true_eq]at hb1
      rw[Ec (s:=ts[i]) (t:=ts[i+1]) (by omega) (by have:=hb1.1.1;omega)]
      by_cases hc:cmpL ts[i] ts[i+1]<0
      ·simp[hk,hl,hi,hc];omega
      ·simp[hk,hl,hi,hc];omega
   ·simp[hk,hl]
  ·simp[B7]
 ·have: ¬(1<=ar/\ar<=3):=h1
  simp[this]
end T
open Go Go.Va
namespace T
def DM (v n:Int) (c:Con):Bool:=Fm n (c.2.1,c.2.2)&&decide ((c.1.length:Int)=c.2.1)&&Bf v c.1
def B2 (a:Net):Bool:=decide (0<=a.1/\a.1<=9)&&decide (1<=a.2.1/\a.2.1<=4)&&decide (a.2.2.length<=40)&&a.2.2.all (DM a.1 a.2.1)
theorem Dj {v n:Int} {c:Con} (h:Gy c):Cg v n c=some (DM v n c):=by
 unfold Cg DM
 rw[Em (r:=(c.2.1,c.2.2)) h.2]
 cases Fm n (c.2.1,c.2.2)with
 |false=>simp
 |true=>
  by_cases hl:(c.1.length:Int)=c.2.1
  ·simp[hl,C9 v (show c.1.length<=1099511627775 by have:=h.1;omega)]
  ·simp[hl]
theorem Ej {v n:Int} {c:Con} (h:Gy c) (hv:0<=v/\v<=9) (hn:1<=n/\n<=8):Dw v n c=some (DM v n c):=by
 unfold Dw DM
 rw[EO (r:=(c.2.1,c.2.2)) h.2 hn]
 cases Fm n (c.2.1,c.2.2)with
 |false=>simp
 |true=>
  by_cases hl:(c.1.length:Int)=c.2.1
  ·simp[hl,Cz (l:=c.1) (n:=v) (by omega) (by omega) (show c.1.length<=1099511627775 by have:=h.1;omega)]
  ·simp[hl]
theorem Bs {a:Net} (h:Ey a):BA a=some (B2 a):=by
 obtain⟨v,n,cs⟩:=a
 unfold BA B2
 by_cases h1:v<0
 ·simp[h1,show¬0<=v by omega]
 ·by_cases h2:v>9
  ·simp[h1,h2,show¬v<=9 by omega]
  ·rw[if_neg (by simpa using h1),if_neg (by simpa using h2)]
   unfold Dr
   by_cases h3:1<=n/\n<=4
   ·by_cases h4:cs.length>40
    ·simp[h3,show¬cs.length<=40 by omega];omega
    ·have key:=Gu cs (λm i=>Ce m ((v,(n,cs)),cs,(cs.length:Int),i)) (DM v n) (.inr false) (.inl ()) ?_ ?_ (n:=Ad) (by unfold Ad;omega)
     ·simp only[h3,ge_iff_le,decide_true,if_true,Option.bind_some,Bool.not_true,Bool.false_eq_true,if_false]
      rw[if_neg (by simp;omega),key]
      cases cs.all (DM v n)<;>simp<;>omega
     ·intro m k hk
      simp only[Ce,AA,AC hk,Aw (show k<4611686018427387904 by omega),Dj (c:=cs[k]) (h.2 _ (List.getElem_mem hk))]
      cases hb:DM v n cs[k]<;>simp[hk,hb]
     ·intro m
      simp[Ce]
   ·by_cases h5:n≥1
    ·simp[h5,show¬n<=4 by omega]
    ·simp[h5,show¬1<=n by omega]
theorem BH {a:Net} (h:Ey a):BZ a=some (B2 a):=by
 obtain⟨v,n,cs⟩:=a
 unfold BZ B2
 rw[Ch,Ch]
 by_cases h1:0<=v/\v<=9
 ·by_cases h3:1<=n/\n<=4
  ·by_cases h4:cs.length>40
   ·simp[h1,h3,show¬cs.length<=40 by omega];omega
   ·have key:=Gu cs (λm i=>CE m ((v,(n,cs)),i)) (DM v n) (.inr false) (.inl ()) ?_ ?_ (n:=Ad) (by unfold Ad;omega)
    ·simp only[h1,h3,and_self,decide_true,Option.bind_some,Bool.not_true,Bool.false_eq_true,if_false]
     rw[if_neg (by simp;omega),key]
     cases cs.all (DM v n)<;>simp<;>omega
    ·intro m k hk
     simp only[CE,AA,AC hk,Aw (show k<4611686018427387904 by omega),Ej (c:=cs[k]) (h.2 _ (List.getElem_mem hk)) h1 (show 1<=n/\n<=8 by omega)]
     cases hb:DM v n cs[k]<;>simp[hk,hb]
    ·intro m
     simp[CE]
  ·simp[h1,h3]
 ·simp[h1]
structure ConOk (v n:Int) (c:Con):Prop where
 ar:1<=c.2.1/\c.2.1<=3
 sl:(c.1.length:Int)=c.2.1
 sv: ∀(i:Nat) (hi:i<c.1.length),0<=c.1[i]/\c.1[i]<v
 tl: ∀t∈c.2.2,t.length=c.1.length
 tv: ∀t∈c.2.2,∀(i:Nat) (hi:i<t.length),0<=t[i]/\t[i]<n
 inc:CT c.2.2=true
 many:c.2.2.length<=64
structure NetOk (a:Net):Prop where
 hv:0<=a.1/\a.1<=9
 hn:1<=a.2.1/\a.2.1<=4
 hc:a.2.2.length<=40
 con: ∀c∈a.2.2,ConOk a.1 a.2.1 c
theorem Gz {v n:Int} {c:Con} (hn:1<=n/\n<=4) (h:DM v n c=true):ConOk v n c:=by
 unfold DM Fm at h
 simp only[Bool.and_eq_true,decide_eq_true_eq,List.all_eq_true]at h
 obtain⟨⟨⟨⟨h1,h2⟩,h3⟩,h4⟩,h5⟩:=h
 refine⟨h1,h4,λi hi=>EX h5 i hi,λt ht=>by have:=(h2 t ht).1;omega,λt ht i hi=>EX (h2 t ht).2 i hi,h3,?_⟩
 rcases EG (n:=n) (k:=c.2.1.toNat) h3 λt ht=>⟨by have:=(h2 t ht).1;omega,(h2 t ht).2⟩with h6|h6
 ·have:n^c.2.1.toNat<=64:=by
   have h7:c.2.1.toNat=1∨c.2.1.toNat=2∨c.2.1.toNat=3:=by omega
   have h8:n=1∨n=2∨n=3∨n=4:=by omega
   rcases h7 with h7|h7|h7<;>rcases h8 with h8|h8|h8|h8<;>rw[h7,h8]<;>decide
  omega
 ·rw[h6];simp
theorem EH {a:Net} (h:B2 a=true):NetOk a:=by
 unfold B2 at h
 simp only[Bool.and_eq_true,decide_eq_true_eq,List.all_eq_true]at h
 obtain⟨⟨⟨h1,h2⟩,h3⟩,h4⟩:=h
 exact⟨h1,h2,h3,λc hc=>Gz h2 (h4 c hc)⟩
end T
open Go Go.Va
namespace T
def g0 (l:List Int) (i:Nat):Int:=l.getD i 0
section
variable {v n up:Int} {c:Con} {vals:List Int}
theorem DI {l:List Int} (h:l.length<=1099511627775):Ci l=some l:=by
 unfold Ci
 rw[if_pos (by unfold lim;simp;omega)];simp
end
end T
open Go Go.Va
namespace T
def G5:Con:=([],0,[])
section
variable {a:Net} {steps:List Int}
end
end T
open Go Go.Va
namespace T
abbrev Dom:=List (List Bool)
def mk (bs:List Bool):List Int:=((List.range bs.length).filter λi=>bs.getD i false).map λi:Nat=>(i:Int)
def d2 (d:Dom) (v x:Nat):Bool:=(d.getD v []).getD x false
theorem A7 {α:Type} {l:List α} {i j:Nat} {y d:α}:(l.set i y).getD j d=if i=j/\j<l.length then y else l.getD j d:=by
 simp only[List.getD_eq_getElem?_getD,List.getElem?_set]
 by_cases h:i=j
 ·subst h
  by_cases h2:i<l.length
  ·simp[h2]
  ·simp[h2]
 ·simp[h]
end T
open Go Go.Va
namespace T
abbrev ASt:=Dom×List (Int×Int×Int)
section
variable {a:Net} {K:Nat} {c:Con}
end
end T
open Go Go.Va
namespace T
theorem w1:w64 1=1:=by rw[EU];rfl
theorem w2:w64 2=2:=by rw[EU];rfl
section
variable {a:Net}
end
end T
open Go Go.Va
namespace T
abbrev Opn:=Int×List Int
section
variable {n:Int} {f:Opn}
variable {a:Net}
end
end T
set_option linter.unusedVariables false
open Go Go.Va
namespace T
def C7 (r:Int×(List (List Int))) (t:List Int):Option (Bool):=
 if(t.length:Int) !=r.1 then
 some false
 else
 (Dn r.2 t).bind λr1=>
 some r1.2
def BQ:Nat->((List Int)×((List Int)×Int×(List (List Int)))×(List Int)×Int)->Option (((List Int)×Int×(List (List Int)))×(List Int))
 |0,_=>none
 |n+1,(values,c,t,i)=>
 if decide (i<(c.1.length:Int))then
 if inb i c.1 then
 if inb (gd c.1 i 0) values then
 if t.length+ [gd values (gd c.1 i 0) 0].length<=lim then
 BQ n (values,(c.1,(c.2.1,c.2.2)),t++ [gd values (gd c.1 i 0) 0],w64 (i+1))
 else none
 else none
 else none
 else
 some ((c.1,(c.2.1,c.2.2)),t)
def CJ (c:(List Int)×Int×(List (List Int))) (values:List Int):Option (Bool):=
 (BQ Ad (values,(c.1,(c.2.1,c.2.2)),[],0)).bind λs1=>
 (C7 (s1.1.2.1,s1.1.2.2) s1.2).bind λr2=>
 some r2
def CC:Nat->((List Int)×(List Int)×(List Int)×Int×Int)->Option ((List Int))
 |0,_=>none
 |n+1,(g,h,t11,t12,t13)=>
 if decide (t13<t12)then
 if inb t13 t11 then
 if inb (gd t11 t13 0) g then
 if inb t13 h then
 CC n (g,stt h t13 (gd g (gd t11 t13 0) 0),t11,t12,w64 (t13+1))
 else none
 else none
 else none
 else
 some h
def Bi (f:List Int) (g:List Int):Option ((List Int)):=
 if 0<=(f.length:Int)/\(f.length:Int)<=(f.length:Int)/\(f.length:Int)<=lim then
 (CC Ad (g,List.replicate (Int.toNat (f.length:Int)) (0:Int),f,(f.length:Int),0)).bind λs1=>
 some s1
 else none
def Cp:Nat->((List Int)×(List Int)×Int×Int)->Option ((Unit)⊕(Bool))
 |0,_=>none
 |n+1,(b,t12,t13,t14)=>
 if decide (t14<t13)then
 if inb t14 t12 then
 if inb t14 b then
 if(gd b t14 0) !=(gd t12 t14 0)then
 some (.inr false)
 else
 Cp n (b,t12,t13,w64 (t14+1))
 else none
 else none
 else
 some (.inl ())
def DG (a:List Int) (b:List Int):Option (Bool):=
 if(a.length:Int) !=(b.length:Int)then
  some false
 else
  (Cp Ad (b,a,(a.length:Int),0)).bind λs1=>
   match s1 with
   | .inl s2=>
    some true
   | .inr s3=>
    some s3
def CK:Nat->((List Int)×(List (List Int))×Int×Int)->Option ((Unit)⊕(Bool))
 |0,_=>none
 |n+1,(t,t8,t9,t10)=>
 if decide (t10<t9)then
 if inb t10 t8 then
 (DG t (gd t8 t10 [])).bind λr1=>
 if r1 then
 some (.inr true)
 else
 CK n (t,t8,t9,w64 (t10+1))
 else none
 else
 some (.inl ())
def Di (r:Int×(List (List Int))) (t:List Int):Option (Bool):=
 (CK Ad (t,r.2,(r.2.length:Int),0)).bind λs1=>
  match s1 with
  | .inl s2=>
   some false
  | .inr s3=>
   some s3
end T
open Go Go.Va
namespace T
def CY (vs:List Int) (v:Int):Int:=vs.getD v.toNat 0
def Cn (vs:List Int) (c:Con):Bool:=decide (c.1.map (CY vs)∈c.2.2)
def I8 (l:List Con) (vs:List Int):Bool:=l.all (Cn vs)
def Ji (vars:List Int) (c:Con):Bool:=c.1.all λv=>decide (v∈vars)
def I2 (a:Net) (vars:List Int):List Con:=a.2.2.filter (Ji vars)
section
variable {a:Net}
theorem C2 {f g:List Int} (hf:f.length<=1048576) (hg: ∀v∈f,0<=v/\v<g.length):Bi f g=some (f.map (CY g)):=by
 unfold Bi
 rw[if_pos (by unfold lim;omega)]
 have:=IC f (λn o i=>CC n (g,o,f,(f.length:Int),i)) (CY g) some (λn o k hk hlo=>?_) (λn o hlo=>?_) (n:=Ad) (out:=List.replicate (Int.toNat (f.length:Int)) (0:Int)) (by simp) (by unfold Ad;omega)
 ·simp only[this,Option.bind_some]
 ·have hko:k<o.length:=by omega
  have hv:=hg _ (List.getElem_mem hk)
  have e:gd g f[k] 0=CY g f[k]:=rfl
  simp only[CC,AA,AC hk,DD,Aw (show k<4611686018427387904 by omega),e]
  rw[if_pos (by simp;omega),if_pos hk,if_pos (show inb f[k] g from hv),if_pos hko]
 ·simp[CC]
theorem EE {x y:List Int} (h:x.length<=1048576):DG x y=some (decide (x=y)):=by
 unfold DG
 by_cases hl:x.length=y.length
 ·rw[if_neg (by simp[hl])]
  rw[eqX x y hl (λn i=>Cp n (y,x,(x.length:Int),i)) (λn k h1 h2=>?_) (λn=>?_) (n:=Ad) (by unfold Ad;omega)]
  ·by_cases e:x=y<;>simp[e]
  ·simp only[Cp,AA,AC h1,AC h2,Aw (show k<4611686018427387904 by omega)]
   by_cases e:x[k]=y[k]
   ·simp[h1,h2,e]
   ·have e':y[k]≠x[k]:=λh=>e h.symm
    simp[h1,h2,e,e']
  ·simp[Cp]
 ·have:x≠y:=λe=>hl (by rw[e])
  rw[if_pos (by simp;omega)];simp[this]
theorem D2 {r:Int×List (List Int)} {t:List Int} (ht:t.length<=1048576) (hr:r.2.length<=1048576):Di r t=some (decide (t∈r.2)):=by
 unfold Di
 rw[Gu r.2 (λn i=>CK n (t,r.2,(r.2.length:Int),i)) (λy=>!decide (t=y)) (.inr true) (.inl ()) ?_ ?_ (by unfold Ad;omega)]
 ·by_cases hx:t∈r.2
  ·rw[if_neg]
   ·simp[hx]
   ·rw[List.all_eq_true];intro h;have:=h t hx;simp at this
  ·rw[if_pos]
   ·simp[hx]
   ·rw[List.all_eq_true];intro y hy;have:t≠y:=λe=>hx (e▸hy)
    simp[this]
 ·intro n k hk
  simp only[CK,AA,AC hk,Aw (show k<4611686018427387904 by omega),EE ht,Option.bind_some]
  by_cases e:t=(r.2)[k]<;>simp[hk,e]
 ·intro n;simp[CK]
theorem Dl {v n:Int} {c:Con} (h:ConOk v n c) {vs:List Int} (hv:(vs.length:Int)=v):CJ c vs=some (Cn vs c):=by
 unfold CJ
 have hsl:=h.sl
 have har:=h.ar
 have hm:=h.many
 have:=D0 c.1.length (λn (o:List Int) i=>BQ n (vs,(c.1,(c.2.1,c.2.2)),o,i)) (λk=>(c.1.take k).map (CY vs)) (r:=some ((c.1,(c.2.1,c.2.2)),c.1.map (CY vs))) (λn k hk=>?_) (λn=>?_) (n:=Ad) (by unfold Ad;omega)
 ·simp only[List.take_zero,List.map_nil]at this
  simp only[this,Option.bind_some]
  unfold C7
  have hl:((c.1.map (CY vs)).length:Int)=c.2.1:=by rw[List.length_map];exact hsl
  rw[if_neg (by simpa using hsl)]
  obtain⟨q,e,_⟩:=Dy (list:=c.2.2) (t:=c.1.map (CY vs)) (k:=c.1.length) (by omega) (by omega) h.tl (by simp) h.inc
  simp only[e,Option.bind_some];rfl
 ·have hvk:=h.sv k hk
  have e:gd vs c.1[k] 0=CY vs c.1[k]:=rfl
  have hi:inb c.1[k] vs:=by unfold inb;omega
  simp only[BQ,AA,AC hk,e,Aw (show k<4611686018427387904 by omega)]
  rw[List.take_succ_eq_append_getElem hk,List.map_append]
  rw[if_pos (by simp;omega),if_pos hk,if_pos hi,if_pos (by unfold lim;simp;omega)];rfl
 ·simp only[BQ,List.take_length]
  rw[if_neg (by simp)]
end
end T
open Go Go.Va
namespace T
abbrev T3:=List (List (List Bool))
abbrev T4:=List (List (List (List Bool)))
def Ir (s:Nat) (c:List (List Bool)):Prop:=c.length=s/\ ∀x,x<s->(c.getD x []).length=s
def IU (n s:Nat) (r:T3):Prop:=r.length=n/\ ∀j,j<n->Ir s (r.getD j [])
def Ok4 (n s:Nat) (t:T4):Prop:=t.length=n/\ ∀i,i<n->IU n s (t.getD i [])
def r4 (t:T4) (i j x y:Nat):Bool:=(((t.getD i []).getD j []).getD x []).getD y false
def s4 (t:T4) (i j x y:Nat) (b:Bool):T4:=t.set i ((t.getD i []).set j (((t.getD i []).getD j []).set x ((((t.getD i []).getD j []).getD x []).set y b)))
def Ok3 (n m:Nat) (u:T3):Prop:=u.length=n/\ ∀i,i<n->(u.getD i []).length=n/\ ∀j,j<n->((u.getD i []).getD j []).length=m
def r3 (u:T3) (i j p:Nat):Bool:=((u.getD i []).getD j []).getD p false
def s3 (u:T3) (i j p:Nat) (b:Bool):T3:=u.set i ((u.getD i []).set j (((u.getD i []).getD j []).set p b))
section
variable {n s m:Nat} {t:T4} {u:T3}
theorem Ok4.at (h:Ok4 n s t) {i j x:Nat} (hi:i<n) (hj:j<n) (hx:x<s):i<t.length/\j<(t.getD i []).length/\x<((t.getD i []).getD j []).length/\(((t.getD i []).getD j []).getD x []).length=s:=
 ⟨by rw[h.1];exact hi,by rw[(h.2 i hi).1];exact hj,by rw[((h.2 i hi).2 j hj).1];exact hx,((h.2 i hi).2 j hj).2 x hx⟩
theorem Ok3.at (h:Ok3 n m u) {i j:Nat} (hi:i<n) (hj:j<n):i<u.length/\j<(u.getD i []).length/\((u.getD i []).getD j []).length=m:=
 ⟨by rw[h.1];exact hi,by rw[(h.2 i hi).1];exact hj,(h.2 i hi).2 j hj⟩
theorem GY (h:Ok4 n s t) {i j x y:Nat} {b:Bool}:Ok4 n s (s4 t i j x y b):=by
 unfold s4
 refine⟨by rw[List.length_set];exact h.1,λi' hi'=>?_⟩
 rw[A7]
 split
 ·rename_i hc
  obtain⟨rfl,_⟩:=hc
  have hr:=h.2 i hi'
  refine⟨by rw[List.length_set];exact hr.1,λj' hj'=>?_⟩
  rw[A7]
  split
  ·rename_i hc
   obtain⟨rfl,_⟩:=hc
   have hcl:=hr.2 j hj'
   refine⟨by rw[List.length_set];exact hcl.1,λx' hx'=>?_⟩
   rw[A7]
   split
   ·rename_i hc
    obtain⟨rfl,_⟩:=hc
    rw[List.length_set];exact hcl.2 x hx'
   ·exact hcl.2 x' hx'
  ·exact hr.2 j' hj'
 ·exact h.2 i' hi'
theorem I7 (h:Ok3 n m u) {i j p:Nat} {b:Bool}:Ok3 n m (s3 u i j p b):=by
 unfold s3
 refine⟨by rw[List.length_set];exact h.1,λi' hi'=>?_⟩
 rw[A7]
 split
 ·rename_i hc
  obtain⟨rfl,_⟩:=hc
  have hr:=h.2 i hi'
  refine⟨by rw[List.length_set];exact hr.1,λj' hj'=>?_⟩
  rw[A7]
  split
  ·rename_i hc
   obtain⟨rfl,_⟩:=hc
   rw[List.length_set];exact hr.2 j hj'
  ·exact hr.2 j' hj'
 ·exact h.2 i' hi'
theorem GX (h:Ok4 n s t) {i j x y:Nat} {b:Bool} (hi:i<n) (hj:j<n) (hx:x<s) (hy:y<s) (i' j' x' y':Nat):
  r4 (s4 t i j x y b) i' j' x' y'=if i=i'/\j=j'/\x=x'/\y=y' then b else r4 t i' j' x' y':=by
 obtain⟨h1,h2,h3,h4⟩:=h.at hi hj hx
 unfold r4 s4
 rw[A7]
 by_cases e1:i=i'
 ·subst e1
  rw[if_pos ⟨rfl,h1⟩,A7]
  by_cases e2:j=j'
  ·subst e2
   rw[if_pos ⟨rfl,h2⟩,A7]
   by_cases e3:x=x'
   ·subst e3
    rw[if_pos ⟨rfl,h3⟩,A7]
    by_cases e4:y=y'
    ·subst e4;rw[if_pos ⟨rfl,by omega⟩,if_pos ⟨rfl,rfl,rfl,rfl⟩]
    ·rw[if_neg (by omega),if_neg (by omega)]
   ·rw[if_neg (by omega),if_neg (by omega)]
  ·rw[if_neg (by omega),if_neg (by omega)]
 ·rw[if_neg (by omega),if_neg (by omega)]
theorem I6 (h:Ok3 n m u) {i j p:Nat} {b:Bool} (hi:i<n) (hj:j<n) (hp:p<m) (i' j' p':Nat):
  r3 (s3 u i j p b) i' j' p'=if i=i'/\j=j'/\p=p' then b else r3 u i' j' p':=by
 obtain⟨h1,h2,h3⟩:=h.at hi hj
 unfold r3 s3
 rw[A7]
 by_cases e1:i=i'
 ·subst e1
  rw[if_pos ⟨rfl,h1⟩,A7]
  by_cases e2:j=j'
  ·subst e2
   rw[if_pos ⟨rfl,h2⟩,A7]
   by_cases e3:p=p'
   ·subst e3;rw[if_pos ⟨rfl,by omega⟩,if_pos ⟨rfl,rfl,rfl⟩]
   ·rw[if_neg (by omega),if_neg (by omega)]
  ·rw[if_neg (by omega),if_neg (by omega)]
 ·rw[if_neg (by omega),if_neg (by omega)]
end
structure Rel34 (n s:Nat) (t:T4) (u:T3):Prop where
 o4:Ok4 n s t
 o3:Ok3 n (s*s) u
 eq: ∀i j x y,i<j->j<n->x<s->y<s->r4 t i j x y=r3 u i j (x*s+y)/\r4 t j i y x=r3 u i j (x*s+y)
theorem HV {s x y:Nat} (hx:x<s) (hy:y<s):x*s+y<s*s:=by
 have:(x+1)*s<=s*s:=Nat.mul_le_mul_right _ hx
 rw[Nat.succ_mul]at this;omega
theorem Hp {s x y x' y':Nat} (hy:y<s) (hy':y'<s) (h:x*s+y=x'*s+y'):x=x'/\y=y':=by
 have h1:(x*s+y)/s=x:=by rw[Nat.mul_comm,Nat.mul_add_div (by omega),Nat.div_eq_of_lt hy];omega
 have h2:(x'*s+y')/s=x':=by rw[Nat.mul_comm,Nat.mul_add_div (by omega),Nat.div_eq_of_lt hy'];omega
 have:x=x':=by rw[←h1,←h2,h]
 subst this
 exact⟨rfl,by omega⟩
theorem Rel34.drop {n s:Nat} {t:T4} {u:T3} (h:Rel34 n s t u) {i j x y:Nat} (hij:i<j) (hj:j<n) (hx:x<s) (hy:y<s):
  Rel34 n s (s4 (s4 t i j x y false) j i y x false) (s3 u i j (x*s+y) false):=by
 refine⟨GY (GY h.o4),I7 h.o3,λi' j' x' y' h1 h2 h3 h4=>?_⟩
 have hi:i<n:=by omega
 rw[GX (GY h.o4) hj hi hy hx,GX h.o4 hi hj hx hy,GX (GY h.o4) hj hi hy hx,GX h.o4 hi hj hx hy,I6 h.o3 hi hj (HV hx hy)]
 obtain⟨e1,e2⟩:=h.eq i' j' x' y' h1 h2 h3 h4
 by_cases e:i=i'/\j=j'/\x=x'/\y=y'
 ·obtain⟨rfl,rfl,rfl,rfl⟩:=e
  simp
 ·have e3: ¬(i=i'/\j=j'/\x*s+y=x'*s+y'):=λ⟨q1,q2,q3⟩=>by
   have:=Hp hy h4 q3
   exact e ⟨q1,q2,this.1,this.2⟩
  have e4: ¬(j=i'/\i=j'/\y=x'/\x=y'):=by omega
  have e5: ¬(i=j'/\j=i'/\x=y'/\y=x'):=by omega
  have e6: ¬(j=j'/\i=i'/\y=y'/\x=x'):=by omega
  simp only[if_neg e,if_neg e3,if_neg e4,if_neg e5,if_neg e6]
  exact⟨e1,e2⟩
end T
open Go Go.Va
namespace T
def V3 (n i j k x y z:Nat):List Int:=(((List.replicate n (0:Int)).set i (x:Int)).set j (y:Int)).set k (z:Int)
section
variable {a:Net} {n s:Nat} {t:T4} {u:T3}
def hP (a:Net) (n:Nat) (t:T4) (i j k x y z:Nat):Bool:=r4 t i k x z&&r4 t j k y z&&I8 (I2 a [(i:Int),(j:Int),(k:Int)]) (V3 n i j k x y z)
end
end T
open Go Go.Va
namespace T
section
variable {a:Net} {n s:Nat} {t:T4} {u:T3}
def V2 (n i j x y:Nat):List Int:=((List.replicate n (0:Int)).set i (x:Int)).set j (y:Int)
def fB (a:Net) (n i j x y:Nat):Bool:=I8 (I2 a [(i:Int),(j:Int)]) (V2 n i j x y)
end
end T
open Go Go.Va
namespace T
section
variable {a:Net} {n s:Nat} {t:T4} {u:T3}
def PA (n s i:Nat) (t:T4):Prop:=t.length=n/\ ∀i',i'<i->IU n s (t.getD i' [])
def PB (n s i j:Nat) (t:T4):Prop:=PA n s i t/\(t.getD i []).length=n/\ ∀j',j'<j->Ir s ((t.getD i []).getD j' [])
theorem PA.set {i:Nat} (h:PA n s i t) (r:T3):PA n s i (t.set i r):=by
 refine⟨by rw[List.length_set];exact h.1,λi' hi'=>?_⟩
 rw[A7,if_neg (by omega)];exact h.2 i' hi'
theorem PB.set {i j:Nat} (h:PB n s i j t) (hi:i<n) (c:List (List Bool)):PB n s i j (t.set i ((t.getD i []).set j c)):=by
 have hl:=h.1.1
 refine⟨h.1.set _,?_,λj' hj'=>?_⟩
 ·rw[A7,if_pos ⟨rfl,by omega⟩,List.length_set];exact h.2.1
 ·rw[A7,if_pos ⟨rfl,by omega⟩,A7,if_neg (by omega)];exact h.2.2 j' hj'
end
end T
open Go Go.Va
namespace T
section
variable {a:Net} {n s:Nat} {t:T4} {u:T3}
def cI (o:List Nat):List Int:=o.map λx:Nat=>(x:Int)
end
end T
set_option linter.unusedVariables false
open Go Go.Va
namespace T
def CF:Nat->((List Int)×(List Int)×Int×Int)->Option ((List Int))
 |0,_=>none
 |n+1,(b,t10,t11,t12)=>
 if decide (t12<t11)then
 if inb t12 t10 then
 if(0:Int)<=8 then
 if b.length+ [IntKind.wrap .u8 (YiD .i64 (gd t10 t12 0) 8),IntKind.wrap .u8 (gd t10 t12 0)].length<=lim then
 CF n (b++ [IntKind.wrap .u8 (YiD .i64 (gd t10 t12 0) 8),IntKind.wrap .u8 (gd t10 t12 0)],t10,t11,w64 (t12+1))
 else none
 else none
 else none
 else
 some b
def BX (list:List Int):Option (ByteArray):=
 if(0:Int)<=0/\(0:Int)<=(w64 (2*(list.length:Int)))/\(w64 (2*(list.length:Int)))<=lim then
 (CF Ad (List.replicate (Int.toNat 0) (0:Int),list,(list.length:Int),0)).bind λs1=>
 some (Ybp s1)
 else none
def Cq:Nat->((List ByteArray)×(List (List Int))×Int×Int)->Option ((List ByteArray))
 |0,_=>none
 |n+1,(set,t8,t9,t10)=>
 if decide (t10<t9)then
 if inb t10 t8 then
 (BX (gd t8 t10 [])).bind λr1=>
 Cq n (YhI set r1,t8,t9,w64 (t10+1))
 else none
 else
 some set
def DH (r:Int×(List (List Int))):Option ((List ByteArray)):=
 (Cq Ad ([],r.2,(r.2.length:Int),0)).bind λs1=>
 some s1
def B1:Nat->((List Int)×(Int×Int×(List ((List Int)×Int×(List (List Int)))))×Int)->Option ((Unit)⊕(Int))
 |0,_=>none
 |n+1,(values,net,i)=>
 if decide (i<(net.2.2.length:Int))then
 if inb i net.2.2 then
 (CJ (gd net.2.2 i ([],(0,[]))) values).bind λr1=>
 if !r1 then
 some (.inr i)
 else
 B1 n (values,(net.1,(net.2.1,net.2.2)),w64 (i+1))
 else none
 else
 some (.inl ())
def Dh (net:Int×Int×(List ((List Int)×Int×(List (List Int))))) (values:List Int):Option (Int):=
 (B1 Ad (values,(net.1,(net.2.1,net.2.2)),0)).bind λs1=>
  match s1 with
  | .inl s2=>
   some (-1)
  | .inr s3=>
   some s3
def BE:Nat->((List Int)×(List ((List Int)×Int×(List (List Int))))×Int×Int)->Option ((Unit)⊕(Int))
 |0,_=>none
 |n+1,(values,t8,t9,t10)=>
 if decide (t10<t9)then
 if inb t10 t8 then
 (Bi ((gd t8 t10 ([],(0,[]))).1) values).bind λr1=>
 (Di (((gd t8 t10 ([],(0,[]))).2).1,((gd t8 t10 ([],(0,[]))).2).2) r1).bind λr2=>
 if !r2 then
 some (.inr t10)
 else
 BE n (values,t8,t9,w64 (t10+1))
 else none
 else
 some (.inl ())
def CS (net:Int×Int×(List ((List Int)×Int×(List (List Int))))) (values:List Int):Option (Int):=
 (BE Ad (values,net.2.2,(net.2.2.length:Int),0)).bind λs1=>
  match s1 with
  | .inl s2=>
   some (-1)
  | .inr s3=>
   some s3
end T
open Go Go.Va
namespace T
def kb (l:List Int):List Int:=l.flatMap λx=> [0,x]
def E6 (l:List Int):ByteArray:=Ybp (kb l)
theorem Gs {x:Int} (h0:0<=x) (h1:x<256):IntKind.wrap .u8 x=x:=by
 simp[IntKind.wrap,IntKind.bits,IntKind.signed]
 omega
theorem Hh {x:Int} (h0:0<=x) (h1:x<256):YiD .i64 x 8=0:=by
 unfold YiD
 have:(min (8:Int).toNat IntKind.i64.bits)=8:=by decide
 rw[this,Int.fdiv_eq_ediv_of_nonneg _ (by decide)]
 have:(2:Int)^8=256:=by decide
 rw[this];omega
theorem DE {l:List Int} (hl:l.length<=1048576) (hv: ∀x∈l,0<=x/\x<256):BX l=some (E6 l):=by
 unfold BX
 have e2:w64 (2*(l.length:Int))=2*(l.length:Int):=Bp (by omega) (by omega)
 rw[e2,if_pos (by unfold lim;omega)]
 have kbl: ∀k,k<=l.length->(kb (l.take k)).length=2*k:=by
  intro k hk
  have: ∀l:List Int,(kb l).length=2*l.length:=by
   intro l
   induction l with
   |nil=>rfl
   |cons x l ih=>unfold kb at ih⊢;simp only[List.flatMap_cons,List.length_append,ih,List.length_cons,List.length_nil];omega
  rw[this];simp;omega
 have:=D0 l.length (λm o i=>CF m (o,l,(l.length:Int),i)) (λk=>kb (l.take k)) (r:=some (kb l)) (λm k hk=>?_) (λm=>?_) (n:=Ad) (by unfold Ad;omega)
 ·have e0:kb (l.take 0)= []:=rfl
  rw[e0]at this
  have:CF Ad (List.replicate (Int.toNat 0) (0:Int),l,(l.length:Int),0)=some (kb l):=this
  rw[this];rfl
 ·have hx:=hv _ (List.getElem_mem hk)
  have hlen:=kbl k (by omega)
  have e:kb (l.take (k+1))=kb (l.take k)++ [0,l[k]]:=by
   unfold kb;rw[List.take_succ_eq_append_getElem hk,List.flatMap_append];simp
  simp only[CF,AA,AC hk,Aw (show k<4611686018427387904 by omega),Gs hx.1 hx.2,Hh hx.1 hx.2,Gs (show(0:Int)<=0 by omega) (show(0:Int)<256 by omega),e]
  rw[if_pos (by simp;omega),if_pos hk,if_pos (by omega),if_pos (by unfold lim;simp;omega)]
 ·simp only[CF,List.take_length]
  rw[if_neg (by simp)]
theorem El: ∀(xs:List Int) (s:ByteArray),(xs.foldl (λs n=>s.push (UInt8.ofNat n.toNat)) s).data=s.data++(xs.map λn=>UInt8.ofNat n.toNat).toArray
 | [],s=>by simp
 |x::xs,s=>by
  rw[List.foldl_cons,El xs]
  apply Array.ext'
  simp[ByteArray.push]
theorem HA: ∀(l l':List Int),(∀x∈l,0<=x/\x<256)->(∀x∈l',0<=x/\x<256)->(kb l).map (λn=>UInt8.ofNat n.toNat)=(kb l').map (λn=>UInt8.ofNat n.toNat)->l=l'
 | [],[],_,_,_=>rfl
 | [],y::l',_,_,h=>by simp[kb]at h
 |x::l,[],_,_,h=>by simp[kb]at h
 |x::l,y::l',hv,hv',h=>by
  simp only[kb,List.flatMap_cons,List.map_append,List.map_cons,List.map_nil,List.cons_append,List.nil_append,List.cons.injEq,true_and]at h
  obtain⟨h1,h2⟩:=h
  have hx:=hv x (by simp)
  have hy:=hv' y (by simp)
  have h1:=congrArg UInt8.toNat h1
  simp only[UInt8.toNat_ofNat']at h1
  have:x=y:=by omega
  rw[this,HA l l' (λz hz=>hv z (List.mem_cons_of_mem _ hz)) (λz hz=>hv' z (List.mem_cons_of_mem _ hz)) h2]
theorem HB {l l':List Int} (hv: ∀x∈l,0<=x/\x<256) (hv': ∀x∈l',0<=x/\x<256) (h:E6 l=E6 l'):l=l':=by
 have h:=congrArg ByteArray.data h
 unfold E6 Ybp at h
 rw[El,El]at h
 have h:=congrArg Array.toList h
 simp only[Array.toList_append]at h
 exact HA l l' hv hv' (List.append_cancel_left h)
theorem Hm {a b:ByteArray}:(a==b)=decide (a=b):=by
 show(a.data==b.data)=_
 rw[Bool.eq_iff_iff,beq_iff_eq,decide_eq_true_eq]
 exact⟨λh=>ByteArray.ext h,λh=>congrArg ByteArray.data h⟩
theorem Gf {ks:List ByteArray} {s:ByteArray}:Xs ks s=true↔s∈ks:=by
 unfold Xs
 rw[List.any_eq_true]
 constructor
 ·rintro ⟨k,h1,h2⟩;rw[Hm,decide_eq_true_eq]at h2;subst h2;exact h1
 ·intro h;exact⟨s,h,by rw[Hm];simp⟩
theorem HG {ks:List ByteArray} {s t:ByteArray}:t∈YhI ks s↔t∈ks∨t=s:=by
 unfold YhI
 by_cases h:Xs ks s=true
 ·rw[if_pos h]
  exact⟨.inl,λh'=>h'.elim id λe=>e▸Gf.1 h⟩
 ·rw[if_neg h];simp
def Dc (l:List (List Int)):List ByteArray:=l.foldl (λks t=>YhI ks (E6 t)) []
theorem HC {l:List (List Int)} {s:ByteArray}:s∈Dc l↔ ∃t∈l,s=E6 t:=by
 have key: ∀(l:List (List Int)) (ks:List ByteArray),s∈l.foldl (λks t=>YhI ks (E6 t)) ks↔s∈ks∨ ∃t∈l,s=E6 t:=by
  intro l
  induction l with
  |nil=>intro ks;simp
  |cons t l ih=>
   intro ks
   rw[List.foldl_cons,ih,HG]
   simp only[List.mem_cons,exists_eq_or_imp,or_assoc]
 unfold Dc;rw[key];simp
theorem EF {r:Int×List (List Int)} (hl:r.2.length<=1048576) (hv: ∀t∈r.2,t.length<=1048576/\ ∀x∈t,0<=x/\x<256):DH r=some (Dc r.2):=by
 unfold DH
 have:=D0 r.2.length (λm o i=>Cq m (o,r.2,(r.2.length:Int),i)) (λk=>Dc (r.2.take k)) (r:=some (Dc r.2)) (λm k hk=>?_) (λm=>?_) (n:=Ad) (by unfold Ad;omega)
 ·have e0:Dc (r.2.take 0)= []:=rfl
  rw[e0]at this
  simp only[this,Option.bind_some]
 ·obtain⟨h1,h2⟩:=hv _ (List.getElem_mem hk)
  have e:Dc (r.2.take (k+1))=YhI (Dc (r.2.take k)) (E6 r.2[k]):=by
   unfold Dc;rw[List.take_succ_eq_append_getElem hk,List.foldl_append];rfl
  simp only[Cq,AA,AC hk,Aw (show k<4611686018427387904 by omega),DE h1 h2,Option.bind_some,e]
  rw[if_pos (by simp;omega),if_pos hk]
 ·simp only[Cq,List.take_length]
  rw[if_neg (by simp)]
theorem FB {l:List (List Int)} {t:List Int} (hl: ∀t∈l,∀x∈t,0<=x/\x<256) (ht: ∀x∈t,0<=x/\x<256):Xs (Dc l) (E6 t)=decide (t∈l):=by
 rw[Bool.eq_iff_iff,Gf,decide_eq_true_eq,HC]
 constructor
 ·rintro ⟨u,h1,h2⟩;rw[HB ht (hl u h1) h2];exact h1
 ·intro h;exact⟨t,h,rfl⟩
def dg (b:Nat):Nat->Nat->List Nat
 |0,_=> []
 |k+1,i=>dg b k (i/b)++ [i%b]
theorem GC {b:Nat}: ∀ {k i:Nat},(dg b k i).length=k
 |0,_=>rfl
 |k+1,i=>by simp[dg,GC (k:=k)]
theorem It {b:Nat} (hb:0<b): ∀ {k i:Nat},∀x∈dg b k i,x<b
 |0,_,x,h=>by simp[dg]at h
 |k+1,i,x,h=>by
  simp only[dg]at h
  rcases List.mem_append.1 h with h|h
  ·exact It hb x h
  ·simp at h;subst h;exact Nat.mod_lt _ hb
theorem Gw {o:List Nat}:(cI o).length=o.length:=by unfold cI;simp
theorem G3 {o p:List Nat}:cI (o++p)=cI o++cI p:=by unfold cI;simp
end T
open Go Go.Va
namespace T
theorem I4 {b k:Nat} (hb:b<=64) (hk:k<=3):b^k<=262144:=by
 have h1:b^k<=64^k:=Nat.pow_le_pow_left hb k
 have h2:64^k<=64^3:=Nat.pow_le_pow_right (by omega) hk
 have:(64:Nat)^3=262144:=by decide
 omega
theorem HM {b j:Nat} (hb:b<=64) (hj:j+1<=3):w64 (((b^j:Nat):Int)*(b:Int))=((b^(j+1):Nat):Int):=by
 have h:=I4 hb hj
 rw[Nat.pow_succ]at h⊢
 rw[←Int.natCast_mul]
 exact Bp (by omega) (by omega)
section
variable {n k m:Nat} {op:Opn} {r:Int×List (List Int)}
end
end T
open Go Go.Va
namespace T
section
variable {v:Int} {c:Con}
end
section
variable {a:Net}
theorem Iu {β:Type} (N:Nat) (L:Nat->Int->Option β) (p:Nat->Bool) (g:Nat->β) (e:β)
  (hs: ∀n (k:Nat),k<N->L (n+1) k=if p k then some (g k)else L n ((k+1:Nat):Int)) (he: ∀n,L (n+1) (N:Nat)=some e):
  ∀(d k n:Nat),k+d=N->d<n->L n k=some (match (List.range' k d).find? p with|some x=>g x|none=>e):=by
 intro d
 induction d with
 |zero=>
  intro k n hk hn
  obtain⟨n,rfl⟩: ∃m,n=m+1:=⟨n-1,by omega⟩
  have:k=N:=by omega
  subst this;rw[he];rfl
 |succ d ih=>
  intro k n hk hn
  obtain⟨n,rfl⟩: ∃m,n=m+1:=⟨n-1,by omega⟩
  rw[hs n k (by omega),List.range'_succ,List.find?_cons]
  cases p k with
  |true=>simp
  |false=>simp only[Bool.false_eq_true,if_false];exact ih (k+1) n (by omega) (by omega)
end
end T
open Go Go.Va
namespace T
section
variable {v:Int} {c:Con} {up:Int}
end
section
variable {a:Net} {up:Int} {vals:List Int}
def Fk (a:Net) (vals:List Int):Int:=match (List.range' 0 a.2.2.length).find? (λk=>!Cn vals (a.2.2.getD k G5))with|some k=>(k:Int)|none=> -1
theorem EK (hN:NetOk a) (hv:(vals.length:Int)=a.1):Dh (a.1,(a.2.1,a.2.2)) vals=some (Fk a vals):=by
 have hc:=hN.hc
 unfold Dh
 have e:=Iu a.2.2.length (λf i=>B1 f (vals,(a.1,(a.2.1,a.2.2)),i)) (λk=>!Cn vals (a.2.2.getD k G5)) (λk=> .inr (k:Int)) (.inl ()) (λf k hk=>by
  have hcon:=hN.con _ (List.getElem_mem hk)
  simp only[B1,decide_eq_true (show(k:Int)<((a.2.2.length:Nat):Int) by omega),if_true,AA,hk,AC hk,Dl hcon hv,Option.bind_some,Aw (show k<4611686018427387904 by omega),AF hk])
  (λf=>by simp[B1]) a.2.2.length 0 Ad (by omega) (by unfold Ad;omega)
 have e:B1 Ad (vals,(a.1,(a.2.1,a.2.2)),0)=_:=e
 rw[e]
 unfold Fk
 cases (List.range' 0 a.2.2.length).find? (λk=>!Cn vals (a.2.2.getD k G5))<;>rfl
theorem Eg (hN:NetOk a) (hv:(vals.length:Int)=a.1):CS (a.1,(a.2.1,a.2.2)) vals=some (Fk a vals):=by
 have hc:=hN.hc
 unfold CS
 have e:=Iu a.2.2.length (λf i=>BE f (vals,a.2.2,(a.2.2.length:Int),i)) (λk=>!Cn vals (a.2.2.getD k G5)) (λk=> .inr (k:Int)) (.inl ()) (λf k hk=>by
  have hcon:=hN.con _ (List.getElem_mem hk)
  have hsl:=hcon.sl
  have har:=hcon.ar
  have hmany:=hcon.many
  have h1:=C2 (f:=a.2.2[k].1) (g:=vals) (by omega) (λx hx=>by
   obtain⟨j,hj,rfl⟩:=List.mem_iff_getElem.1 hx
   have:=hcon.sv j hj
   omega)
  have h2:=D2 (r:=a.2.2[k].2) (t:=a.2.2[k].1.map (CY vals)) (by simp;omega) (show a.2.2[k].2.2.length<=1048576 by omega)
  have h2:Di (a.2.2[k].2.1,a.2.2[k].2.2) (a.2.2[k].1.map (CY vals))=_:=h2
  simp only[BE,decide_eq_true (show(k:Int)<((a.2.2.length:Nat):Int) by omega),if_true,AA,hk,AC hk,h1,h2,Option.bind_some,Aw (show k<4611686018427387904 by omega),AF hk,Cn])
  (λf=>by simp[BE]) a.2.2.length 0 Ad (by omega) (by unfold Ad;omega)
 have e:BE Ad (vals,a.2.2,((a.2.2.length:Nat):Int),0)=_:=e
 rw[e]
 unfold Fk
 cases (List.range' 0 a.2.2.length).find? (λk=>!Cn vals (a.2.2.getD k G5))<;>rfl
end
end T
set_option linter.unusedVariables false
open Go Go.Va
namespace T
def B8:Nat->(Int×(List Int)×Int)->Option ((List Int))
 |0,_=>none
 |n+1,(size,out,i)=>
 if decide (i<size)then
 if out.length+ [(-1)].length<=lim then
 B8 n (size,out++ [(-1)],w64 (i+1))
 else none
 else
 some out
def CX (size:Int):Option ((List Int)):=
 (B8 Ad (size,[],0)).bind λs1=>
 some s1
def CO:Nat->(Int×Int×(List Int)×Int)->Option ((List Int))
 |0,_=>none
 |n+1,(n_,at_,out,i)=>
 if decide (i≥0)then
 if n_≠0 then
 if inb i out then
 if n_≠0 then
 CO n (n_,w64 (Int.tdiv at_ n_),stt out i (Int.tmod at_ n_),w64 (i-1))
 else none
 else none
 else none
 else
 some out
def Dm (n_:Int) (arity:Int) (at_:Int):Option ((List Int)):=
 if 0<=arity/\arity<=arity/\arity<=lim then
 (CO Ad (n_,at_,List.replicate (Int.toNat arity) (0:Int),w64 (arity-1))).bind λs1=>
 some s1
 else none
def BI (a:Int) (b:Int):Option (Int):=
 if decide (a>b)then
 some a
 else
 some b
def BT:Nat->((List Int)×Int×Int)->Option ((List Int))
 |0,_=>none
 |n+1,(list,t8,t9)=>
 if decide (t9<t8)then
 if inb t9 list then
 BT n (stt list t9 (-1),t8,w64 (t9+1))
 else none
 else
 some list
def Co (many:Int):Option ((List Int)):=
 if 0<=many/\many<=many/\many<=lim then
 (BT Ad (List.replicate (Int.toNat many) (0:Int),((List.replicate (Int.toNat many) (0:Int)).length:Int),0)).bind λs1=>
 some s1
 else none
def C4 (list:List Int):Option ((List Int)):=
 if([]:List Int).length+list.length<=lim then
 some ([]++list)
 else none
end T
open Go Go.Va
namespace T
theorem Ja {a b:Nat} (ha:a<4611686018427387904):w64 (Int.tdiv (a:Int) (b:Int))=((a/b:Nat):Int):=by
 rw[Int.tdiv_eq_ediv_of_nonneg (by omega),←Int.natCast_ediv]
 have:=Nat.div_le_self a b
 generalize a/b=q at this
 exact Bp (by omega) (by omega)
theorem Jc {a b:Nat}:Int.tmod (a:Int) (b:Int)=((a%b:Nat):Int):=by
 rw[Int.tmod_eq_emod_of_nonneg (by omega),←Int.natCast_emod]
section
variable {n:Nat}
end
end T
open Go Go.Va
namespace T
abbrev C8:=Int×List (List Int)
structure ROk (n m:Nat) (r:C8):Prop where
 ar:r.1=(m:Int)
 hm:1<=m/\m<=3
 tl: ∀t∈r.2,t.length=m
 tv: ∀t∈r.2,∀x∈t,0<=x/\x<(n:Int)
 many:r.2.length<=64
 inc:CT r.2=true
theorem HK {b:Nat} (hb:b<=64): ∀(m k j:Nat),j+k<=3->k<m->Cj m ((b:Int),(k:Int),((b^j:Nat):Int))=some (((b^(j+k):Nat):Int)):=by
 intro m
 induction m with
 |zero=>intro k j _ h;omega
 |succ m ih=>
  intro k j hj hk
  simp only[Cj]
  cases k with
  |zero=>simp
  |succ k=>
   have e:w64 (((k+1:Nat):Int)-1)=(k:Int):=by rw[Bp (by omega) (by omega)];omega
   rw[e,HM hb (by omega),if_pos (by simp),ih k (j+1) (by omega) (by omega)]
   congr 3;omega
theorem DT {b k:Nat} (hb:b<=64) (hk:k<=3):CP (b:Int) (k:Int)=some (((b^k:Nat):Int)):=by
 unfold CP
 have:=HK hb Ad k 0 (by omega) (by unfold Ad;omega)
 have this:Cj Ad ((b:Int),(k:Int),1)=_:=this
 rw[this];simp
theorem Iz {l:List Nat} {s:List Nat} {x y:Nat}:(cI (l++x::s)).set l.length (y:Int)=cI (l++y::s):=by
 unfold cI
 rw[List.map_append,List.map_append,List.map_cons,List.map_cons,List.set_append_right _ _ (by simp)]
 simp
theorem Ha {b:Nat} (hb:0<b): ∀(j i f:Nat) (s:List Nat),j<f->i<4611686018427387904->j<=1000->
  CO f ((b:Int),(i:Int),cI (List.replicate j 0++s),(j:Int)-1)=some (cI (dg b j i++s)):=by
 intro j
 induction j with
 |zero=>
  intro i f s hf hi hj
  obtain⟨f,rfl⟩: ∃z,f=z+1:=⟨f-1,by omega⟩
  simp only[CO]
  rw[if_neg (by simp)];rfl
 |succ j ih=>
  intro i f s hf hi hj
  obtain⟨f,rfl⟩: ∃z,f=z+1:=⟨f-1,by omega⟩
  have e1:((j+1:Nat):Int)-1=(j:Int):=by omega
  have hz:List.replicate (j+1) 0++s=List.replicate j 0++0::s:=by rw[List.replicate_succ'];simp
  have hlen:j<(cI (List.replicate j 0++0::s)).length:=by rw[Gw];simp
  have hset:=Iz (l:=List.replicate j 0) (s:=s) (x:=0) (y:=i%b)
  rw[List.length_replicate]at hset
  have w2:w64 ((j:Int)-1)=(j:Int)-1:=Bp (by omega) (by omega)
  have hle:=Nat.div_le_self i b
  rw[e1,hz]
  simp only[CO,Ja hi,Jc,AA,hlen,DD,hset,w2]
  rw[if_pos (by simp),if_pos (by omega),if_pos trivial,if_pos (by omega),ih (i/b) f _ (by omega) (by omega) (by omega)]
  simp[dg]
theorem Dx {b k i:Nat} (hb:0<b) (hk:k<=1000) (hi:i<4611686018427387904):Dm (b:Int) (k:Int) (i:Int)=some (cI (dg b k i)):=by
 have h:=Ha hb k i Ad [] (by unfold Ad;omega) hi hk
 have e:cI (List.replicate k 0++ [])=List.replicate (Int.toNat (k:Int)) (0:Int):=by unfold cI;simp
 rw[e,List.append_nil]at h
 unfold Dm
 rw[Bp (x:=(k:Int)-1) (by omega) (by omega),h,if_pos (by unfold lim;omega)];rfl
section
variable {n k m:Nat} {r:C8}
end
end T
open Go Go.Va
namespace T
section
variable {n k m:Nat} {r:C8} {rels:List C8}
theorem EP (a b:Nat):BI (a:Int) (b:Int)=some ((max a b:Nat):Int):=by
 unfold BI
 by_cases h:(a:Int)>(b:Int)
 ·rw[if_pos (by simpa using h)];congr 2;omega
 ·rw[if_neg (by simpa using h)];congr 2;omega
end
end T
open Go Go.Va
namespace T
def Bq {σ:Type} (cb:List Int->σ->Option (σ×Bool)):List (List Int)->σ->Option (σ×Bool)
 | [],s=>some (s,true)
 |t::l,s=>match cb t s with|some (s',true)=>Bq cb l s'|some (s',false)=>some (s',false)|none=>none
theorem DN {σ:Type} {cb:List Int->σ->Option (σ×Bool)}: ∀(l l':List (List Int)) (s:σ),Bq cb (l++l') s=match Bq cb l s with|some (s',true)=>Bq cb l' s'|some (s',false)=>some (s',false)|none=>none
 | [],l',s=>rfl
 |t::l,l',s=>by
  simp only[List.cons_append,Bq]
  cases hc:cb t s with
  |none=>rfl
  |some q=>
   obtain⟨s',b⟩:=q
   cases b with
   |false=>rfl
   |true=>exact DN l l' s'
def Dp (given:List Int) (at' x:Nat):Bool:=!(decide (given.getD at' 0≥0)&&given.getD at' 0 !=(x:Int))
def CB (n:Nat) (given:List Int) (ok:List Int->Bool):Nat->List Int->List (List Int)
 |0,pre=> [pre]
 |m+1,pre=>(List.range n).flatMap λx=>if Dp given pre.length x&&ok (pre++ [(x:Int)])then CB n given ok m (pre++ [(x:Int)])else []
section
variable {n k:Nat} {rels:List C8} {given:List Int}
end
end T
open Go Go.Va
namespace T
section
variable {n k:Nat} {rels:List C8} {given:List Int}
theorem Ff {m:Nat} {r:C8} (h:ROk n m r) {t:List Int} (ht:t.length=m):C7 r t=some (decide (t∈r.2)):=by
 have hm:=h.hm
 have har:=h.ar
 have hmany:=h.many
 unfold C7
 obtain⟨q,h3,_⟩:=Dy (list:=r.2) (t:=t) (k:=m) (by omega) (by omega) h.tl ht h.inc
 rw[if_neg (by simp;omega),h3];rfl
end
end T
open Go Go.Va
namespace T
section
variable {n k:Nat} {rels:List C8} {given:List Int}
theorem ET {ok:List Int->Bool}: ∀(m:Nat) (pre:List Int),(CB n given ok m pre).length<=n^m
 |0,pre=>by simp[CB]
 |m+1,pre=>by
  simp only[CB]
  have key: ∀(l:List Nat),(l.flatMap λx=>if Dp given pre.length x&&ok (pre++ [(x:Int)])then CB n given ok m (pre++ [(x:Int)])else []).length<=l.length*n^m:=by
   intro l
   induction l with
   |nil=>simp
   |cons x l ih=>
    rw[List.flatMap_cons,List.length_append,List.length_cons,Nat.succ_mul]
    have:(if Dp given pre.length x&&ok (pre++ [(x:Int)])then CB n given ok m (pre++ [(x:Int)])else []).length<=n^m:=by
     split
     ·exact ET m _
     ·simp
    omega
  have:=key (List.range n)
  rw[List.length_range]at this
  rw[Nat.pow_succ,Nat.mul_comm]
  exact this
theorem FM {ok:List Int->Bool}: ∀(m:Nat) (pre t:List Int),t∈CB n given ok m pre->t.length=pre.length+m/\((∀x∈pre,0<=x/\x<(n:Int))-> ∀x∈t,0<=x/\x<(n:Int))
 |0,pre,t,h=>by simp only[CB,List.mem_singleton]at h;subst h;exact⟨rfl,λh=>h⟩
 |m+1,pre,t,h=>by
  simp only[CB,List.mem_flatMap]at h
  obtain⟨x,hx,h⟩:=h
  have hx:=List.mem_range.1 hx
  split at h
  ·obtain⟨h1,h2⟩:=FM m _ t h
   refine⟨by rw[h1];simp;omega,λhp=>h2 λy hy=>?_⟩
   rcases List.mem_append.1 hy with h3|h3
   ·exact hp y h3
   ·rw[List.mem_singleton.1 h3];omega
  ·simp at h
end
end T
open Go Go.Va
namespace T
theorem Et {N:Nat} (h:N<=1000):Co (N:Int)=some (List.replicate N (-1)):=by
 unfold Co
 rw[Int.toNat_natCast,if_pos (by unfold lim;omega)]
 have:=D0 N (λf o i=>BT f (o,((List.replicate N (0:Int)).length:Int),i)) (λj=>List.replicate j (-1)++List.replicate (N-j) (0:Int)) (r:=some (List.replicate N (-1))) (λf j hj=>?_) (λf=>?_) (n:=Ad) (by unfold Ad;omega)
 ·have this:BT Ad (List.replicate N (0:Int),((List.replicate N (0:Int)).length:Int),0)=_:=this
  rw[this];rfl
 ·have hin:j<(List.replicate j (-1)++List.replicate (N-j) (0:Int)).length:=by simp;omega
  have e:(List.replicate j (-1)++List.replicate (N-j) (0:Int)).set j (-1)=List.replicate (j+1) (-1)++List.replicate (N-(j+1)) (0:Int):=by
   rw[show N-j=(N-(j+1))+1 by omega,List.replicate_succ,List.set_append_right _ _ (by simp),List.replicate_succ']
   simp
  simp only[BT,AA,hin,DD,e,if_true,Aw (show j<4611686018427387904 by omega)]
  rw[if_pos (by simp;omega)]
 ·simp only[BT]
  rw[if_neg (by simp)];simp
theorem Eu {N:Nat} (h:N<=1000):CX (N:Int)=some (List.replicate N (-1)):=by
 unfold CX
 have:=D0 N (λf o i=>B8 f ((N:Int),o,i)) (λj=>List.replicate j (-1)) (r:=some (List.replicate N (-1))) (λf j hj=>?_) (λf=>?_) (n:=Ad) (by unfold Ad;omega)
 ·have this:B8 Ad ((N:Int),[],0)=_:=this
  rw[this];rfl
 ·simp only[B8,List.replicate_succ',Aw (show j<4611686018427387904 by omega)]
  rw[if_pos (by simp;omega),if_pos (by simp;unfold lim;omega)]
 ·simp only[B8]
  rw[if_neg (by simp)]
end T
open Go Go.Va
namespace T
section
variable {n:Int} {rels:List C8}
end
def EM (V:List Int) (x:Nat):Int:=match V.findIdx? (λy=>y==(x:Int))with|some i=>(i:Int)|none=> -1
section
variable {n:Nat} {t:List Int}
end
section
variable {n m:Nat} {t:List Int} {r:C8} {rels:List C8}
end
end T
set_option linter.unusedVariables false
open Go Go.Va
namespace T
def BS:Nat->((List (List Int))×(List (List Int))×Int×Int)->Option ((List (List Int)))
 |0,_=>none
 |n+1,(list,t7,t8,t9)=>
 if decide (t9<t8)then
 if inb t9 t7 then
 (C4 (gd t7 t9 [])).bind λr1=>
 if list.length+ [r1].length<=lim then
 BS n (list++ [r1],t7,t8,w64 (t9+1))
 else none
 else none
 else
 some list
def Du (rows:List (List Int)):Option ((List (List Int))):=
 (BS Ad ([],rows,(rows.length:Int),0)).bind λs1=>
 some s1
end T
open Go Go.Va
namespace T
section
variable {α:Type} {nw old:Nat->α} {N i:Nat}
end
def pr4 (p:Int):Prop:=p=2∨p=3∨p=5∨p=7
def GV (p:Int) (W:Nat) (r:List Int):Prop:=r.length=W/\ ∀x∈r,0<=x/\x<p
section
variable {p:Int} {W:Nat} {r row:List Int}
theorem II (h:GV p W r) {i:Nat} (hi:i<W):0<=r.getD i 0/\r.getD i 0<p:=by
 have:i<r.length:=by rw[h.1];exact hi
 rw[AF this];exact h.2 _ (List.getElem_mem this)
end
abbrev ES:=List (List Int)×List Int×List (List Int)
structure ESok (p:Int) (W N v:Nat) (s:ES):Prop where
 t: ∀r∈s.1,GV p W r
 l: ∀r∈s.2.2,GV p W r
 bl:s.2.1.length=s.1.length
 n:s.1.length+s.2.2.length=N
 bv: ∀x∈s.2.1,0<=x/\x<(v:Int)
 bn:s.2.1.Nodup
section
variable {p:Int} {W N:Nat}
end
end T
open Go Go.Va
namespace T
section
variable {p:Int} {W N V:Nat}
theorem Hf {b:List Int} {u:Nat} (h:(u:Int)∉b):EM b u= -1:=by
 unfold EM
 have h1:(b.findIdx? λy=>y==(u:Int))=none:=by
  rw[List.findIdx?_eq_none_iff]
  intro y hy
  simp only[beq_eq_false_iff_ne]
  intro e;exact h (e▸hy)
 rw[h1]
theorem GW {b:List Int} {u:Nat} (h:(u:Int)∈b): ∃i,∃hi:i<b.length,EM b u=(i:Int)/\b[i]=(u:Int):=by
 unfold EM
 have h1:(b.findIdx? λy=>y==(u:Int)).isSome=true:=by
  rw[List.findIdx?_isSome,List.any_eq_true]
  exact⟨_,h,by simp⟩
 obtain⟨i,hi⟩:=Option.isSome_iff_exists.1 h1
 rw[hi]
 obtain⟨g1,g2,_⟩:=List.findIdx?_eq_some_iff_getElem.1 hi
 exact⟨i,g1,rfl,by simpa using g2⟩
theorem FK {rows:List (List Int)} (hN:rows.length<=100000) (hr: ∀r∈rows,r.length<=100000):Du rows=some rows:=by
 unfold Du
 have:=D0 rows.length (λf o i=>BS f (o,rows,(rows.length:Int),i)) (λk=>rows.take k) (r:=some rows) (λf k hk=>by
  have hl:=hr _ (List.getElem_mem hk)
  have hcl:C4 rows[k]=some rows[k]:=by
   unfold C4
   rw[if_pos (by simp;unfold lim;omega)];simp
  simp only[BS,AA,hk,AC hk,hcl,Option.bind_some,List.take_succ_eq_append_getElem hk,if_true,Aw (show k<4611686018427387904 by omega)]
  rw[if_pos (by simp;omega),if_pos (by simp;unfold lim;omega)]) (λf=>by
  simp only[BS,List.take_length]
  rw[if_neg (by simp)]) (n:=Ad) (by unfold Ad;omega)
 have this:BS Ad ([],rows,(rows.length:Int),0)=_:=this
 rw[this];rfl
end
end T
open Go Go.Va
namespace T
def IY (N:Nat) (b:List Int):List Int:=((List.range N).filter λv:Nat=>!decide ((v:Int)∈b)).map λv:Nat=>(v:Int)
section
variable {p:Int} {W N V:Nat}
theorem HJ {b:List Int} {u:Nat}:EM b u<0↔(u:Int)∉b:=by
 by_cases h:(u:Int)∈b
 ·obtain⟨i,hi,h1,_⟩:=GW h
  rw[h1];simp[h]
 ·rw[Hf h];simp[h]
def HO (V:Nat) (s:ES) (u:Nat):Int:=if EM s.2.1 u<0 then 0 else(s.1.getD (EM s.2.1 u).toNat []).getD V 0
def I9 (V:Nat) (s:ES):List Int:=(List.range V).map (HO V s)
end
end T
open Go Go.Va
namespace T
def cg (p a b:Int):Prop:= ∃k,a=b+p*k
section
variable {p a b c d:Int}
theorem GP (h:a=b):cg p a b:=⟨0,by rw[h];simp⟩
theorem IA (h:cg p a b) (g:cg p c d):cg p (a+c) (b+d):=by obtain⟨k,h⟩:=h;obtain⟨m,g⟩:=g;exact⟨k+m,by grind⟩
theorem IB (x:Int) (h:cg p a b):cg p (x*a) (x*b):=by obtain⟨k,h⟩:=h;exact⟨x*k,by grind⟩
end
inductive Sp (p:Int) (V:Nat) (A:List (List Int)):(Nat->Int)->Prop
 |zero:Sp p V A λ_=>0
 |add {f:Nat->Int} (r:List Int) (c:Int):r∈A->Sp p V A f->Sp p V A λi=>f i+c*r.getD i 0
 |cgr {f g:Nat->Int}:Sp p V A f->(∀i,i<V->cg p (g i) (f i))->Sp p V A g
section
variable {p:Int} {V W N:Nat} {A B:List (List Int)} {f g:Nat->Int}
theorem Sp.lin (hf:Sp p V A f) (hg:Sp p V A g) (c:Int):Sp p V A λi=>f i+c*g i:=by
 induction hg with
 |zero=>exact hf.cgr λi _=>GP (by simp)
 |add r d hr _ ih=>exact(ih.add r (c*d) hr).cgr λi _=>GP (by grind)
 |cgr _ h ih=>exact ih.cgr λi hi=>IA (GP rfl) (IB c (h i hi))
theorem Sp.mem {r:List Int} (h:r∈A):Sp p V A λi=>r.getD i 0:=(Sp.add r 1 h .zero).cgr λi _=>GP (by simp)
theorem Sp.sub (h: ∀r∈A,Sp p V B λi=>r.getD i 0) (hf:Sp p V A f):Sp p V B f:=by
 induction hf with
 |zero=>exact .zero
 |add r c hr _ ih=>exact ih.lin (h r hr) c
 |cgr _ h ih=>exact ih.cgr h
def eqSp (p:Int) (V:Nat) (A B:List (List Int)):Prop:= ∀f,Sp p V A f↔Sp p V B f
theorem HX (h: ∀r∈A,Sp p V B λi=>r.getD i 0) (g: ∀r∈B,Sp p V A λi=>r.getD i 0):eqSp p V A B:=λ_=>⟨Sp.sub h,Sp.sub g⟩
end
end T
open Go Go.Va
namespace T
section
variable {p:Int} {V W N:Nat} {A B:List (List Int)} {f g:Nat->Int}
theorem Ev {α:Type} {l:List α} {i:Nat} {d:α} (hi:i<l.length):l.getD i d∈l:=by rw[AF hi];exact List.getElem_mem hi
end
end T
open Go Go.Va
namespace T
section
variable {p:Int} {V W N:Nat} {A B C D:List (List Int)} {f g:Nat->Int}
theorem eqSp.symm (h:eqSp p V A B):eqSp p V B A:=λf=>(h f).symm
theorem eqSp.trans (h:eqSp p V A B) (g:eqSp p V B C):eqSp p V A C:=λf=>(h f).trans (g f)
theorem eqSp.app (h:eqSp p V A B):eqSp p V (A++C) (B++C):=by
 have key: ∀ {A B:List (List Int)},eqSp p V A B-> ∀r∈A++C,Sp p V (B++C) λi=>r.getD i 0:=fun {A B} h r hr=>by
  rcases List.mem_append.1 hr with hr|hr
  ·exact Sp.sub (λq hq=>Sp.mem (List.mem_append_left _ hq)) ((h _).1 (Sp.mem hr))
  ·exact Sp.mem (List.mem_append_right _ hr)
 exact HX (key h) (key h.symm)
end
end T
open Go Go.Va
namespace T
def i64 (x:Int):Prop:= -9223372036854775808<=x/\x<=9223372036854775807
section
variable {c:List Int} {ar:Int}
end
end T
set_option linter.unusedVariables false
open Go Go.Va
namespace T
def Ca:Nat->((List ((List Int)×Int×(List (List Int))))×(List (List ((List Int)×Int×(List (List Int)))))×Int×Int×Int)->Option ((List ((List Int)×Int×(List (List Int))))×(List (List ((List Int)×Int×(List (List Int)))))×Int×Int)
 |0,_=>none
 |n+1,(list,out,i,most,k)=>
 if inb i list then
 if decide (k<(((gd list i ([],(0,[]))).1).length:Int))then
 if inb i list then
 if inb k ((gd list i ([],(0,[]))).1)then
 (BI most (gd ((gd list i ([],(0,[]))).1) k 0)).bind λr1=>
 Ca n (list,out,i,r1,w64 (k+1))
 else none
 else none
 else
 some (list,out,i,most)
 else none
def B9:Nat->((List ((List Int)×Int×(List (List Int))))×(List (List ((List Int)×Int×(List (List Int)))))×Int)->Option ((List (List ((List Int)×Int×(List (List Int))))))
 |0,_=>none
 |n+1,(list,out,i)=>
 if decide (i<(list.length:Int))then
 (Ca Ad (list,out,i,0,0)).bind λs1=>
 if inb s1.2.2.2 s1.2.1 then
 if inb s1.2.2.1 s1.1 then
 if(gd s1.2.1 s1.2.2.2 []).length+ [gd s1.1 s1.2.2.1 ([],(0,[]))].length<=lim then
 if inb s1.2.2.2 s1.2.1 then
 if s1.2.2.2=s1.2.2.2 then
 B9 n (s1.1,stt s1.2.1 s1.2.2.2 ((gd s1.2.1 s1.2.2.2 [])++ [gd s1.1 s1.2.2.1 ([],(0,[]))]),w64 (s1.2.2.1+1))
 else none
 else none
 else none
 else none
 else none
 else
 some out
def DQ (vars:Int) (list:List ((List Int)×Int×(List (List Int)))):Option ((List (List ((List Int)×Int×(List (List Int)))))):=
 if 0<=vars/\vars<=vars/\vars<=lim then
 (B9 Ad (list,List.replicate (Int.toNat vars) ([]:List ((List Int)×Int×(List (List Int)))),0)).bind λs1=>
 some s1
 else none
def AT (rec:(Int×(List (List ((List Int)×Int×(List (List Int)))))×(List Int)×(List Int)×((List (List Int))×(Int×Int×Bool)))->Option (((List (List Int))×(Int×Int×Bool)))):Nat->(Int×(List (List ((List Int)×Int×(List (List Int)))))×(List Int)×(List Int)×((List (List Int))×(Int×Int×Bool))×((List (List Int))×(Int×Int×Bool))×Int×Int×(List Int)×Bool×Int)->Option (Int×(List (List ((List Int)×Int×(List (List Int)))))×(List Int)×(List Int)×((List (List Int))×(Int×Int×Bool))×((List (List Int))×(Int×Int×Bool))×Int×Int×(List Int)×Bool)
 |0,_=>none
 |n+1,(t0,t1,t2,t3,t9,t10,t11,t12,t13,t14,t15)=>
 if inb t11 t1 then
 if decide (t15<((gd t1 t11 []).length:Int))then
 if t14 then
 if inb t11 t1 then
 if inb t15 (gd t1 t11 [])then
 (CJ (gd (gd t1 t11 []) t15 ([],(0,[]))) t13).bind λr3=>
 AT rec n (t0,t1,t2,t3,(t9.1,(t9.2.1,(t9.2.2.1,t9.2.2.2))),(t10.1,(t10.2.1,(t10.2.2.1,t10.2.2.2))),t11,t12,t13,r3,w64 (t15+1))
 else none
 else none
 else
 some (t0,t1,t2,t3,(t9.1,(t9.2.1,(t9.2.2.1,t9.2.2.2))),(t10.1,(t10.2.1,(t10.2.2.1,t10.2.2.2))),t11,t12,t13,t14)
 else
 some (t0,t1,t2,t3,(t9.1,(t9.2.1,(t9.2.2.1,t9.2.2.2))),(t10.1,(t10.2.1,(t10.2.2.1,t10.2.2.2))),t11,t12,t13,t14)
 else none
def Az (rec:(Int×(List (List ((List Int)×Int×(List (List Int)))))×(List Int)×(List Int)×((List (List Int))×(Int×Int×Bool)))->Option (((List (List Int))×(Int×Int×Bool)))):Nat->(Int×(List (List ((List Int)×Int×(List (List Int)))))×(List Int)×(List Int)×((List (List Int))×(Int×Int×Bool))×((List (List Int))×(Int×Int×Bool))×Int×Int)->Option (((List (List Int))×(Int×Int×Bool))×((List (List Int))×(Int×Int×Bool)))
 |0,_=>none
 |n+1,(t0,t1,t2,t3,t9,t10,t11,t12)=>
 if decide (t12<t0)then
 if t9.2.2.2 then
 if !(decide (t9.2.1>0))then
 if inb t11 t2 then
 if decide ((gd t2 t11 0)≥0)then
 if inb t11 t2 then
 if(gd t2 t11 0) !=t12 then
 Az rec n (t0,t1,t2,t3,(t9.1,(t9.2.1,(t9.2.2.1,t9.2.2.2))),(t10.1,(t10.2.1,(t10.2.2.1,t10.2.2.2))),t11,w64 (t12+1))
 else
 (Ci t3).bind λr2=>
 if r2.length+ [t12].length<=lim then
 (AT rec Ad (t0,t1,t2,t3,(t9.1,(t9.2.1,(t9.2.2.1,t9.2.2.2))),(t10.1,(t10.2.1,(t10.2.2.1,t10.2.2.2))),t11,t12,r2++ [t12],true,0)).bind λs3=>
 if s3.2.2.2.2.2.2.2.2.2 then
 (rec (s3.1,s3.2.1,s3.2.2.1,s3.2.2.2.2.2.2.2.2.1,(s3.2.2.2.2.1.1,(s3.2.2.2.2.1.2.1,(s3.2.2.2.2.1.2.2.1,s3.2.2.2.2.1.2.2.2))))).bind λr4=>
 Az rec n (s3.1,s3.2.1,s3.2.2.1,s3.2.2.2.1,(r4.1,(r4.2.1,(r4.2.2.1,r4.2.2.2))),(s3.2.2.2.2.2.1.1,(s3.2.2.2.2.2.1.2.1,(s3.2.2.2.2.2.1.2.2.1,s3.2.2.2.2.2.1.2.2.2))),s3.2.2.2.2.2.2.1,w64 (s3.2.2.2.2.2.2.2.1+1))
 else
 Az rec n (s3.1,s3.2.1,s3.2.2.1,s3.2.2.2.1,(s3.2.2.2.2.1.1,(s3.2.2.2.2.1.2.1,(s3.2.2.2.2.1.2.2.1,s3.2.2.2.2.1.2.2.2))),(s3.2.2.2.2.2.1.1,(s3.2.2.2.2.2.1.2.1,(s3.2.2.2.2.2.1.2.2.1,s3.2.2.2.2.2.1.2.2.2))),s3.2.2.2.2.2.2.1,w64 (s3.2.2.2.2.2.2.2.1+1))
 else none
 else none
 else
 (Ci t3).bind λr5=>
 if r5.length+ [t12].length<=lim then
 (AT rec Ad (t0,t1,t2,t3,(t9.1,(t9.2.1,(t9.2.2.1,t9.2.2.2))),(t10.1,(t10.2.1,(t10.2.2.1,t10.2.2.2))),t11,t12,r5++ [t12],true,0)).bind λs6=>
 if s6.2.2.2.2.2.2.2.2.2 then
 (rec (s6.1,s6.2.1,s6.2.2.1,s6.2.2.2.2.2.2.2.2.1,(s6.2.2.2.2.1.1,(s6.2.2.2.2.1.2.1,(s6.2.2.2.2.1.2.2.1,s6.2.2.2.2.1.2.2.2))))).bind λr7=>
 Az rec n (s6.1,s6.2.1,s6.2.2.1,s6.2.2.2.1,(r7.1,(r7.2.1,(r7.2.2.1,r7.2.2.2))),(s6.2.2.2.2.2.1.1,(s6.2.2.2.2.2.1.2.1,(s6.2.2.2.2.2.1.2.2.1,s6.2.2.2.2.2.1.2.2.2))),s6.2.2.2.2.2.2.1,w64 (s6.2.2.2.2.2.2.2.1+1))
 else
 Az rec n (s6.1,s6.2.1,s6.2.2.1,s6.2.2.2.1,(s6.2.2.2.2.1.1,(s6.2.2.2.2.1.2.1,(s6.2.2.2.2.1.2.2.1,s6.2.2.2.2.1.2.2.2))),(s6.2.2.2.2.2.1.1,(s6.2.2.2.2.2.1.2.1,(s6.2.2.2.2.2.1.2.2.1,s6.2.2.2.2.2.1.2.2.2))),s6.2.2.2.2.2.2.1,w64 (s6.2.2.2.2.2.2.2.1+1))
 else none
 else none
 else
 some ((t9.1,(t9.2.1,(t9.2.2.1,t9.2.2.2))),(t10.1,(t10.2.1,(t10.2.2.1,t10.2.2.2))))
 else
 if !false then
 if inb t11 t2 then
 if decide ((gd t2 t11 0)≥0)then
 if inb t11 t2 then
 if(gd t2 t11 0) !=t12 then
 Az rec n (t0,t1,t2,t3,(t9.1,(t9.2.1,(t9.2.2.1,t9.2.2.2))),(t10.1,(t10.2.1,(t10.2.2.1,t10.2.2.2))),t11,w64 (t12+1))
 else
 (Ci t3).bind λr8=>
 if r8.length+ [t12].length<=lim then
 (AT rec Ad (t0,t1,t2,t3,(t9.1,(t9.2.1,(t9.2.2.1,t9.2.2.2))),(t10.1,(t10.2.1,(t10.2.2.1,t10.2.2.2))),t11,t12,r8++ [t12],true,0)).bind λs9=>
 if s9.2.2.2.2.2.2.2.2.2 then
 (rec (s9.1,s9.2.1,s9.2.2.1,s9.2.2.2.2.2.2.2.2.1,(s9.2.2.2.2.1.1,(s9.2.2.2.2.1.2.1,(s9.2.2.2.2.1.2.2.1,s9.2.2.2.2.1.2.2.2))))).bind λr10=>
 Az rec n (s9.1,s9.2.1,s9.2.2.1,s9.2.2.2.1,(r10.1,(r10.2.1,(r10.2.2.1,r10.2.2.2))),(s9.2.2.2.2.2.1.1,(s9.2.2.2.2.2.1.2.1,(s9.2.2.2.2.2.1.2.2.1,s9.2.2.2.2.2.1.2.2.2))),s9.2.2.2.2.2.2.1,w64 (s9.2.2.2.2.2.2.2.1+1))
 else
 Az rec n (s9.1,s9.2.1,s9.2.2.1,s9.2.2.2.1,(s9.2.2.2.2.1.1,(s9.2.2.2.2.1.2.1,(s9.2.2.2.2.1.2.2.1,s9.2.2.2.2.1.2.2.2))),(s9.2.2.2.2.2.1.1,(s9.2.2.2.2.2.1.2.1,(s9.2.2.2.2.2.1.2.2.1,s9.2.2.2.2.2.1.2.2.2))),s9.2.2.2.2.2.2.1,w64 (s9.2.2.2.2.2.2.2.1+1))
 else none
 else none
 else
 (Ci t3).bind λr11=>
 if r11.length+ [t12].length<=lim then
 (AT rec Ad (t0,t1,t2,t3,(t9.1,(t9.2.1,(t9.2.2.1,t9.2.2.2))),(t10.1,(t10.2.1,(t10.2.2.1,t10.2.2.2))),t11,t12,r11++ [t12],true,0)).bind λs12=>
 if s12.2.2.2.2.2.2.2.2.2 then
 (rec (s12.1,s12.2.1,s12.2.2.1,s12.2.2.2.2.2.2.2.2.1,(s12.2.2.2.2.1.1,(s12.2.2.2.2.1.2.1,(s12.2.2.2.2.1.2.2.1,s12.2.2.2.2.1.2.2.2))))).bind λr13=>
 Az rec n (s12.1,s12.2.1,s12.2.2.1,s12.2.2.2.1,(r13.1,(r13.2.1,(r13.2.2.1,r13.2.2.2))),(s12.2.2.2.2.2.1.1,(s12.2.2.2.2.2.1.2.1,(s12.2.2.2.2.2.1.2.2.1,s12.2.2.2.2.2.1.2.2.2))),s12.2.2.2.2.2.2.1,w64 (s12.2.2.2.2.2.2.2.1+1))
 else
 Az rec n (s12.1,s12.2.1,s12.2.2.1,s12.2.2.2.1,(s12.2.2.2.2.1.1,(s12.2.2.2.2.1.2.1,(s12.2.2.2.2.1.2.2.1,s12.2.2.2.2.1.2.2.2))),(s12.2.2.2.2.2.1.1,(s12.2.2.2.2.2.1.2.1,(s12.2.2.2.2.2.1.2.2.1,s12.2.2.2.2.2.1.2.2.2))),s12.2.2.2.2.2.2.1,w64 (s12.2.2.2.2.2.2.2.1+1))
 else none
 else none
 else
 some ((t9.1,(t9.2.1,(t9.2.2.1,t9.2.2.2))),(t10.1,(t10.2.1,(t10.2.2.1,t10.2.2.2))))
 else
 some ((t9.1,(t9.2.1,(t9.2.2.1,t9.2.2.2))),(t10.1,(t10.2.1,(t10.2.2.1,t10.2.2.2))))
def Dq (rec:(Int×(List (List ((List Int)×Int×(List (List Int)))))×(List Int)×(List Int)×((List (List Int))×(Int×Int×Bool)))->Option (((List (List Int))×(Int×Int×Bool)))) (t0:Int) (t1:List (List ((List Int)×Int×(List (List Int))))) (t2:List Int) (t3:List Int) (t4:(List (List Int))×(Int×Int×Bool)):Option (((List (List Int))×(Int×Int×Bool))):=
 if(t3.length:Int)==(t1.length:Int)then
 if decide ((t4.1.length:Int)<t4.2.2.1)then
 (Ci t3).bind λr1=>
 if t4.1.length+ [r1].length<=lim then
 some (t4.1++ [r1],(w64 (t4.2.1+1),(t4.2.2.1,t4.2.2.2)))
 else none
 else
 some (t4.1,(w64 (t4.2.1+1),(t4.2.2.1,t4.2.2.2)))
 else
 (Az rec Ad (t0,t1,t2,t3,(t4.1,(t4.2.1,(t4.2.2.1,t4.2.2.2))),([],(0,(0,false))),(t3.length:Int),0)).bind λs2=>
 some (s2.1.1,(s2.1.2.1,(s2.1.2.2.1,s2.1.2.2.2)))
def AH:Nat->(Int×(List (List ((List Int)×Int×(List (List Int)))))×(List Int)×(List Int)×((List (List Int))×(Int×Int×Bool)))->Option (((List (List Int))×(Int×Int×Bool)))
 |0,_=>none
 |d+1,x=>Dq (AH d) x.1 x.2.1 x.2.2.1 x.2.2.2.1 x.2.2.2.2
def BY (net:Int×Int×(List ((List Int)×Int×(List (List Int))))) (list:List ((List Int)×Int×(List (List Int)))) (partial_:List Int) (most:Int) (one:Bool):Option (((List (List Int))×(Int×Int×Bool))):=
 (DQ net.1 list).bind λr1=>
 (AH Ad (net.2.1,r1,partial_,[],([],(0,(most,one))))).bind λr2=>
 some (r2.1,(r2.2.1,(r2.2.2.1,r2.2.2.2)))
def By:Nat->((Int×((List (List (List Int)))×(List (List (List ByteArray)))))×((List Int)×Int×(List (List Int)))×Int×(List ((List Int)×Int×(List (List Int))))×Int×Int×(List Int)×Int×Int)->Option ((Int×((List (List (List Int)))×(List (List (List ByteArray)))))×((List Int)×Int×(List (List Int)))×Int×(List ((List Int)×Int×(List (List Int))))×Int×Int)
 |0,_=>none
 |n+1,(t3,t5,t6,t20,t21,t22,t27,t28,t29)=>
 if decide (t29<t28)then
 if inb t29 t27 then
 By n ((t3.1,(t3.2.1,t3.2.2)),(t5.1,(t5.2.1,t5.2.2)),Yiv t6 (gd t27 t29 0),t20,t21,t22,t27,t28,w64 (t29+1))
 else none
 else
 some ((t3.1,(t3.2.1,t3.2.2)),(t5.1,(t5.2.1,t5.2.2)),t6,t20,t21,t22)
def Bx:Nat->((Int×((List (List (List Int)))×(List (List (List ByteArray)))))×(List ((List Int)×Int×(List (List Int))))×Int×Int)->Option ((Int×((List (List (List Int)))×(List (List (List ByteArray))))))
 |0,_=>none
 |n+1,(t3,t20,t21,t22)=>
 if decide (t22<t21)then
 if inb t22 t20 then
 (By Ad ((t3.1,(t3.2.1,t3.2.2)),((gd t20 t22 ([],(0,[]))).1,(((gd t20 t22 ([],(0,[]))).2).1,((gd t20 t22 ([],(0,[]))).2).2)),0,t20,t21,t22,(gd t20 t22 ([],(0,[]))).1,(((gd t20 t22 ([],(0,[]))).1).length:Int),0)).bind λs1=>
 if inb s1.2.2.1 s1.1.2.1 then
 if(gd s1.1.2.1 s1.2.2.1 []).length+ [s1.2.1.1].length<=lim then
 if inb s1.2.2.1 s1.1.2.1 then
 if s1.2.2.1=s1.2.2.1 then
 if inb s1.2.2.1 s1.1.2.2 then
 (DH (s1.2.1.2.1,s1.2.1.2.2)).bind λr2=>
 if(gd s1.1.2.2 s1.2.2.1 []).length+ [r2].length<=lim then
 if inb s1.2.2.1 s1.1.2.2 then
 if s1.2.2.1=s1.2.2.1 then
 Bx n ((s1.1.1,(stt s1.1.2.1 s1.2.2.1 ((gd s1.1.2.1 s1.2.2.1 [])++ [s1.2.1.1]),stt s1.1.2.2 s1.2.2.1 ((gd s1.1.2.2 s1.2.2.1 [])++ [r2]))),s1.2.2.2.1,s1.2.2.2.2.1,w64 (s1.2.2.2.2.2+1))
 else none
 else none
 else none
 else none
 else none
 else none
 else none
 else none
 else none
 else
 some (t3.1,(t3.2.1,t3.2.2))
def BC (t0:Int×Int×(List ((List Int)×Int×(List (List Int))))):Option ((Bool×Int×(List (List (List Int)))×(List (List (List ByteArray))))):=
 if 0<=t0.1/\t0.1<=t0.1/\t0.1<=lim then
 if 0<=t0.1/\t0.1<=t0.1/\t0.1<=lim then
 (Bx Ad ((t0.2.1,(List.replicate (Int.toNat t0.1) ([]:List (List Int)),List.replicate (Int.toNat t0.1) ([]:List (List ByteArray)))),t0.2.2,(t0.2.2.length:Int),0)).bind λs1=>
 some (true,(s1.1,(s1.2.1,s1.2.2)))
 else none
 else none
def Ex (list:List Int):Option ((Bool×(List Int))):=
 if([]:List Int).length+list.length<=lim then
 some (true,[]++list)
 else none
def B5 (values:List Int) (t1:Bool×(List Int)):Option ((Bool×(List Int))×Bool):=
 (Ex values).bind λr1=>
 some ((r1.1,r1.2),false)
def Ar (rec:(Int×(List Int)×(Bool×(List Int))×(Bool×Int×(List (List (List Int)))×(List (List (List ByteArray))))×(List Int)×Unit)->Option ((List Int)×(Bool×(List Int))×(Bool×Int×(List (List (List Int)))×(List (List (List ByteArray))))×(List Int)×Bool)):Nat->(Int×(List Int)×(Bool×(List Int))×(Bool×Int×(List (List (List Int)))×(List (List (List ByteArray))))×(List Int)×Unit×Int×Bool×(List (List Int))×Int×Int)->Option (Int×(List Int)×(Bool×(List Int))×(Bool×Int×(List (List (List Int)))×(List (List (List ByteArray))))×(List Int)×Unit×Int×Bool)
 |0,_=>none
 |n+1,(t0,t1,t2,t3,t4,t5,t8,t9,t50,t51,t52)=>
 if decide (t52<t51)then
 if inb t52 t50 then
 if t9 then
 if t3.1=true then
 if inb t0 t3.2.2.2 then
 if inb t52 (gd t3.2.2.2 t0 [])then
 (Bi (gd t50 t52 []) t1).bind λr2=>
 (BX r2).bind λr3=>
 Ar rec n (t0,t1,(t2.1,t2.2),t3,t4,(),t8,Xs (gd (gd t3.2.2.2 t0 []) t52 []) r3,t50,t51,w64 (t52+1))
 else none
 else none
 else none
 else
 Ar rec n (t0,t1,(t2.1,t2.2),t3,t4,(),t8,false,t50,t51,w64 (t52+1))
 else none
 else
 some (t0,t1,(t2.1,t2.2),t3,t4,(),t8,t9)
def Ak (rec:(Int×(List Int)×(Bool×(List Int))×(Bool×Int×(List (List (List Int)))×(List (List (List ByteArray))))×(List Int)×Unit)->Option ((List Int)×(Bool×(List Int))×(Bool×Int×(List (List (List Int)))×(List (List (List ByteArray))))×(List Int)×Bool)):Nat->(Int×(List Int)×(Bool×(List Int))×(Bool×Int×(List (List (List Int)))×(List (List (List ByteArray))))×(List Int)×Unit×Int)->Option (((List Int)×(Bool×(List Int))×(Bool×Int×(List (List (List Int)))×(List (List (List ByteArray))))×(List Int)×Unit)⊕((List Int)×(Bool×(List Int))×(Bool×Int×(List (List (List Int)))×(List (List (List ByteArray))))×(List Int)×Unit×Bool))
 |0,_=>none
 |n+1,(t0,t1,t2,t3,t4,t5,t8)=>
 if t3.1=true then
 if decide (t8<t3.2.1)then
 if inb t0 t4 then
 if decide ((gd t4 t0 0)≥0)then
 if inb t0 t4 then
 if(gd t4 t0 0) !=t8 then
 Ak rec n (t0,t1,(t2.1,t2.2),t3,t4,(),w64 (t8+1))
 else
 if inb t0 t1 then
 if t3.1=true then
 if inb t0 t3.2.2.1 then
 (Ar rec Ad (t0,stt t1 t0 t8,(t2.1,t2.2),t3,t4,(),t8,true,gd t3.2.2.1 t0 [],((gd t3.2.2.1 t0 []).length:Int),0)).bind λs2=>
 if s2.2.2.2.2.2.2.2 then
 (rec (w64 (s2.1+1),s2.2.1,(s2.2.2.1.1,s2.2.2.1.2),s2.2.2.2.1,s2.2.2.2.2.1,())).bind λr3=>
 if !r3.2.2.2.2 then
 some (.inr (r3.1,(r3.2.1.1,r3.2.1.2),r3.2.2.1,r3.2.2.2.1,(),false))
 else
 Ak rec n (s2.1,r3.1,(r3.2.1.1,r3.2.1.2),r3.2.2.1,r3.2.2.2.1,(),w64 (s2.2.2.2.2.2.2.1+1))
 else
 Ak rec n (s2.1,s2.2.1,(s2.2.2.1.1,s2.2.2.1.2),s2.2.2.2.1,s2.2.2.2.2.1,(),w64 (s2.2.2.2.2.2.2.1+1))
 else none
 else none
 else none
 else none
 else
 if inb t0 t1 then
 if t3.1=true then
 if inb t0 t3.2.2.1 then
 (Ar rec Ad (t0,stt t1 t0 t8,(t2.1,t2.2),t3,t4,(),t8,true,gd t3.2.2.1 t0 [],((gd t3.2.2.1 t0 []).length:Int),0)).bind λs4=>
 if s4.2.2.2.2.2.2.2 then
 (rec (w64 (s4.1+1),s4.2.1,(s4.2.2.1.1,s4.2.2.1.2),s4.2.2.2.1,s4.2.2.2.2.1,())).bind λr5=>
 if !r5.2.2.2.2 then
 some (.inr (r5.1,(r5.2.1.1,r5.2.1.2),r5.2.2.1,r5.2.2.2.1,(),false))
 else
 Ak rec n (s4.1,r5.1,(r5.2.1.1,r5.2.1.2),r5.2.2.1,r5.2.2.2.1,(),w64 (s4.2.2.2.2.2.2.1+1))
 else
 Ak rec n (s4.1,s4.2.1,(s4.2.2.1.1,s4.2.2.1.2),s4.2.2.2.1,s4.2.2.2.2.1,(),w64 (s4.2.2.2.2.2.2.1+1))
 else none
 else none
 else none
 else none
 else
 some (.inl (t1,(t2.1,t2.2),t3,t4,()))
 else none
def Bh (rec:(Int×(List Int)×(Bool×(List Int))×(Bool×Int×(List (List (List Int)))×(List (List (List ByteArray))))×(List Int)×Unit)->Option ((List Int)×(Bool×(List Int))×(Bool×Int×(List (List (List Int)))×(List (List (List ByteArray))))×(List Int)×Bool)) (t0:Int) (t1:List Int) (t2:Bool×(List Int)) (t3:Bool×Int×(List (List (List Int)))×(List (List (List ByteArray)))) (t4:List Int) (t5:Unit):Option ((List Int)×(Bool×(List Int))×(Bool×Int×(List (List (List Int)))×(List (List (List ByteArray))))×(List Int)×Bool):=
 if t0==(t1.length:Int)then
  (B5 t1 (t2.1,t2.2)).bind λr1=>
   some (t1,(r1.1.1,r1.1.2),t3,t4,r1.2)
 else
  (Ak rec Ad (t0,t1,(t2.1,t2.2),t3,t4,(),0)).bind λs2=>
   match s2 with
   | .inl s3=>
    some (s3.1,(s3.2.1.1,s3.2.1.2),s3.2.2.1,s3.2.2.2.1,true)
   | .inr s4=>
    some (s4.1,(s4.2.1.1,s4.2.1.2),s4.2.2.1,s4.2.2.2.1,s4.2.2.2.2.2)
def Ax:Nat->(Int×(List Int)×(Bool×(List Int))×(Bool×Int×(List (List (List Int)))×(List (List (List ByteArray))))×(List Int)×Unit)->Option ((List Int)×(Bool×(List Int))×(Bool×Int×(List (List (List Int)))×(List (List (List ByteArray))))×(List Int)×Bool)
 |0,_=>none
 |d+1,x=>Bh (Ax d) x.1 x.2.1 x.2.2.1 x.2.2.2.1 x.2.2.2.2.1 x.2.2.2.2.2
def BG (s:Bool×Int×(List (List (List Int)))×(List (List (List ByteArray)))) (partial_:List Int) (found:Bool×(List Int)):Option ((Bool×(List Int))):=
 if 0<=(partial_.length:Int)/\(partial_.length:Int)<=(partial_.length:Int)/\(partial_.length:Int)<=lim then
 (Ax Ad (0,List.replicate (Int.toNat (partial_.length:Int)) (0:Int),(found.1,found.2),s,partial_,())).bind λr1=>
 some (r1.2.1.1,r1.2.1.2)
 else none
def C5 (net:Int×Int×(List ((List Int)×Int×(List (List Int))))) (partial_:List Int):Option ((Bool×(List Int))):=
 (BC (net.1,(net.2.1,net.2.2))).bind λr1=>
 (BG r1 partial_ (false,[])).bind λr2=>
 some (r2.1,r2.2)
end T
open Go Go.Va
namespace T
abbrev NS:=Bool×Int×List (List (List Int))×List (List (List ByteArray))
abbrev NIn (σ:Type):=Int×List Int×σ×NS×List Int×Unit
abbrev G2 (σ:Type):=List Int×σ×NS×List Int×Bool
def hM {σ:Type}:Nat->(Int×List Int×σ×NS×List Int×Unit×Int×Bool×List (List Int)×Int×Int)->Option (Int×List Int×σ×NS×List Int×Unit×Int×Bool)
 |0,_=>none
 |n+1,(t0,t1,t2,t3,t4,t5,t8,t9,t50,t51,t52)=>
 if decide (t52<t51)then
 if inb t52 t50 then
 if t9 then
 if t3.1=true then
 if inb t0 t3.2.2.2 then
 if inb t52 (gd t3.2.2.2 t0 [])then
 (Bi (gd t50 t52 []) t1).bind λr2=>
 (BX r2).bind λr3=>
 hM n (t0,t1,t2,t3,t4,(),t8,Xs (gd (gd t3.2.2.2 t0 []) t52 []) r3,t50,t51,w64 (t52+1))
 else none
 else none
 else none
 else
 hM n (t0,t1,t2,t3,t4,(),t8,false,t50,t51,w64 (t52+1))
 else none
 else
 some (t0,t1,t2,t3,t4,(),t8,t9)
def hL {σ:Type} (rec:NIn σ->Option (G2 σ)):Nat->(Int×List Int×σ×NS×List Int×Unit×Int)->Option ((List Int×σ×NS×List Int×Unit)⊕(List Int×σ×NS×List Int×Unit×Bool))
 |0,_=>none
 |n+1,(t0,t1,t2,t3,t4,t5,t8)=>
 if t3.1=true then
 if decide (t8<t3.2.1)then
 if inb t0 t4 then
 if decide ((gd t4 t0 0)≥0)then
 if inb t0 t4 then
 if(gd t4 t0 0) !=t8 then
 hL rec n (t0,t1,t2,t3,t4,(),w64 (t8+1))
 else
 if inb t0 t1 then
 if t3.1=true then
 if inb t0 t3.2.2.1 then
 (hM Ad (t0,stt t1 t0 t8,t2,t3,t4,(),t8,true,gd t3.2.2.1 t0 [],((gd t3.2.2.1 t0 []).length:Int),0)).bind λs2=>
 if s2.2.2.2.2.2.2.2 then
 (rec (w64 (s2.1+1),s2.2.1,s2.2.2.1,s2.2.2.2.1,s2.2.2.2.2.1,())).bind λr3=>
 if !r3.2.2.2.2 then
 some (.inr (r3.1,r3.2.1,r3.2.2.1,r3.2.2.2.1,(),false))
 else
 hL rec n (s2.1,r3.1,r3.2.1,r3.2.2.1,r3.2.2.2.1,(),w64 (s2.2.2.2.2.2.2.1+1))
 else
 hL rec n (s2.1,s2.2.1,s2.2.2.1,s2.2.2.2.1,s2.2.2.2.2.1,(),w64 (s2.2.2.2.2.2.2.1+1))
 else none
 else none
 else none
 else none
 else
 if inb t0 t1 then
 if t3.1=true then
 if inb t0 t3.2.2.1 then
 (hM Ad (t0,stt t1 t0 t8,t2,t3,t4,(),t8,true,gd t3.2.2.1 t0 [],((gd t3.2.2.1 t0 []).length:Int),0)).bind λs4=>
 if s4.2.2.2.2.2.2.2 then
 (rec (w64 (s4.1+1),s4.2.1,s4.2.2.1,s4.2.2.2.1,s4.2.2.2.2.1,())).bind λr5=>
 if !r5.2.2.2.2 then
 some (.inr (r5.1,r5.2.1,r5.2.2.1,r5.2.2.2.1,(),false))
 else
 hL rec n (s4.1,r5.1,r5.2.1,r5.2.2.1,r5.2.2.2.1,(),w64 (s4.2.2.2.2.2.2.1+1))
 else
 hL rec n (s4.1,s4.2.1,s4.2.2.1,s4.2.2.2.1,s4.2.2.2.2.1,(),w64 (s4.2.2.2.2.2.2.1+1))
 else none
 else none
 else none
 else none
 else
 some (.inl (t1,t2,t3,t4,()))
 else none
def EL {σ:Type} (cb:List Int->σ->Option (σ×Bool)) (rec:NIn σ->Option (G2 σ)) (x:NIn σ):Option (G2 σ):=
 if x.1==(x.2.1.length:Int)then
  (cb x.2.1 x.2.2.1).bind λr1=>some (x.2.1,r1.1,x.2.2.2.1,x.2.2.2.2.1,r1.2)
 else
  (hL rec Ad (x.1,x.2.1,x.2.2.1,x.2.2.2.1,x.2.2.2.2.1,(),0)).bind λs2=>
   match s2 with
   | .inl s3=>some (s3.1,s3.2.1,s3.2.2.1,s3.2.2.2.1,true)
   | .inr s4=>some (s4.1,s4.2.1,s4.2.2.1,s4.2.2.2.1,s4.2.2.2.2.2)
def hF {σ:Type} (cb:List Int->σ->Option (σ×Bool)):Nat->NIn σ->Option (G2 σ)
 |0,_=>none
 |d+1,x=>EL cb (hF cb d) x
def BV (c:Con):Nat:=c.1.foldl (λm v=>max m v.toNat) 0
def AK (cs:List Con) (v:Nat):List Con:=cs.filter λc=>BV c==v
def Bb (cs:List Con) (V:Nat):List (List (List Int)):=(List.range V).map λv=>(AK cs v).map (·.1)
def CD (cs:List Con) (V:Nat):List (List (List ByteArray)):=(List.range V).map λv=>(AK cs v).map λc=>Dc c.2.2
def okN (cs:List Con) (pre:List Int):Bool:=(AK cs (pre.length-1)).all (Cn pre)
theorem Ge: ∀(l:List Int) (m:Nat),m<=l.foldl (λm v=>max m v.toNat) m/\(∀v∈l,v.toNat<=l.foldl (λm v=>max m v.toNat) m)/\ ∀B,m<=B->(∀v∈l,v.toNat<=B)->l.foldl (λm v=>max m v.toNat) m<=B
 | [],m=>⟨Nat.le_refl _,by simp,λB h _=>h⟩
 |v::l,m=>by
  obtain⟨h1,h2,h3⟩:=Ge l (max m v.toNat)
  simp only[List.foldl_cons]
  refine⟨by omega,λw hw=>?_,λB h h'=>h3 B (by have:=h' v (List.mem_cons_self ..);omega) λw hw=>h' w (List.mem_cons_of_mem _ hw)⟩
  rcases List.mem_cons.1 hw with rfl|hw
  ·omega
  ·exact h2 w hw
section
variable {V n:Nat} {cs:List Con} {given:List Int}
structure SrchOk (V n:Nat) (cs:List Con):Prop where
 hv:V<=9
 hn:1<=n/\n<=4
 hc:cs.length<=40
 con: ∀c∈cs,ConOk (V:Int) (n:Int) c
theorem DK {c:Con} {v:Nat}:c∈AK cs v↔c∈cs/\BV c=v:=by simp[AK]
theorem DJ (h:SrchOk V n cs) {v:Nat} {c:Con} (hc:c∈AK cs v):ConOk ((v+1:Nat):Int) (n:Int) c/\v<V:=by
 obtain⟨h1,h2⟩:=DK.1 hc
 have hk:=h.con c h1
 obtain⟨_,g2,g3⟩:=Ge c.1 0
 have hv:v<V:=by
  have hm:=hk.ar
  have hsl:=hk.sl
  have h0:=hk.sv 0 (by omega)
  have:=g3 (V-1) (by omega) λw hw=>by
   obtain⟨i,hi,rfl⟩:=List.mem_iff_getElem.1 hw
   have:=hk.sv i hi
   omega
  have:BV c<=V-1:=this
  omega
 refine⟨⟨hk.ar,hk.sl,λi hi=>?_,hk.tl,hk.tv,hk.inc,hk.many⟩,hv⟩
 have h3:=hk.sv i hi
 have h4:=g2 _ (List.getElem_mem hi)
 have h4:(c.1[i]).toNat<=BV c:=h4
 omega
theorem Ft (h:SrchOk V n cs) {v:Nat} {c:Con} (hc:c∈AK cs v) (tab:List Int):Cn (tab.take (v+1)) c=Cn tab c:=by
 have hk:=(DJ h hc).1
 unfold Cn
 have:c.1.map (CY (tab.take (v+1)))=c.1.map (CY tab):=List.map_congr_left λx hx=>by
  obtain⟨i,hi,rfl⟩:=List.mem_iff_getElem.1 hx
  have:=hk.sv i hi
  unfold CY
  rw[List.getD_eq_getElem?_getD,List.getD_eq_getElem?_getD,List.getElem?_take,if_pos (by omega)]
 rw[this]
theorem E9 (h:SrchOk V n cs) {v:Nat} {tab:List Int} (hv:v<tab.length):okN cs (tab.take (v+1))=(AK cs v).all (Cn tab):=by
 unfold okN
 rw[List.length_take,show min (v+1) tab.length-1=v by omega,Bool.eq_iff_iff,List.all_eq_true,List.all_eq_true]
 exact⟨λg c hc=>by rw[←Ft h hc];exact g c hc,λg c hc=>by rw[Ft h hc];exact g c hc⟩
theorem D7 {v:Nat} (hv:v<V):(Bb cs V).length=V/\(Bb cs V).getD v []=(AK cs v).map (·.1):=by
 refine⟨by simp[Bb],?_⟩
 rw[AF (by simp[Bb];exact hv)];simp[Bb]
theorem FG {v:Nat} (hv:v<V):(CD cs V).length=V/\(CD cs V).getD v []=(AK cs v).map λc=>Dc c.2.2:=by
 refine⟨by simp[CD],?_⟩
 rw[AF (by simp[CD];exact hv)];simp[CD]
theorem IZ (h:SrchOk V n cs) {v:Nat} (hv:v<V) {tab:List Int} (ht:tab.length=V) (htv: ∀x∈tab,0<=x/\x<256) {σ:Type} (s:σ) (x:Int):
  hM Ad ((v:Int),tab,s,(true,((n:Int),(Bb cs V,CD cs V))),given,(),x,true,gd (Bb cs V) (v:Int) [],((gd (Bb cs V) (v:Int) []).length:Int),0)=
   some ((v:Int),tab,s,(true,((n:Int),(Bb cs V,CD cs V))),given,(),x,okN cs (tab.take (v+1))):=by
 obtain⟨l1,e1⟩:=D7 (cs:=cs) hv
 obtain⟨l2,e2⟩:=FG (cs:=cs) hv
 have hn:=h.hn
 have hg1:gd (Bb cs V) (v:Int) []=(AK cs v).map (·.1):=e1
 have hg2:gd (CD cs V) (v:Int) []=(AK cs v).map λc=>Dc c.2.2:=e2
 rw[E9 h (by omega),hg1]
 have hlen:(AK cs v).length<=40:=Nat.le_trans (List.length_filter_le _ _) h.hc
 have:=D0 (AK cs v).length (λf (o:Bool) i=>hM f ((v:Int),tab,s,(true,((n:Int),(Bb cs V,CD cs V))),given,(),x,o,(AK cs v).map (·.1),(((AK cs v).map (·.1)).length:Int),i)) (λk=>((AK cs v).take k).all (Cn tab)) (r:=some ((v:Int),tab,s,(true,((n:Int),(Bb cs V,CD cs V))),given,(),x,(AK cs v).all (Cn tab))) (λf k hk=>?_) (λf=>?_) (n:=Ad) (by unfold Ad;omega)
 ·exact this
 ·have hmem:=List.getElem_mem hk
  have hcon:=(DJ h hmem).1
  have hsl:=hcon.sl
  have har:=hcon.ar
  have hmany:=hcon.many
  have hin:inb (k:Int) ((AK cs v).map (·.1)):=by unfold inb;rw[List.length_map];omega
  have hgk:gd ((AK cs v).map (·.1)) (k:Int) []=(AK cs v)[k].1:=by
   have:=AC (xs:=(AK cs v).map (·.1)) (d:= []) (k:=k) (by simpa using hk)
   rw[this];simp
  have hin2:inb (k:Int) ((AK cs v).map λc=>Dc c.2.2):=by unfold inb;rw[List.length_map];omega
  have hgk2:gd ((AK cs v).map λc=>Dc c.2.2) (k:Int) []=Dc (AK cs v)[k].2.2:=by
   have:=AC (xs:=(AK cs v).map λc=>Dc c.2.2) (d:= []) (k:=k) (by simpa using hk)
   rw[this];simp
  have hsc: ∀y∈(AK cs v)[k].1,0<=y/\y<tab.length:=λy hy=>by
   obtain⟨i,hi,rfl⟩:=List.mem_iff_getElem.1 hy
   have:=hcon.sv i hi
   omega
  have hc:=C2 (f:=(AK cs v)[k].1) (g:=tab) (by omega) hsc
  have hval: ∀y∈(AK cs v)[k].1.map (CY tab),0<=y/\y<256:=λy hy=>by
   obtain⟨z,hz,rfl⟩:=List.mem_map.1 hy
   have:=hsc z hz
   exact htv _ (Ev (by omega))
  have hk2:=DE (l:=(AK cs v)[k].1.map (CY tab)) (by rw[List.length_map];omega) hval
  have hmk:=FB (l:=(AK cs v)[k].2.2) (t:=(AK cs v)[k].1.map (CY tab)) (λt ht y hy=>by
   obtain⟨i,hi,rfl⟩:=List.mem_iff_getElem.1 hy
   have:=hcon.tv t ht i hi
   omega) hval
  have hiv:inb (v:Int) (CD cs V):=by unfold inb;omega
  have htk:((AK cs v).take (k+1)).all (Cn tab)=(((AK cs v).take k).all (Cn tab)&&Cn tab (AK cs v)[k]):=by
   rw[List.take_succ_eq_append_getElem hk,List.all_append];simp
  simp only[hM,hin,hgk,hc,hk2,hiv,hg2,hin2,hgk2,hmk,Option.bind_some,Aw (show k<4611686018427387904 by omega),htk,if_true]
  rw[if_pos (by simp;omega)]
  cases ((AK cs v).take k).all (Cn tab)with
  |false=>simp
  |true=>simp[Cn]
 ·simp only[hM,List.take_length]
  rw[if_neg (by simp)]
end
end T
open Go Go.Va
namespace T
section
variable {V n:Nat} {cs:List Con} {given:List Int}
abbrev D4 (V n:Nat) (cs:List Con):NS:=(true,((n:Int),(Bb cs V,CD cs V)))
theorem Gb (h:SrchOk V n cs) (hg:given.length=V) {σ:Type} (cb:List Int->σ->Option (σ×Bool)): ∀(m d at':Nat) (tab:List Int) (s:σ),at'+m=V->m<d->tab.length=V->(∀x∈tab,0<=x/\x<256)->
    ∀s' b,Bq cb (CB n given (okN cs) m (tab.take at')) s=some (s',b)->
    ∃tab':List Int,tab'.length=V/\(∀x∈tab',0<=x/\x<256)/\tab'.take at'=tab.take at'/\hF cb d ((at':Int),tab,s,D4 V n cs,given,())=some (tab',s',D4 V n cs,given,b):=by
  have hn:=h.hn
  have hV:=h.hv
  intro m
  induction m with
  |zero=>
    intro d a tab s ha hd ht hv s' b hf
    obtain⟨d,rfl⟩: ∃z,d=z+1:=⟨d-1,by omega⟩
    have e:tab.take a=tab:=List.take_of_length_le (by omega)
    rw[e]at hf
    simp only[CB,Bq]at hf
    refine⟨tab,ht,hv,rfl,?_⟩
    simp only[hF,EL]
    rw[if_pos (by simp;omega)]
    cases hc:cb tab s with
    |none=>rw[hc]at hf;exact absurd hf (by simp)
    |some q=>
      obtain⟨s1,b1⟩:=q
      rw[hc]at hf
      have:s1=s'/\b1=b:=by cases b1<;>simpa using hf
      obtain⟨rfl,rfl⟩:=this
      rfl
  |succ m ih=>
    intro d a tab s ha hd ht hv s' b hf
    obtain⟨d,rfl⟩: ∃z,d=z+1:=⟨d-1,by omega⟩
    have hat:a<V:=by omega
    have key: ∀(c x f:Nat) (tab1:List Int) (s1:σ),x+c=n->c<f->tab1.length=V->(∀x∈tab1,0<=x/\x<256)->tab1.take a=tab.take a-> ∀s' b,
        Bq cb ((List.range' x c).flatMap λx=>if Dp given (tab.take a).length x&&okN cs (tab.take a++ [(x:Int)])then CB n given (okN cs) m (tab.take a++ [(x:Int)])else []) s1=some (s',b)->
        ∃tab':List Int,tab'.length=V/\(∀x∈tab',0<=x/\x<256)/\tab'.take a=tab.take a/\hL (hF cb d) f ((a:Int),tab1,s1,D4 V n cs,given,(),(x:Int))=some (if b then .inl (tab',s',D4 V n cs,given,())else .inr (tab',s',D4 V n cs,given,(),false)):=by
      intro c
      induction c with
      |zero=>
        intro x f tab1 s1 hx hf1 ht1 hv1 htk s' b hf2
        obtain⟨f,rfl⟩: ∃z,f=z+1:=⟨f-1,by omega⟩
        have:s1=s'/\true=b:=by simpa[Bq]using hf2
        obtain⟨rfl,rfl⟩:=this
        refine⟨tab1,ht1,hv1,htk,?_⟩
        simp only[hL]
        rw[if_pos trivial,if_neg (by simp;omega)];rfl
      |succ c ihc=>
        intro x f tab1 s1 hx hf1 ht1 hv1 htk s' b hf2
        obtain⟨f,rfl⟩: ∃z,f=z+1:=⟨f-1,by omega⟩
        have hlen:(tab.take a).length=a:=by rw[List.length_take];omega
        have hag:a<given.length:=by omega
        have hat1:a<tab1.length:=by omega
        have hsc:a<(Bb cs V).length:=by rw[(D7 (cs:=cs) hat).1];exact hat
        rw[List.range'_succ,List.flatMap_cons,DN,hlen]at hf2
        rw[hlen]at ihc
        have hset:(tab1.set a (x:Int)).take (a+1)=tab.take a++ [(x:Int)]:=by
          rw[List.take_succ_eq_append_getElem (by simp;omega),List.take_set_of_le (Nat.le_refl _),List.getElem_set_self,htk]
        have hsl:(tab1.set a (x:Int)).length=V:=by simp[ht1]
        have hsv: ∀y∈tab1.set a (x:Int),0<=y/\y<256:=λy hy=>by
          rcases List.mem_or_eq_of_mem_set hy with h1|h1
          · exact hv1 y h1
          · subst h1;omega
        have hst:(tab1.set a (x:Int)).take a=tab.take a:=by rw[List.take_set_of_le (Nat.le_refl _),htk]
        have hfit:=IZ (given:=given) h hat hsl hsv s1 (x:Int)
        rw[hset]at hfit
        have hw:w64 ((x:Int)+1)=((x+1:Nat):Int):=Aw (by omega)
        have hwa:w64 ((a:Int)+1)=((a+1:Nat):Int):=Aw (by omega)
        have step : Dp given a x = true → ∀ R, R = (hM Ad ((a : Int), tab1.set a (x : Int), s1, D4 V n cs, given, (), (x : Int), true, gd (Bb cs V) (a : Int) [], ((gd (Bb cs V) (a : Int) []).length : Int), 0)).bind (fun s4 =>
                if s4.2.2.2.2.2.2.2 then
                  (hF cb d (w64 (s4.1+1),s4.2.1,s4.2.2.1,s4.2.2.2.1,s4.2.2.2.2.1,())).bind λr5=>
                    if !r5.2.2.2.2 then
                      some (.inr (r5.1,r5.2.1,r5.2.2.1,r5.2.2.2.1,(),false))
                    else
                      hL (hF cb d) f (s4.1,r5.1,r5.2.1,r5.2.2.1,r5.2.2.2.1,(),w64 (s4.2.2.2.2.2.2.1+1))
                else
                  hL (hF cb d) f (s4.1,s4.2.1,s4.2.2.1,s4.2.2.2.1,s4.2.2.2.2.1,(),w64 (s4.2.2.2.2.2.2.1+1)))->
            ∃tab':List Int,tab'.length=V/\(∀x∈tab',0<=x/\x<256)/\tab'.take a=tab.take a/\R=some (if b then .inl (tab',s',D4 V n cs,given,())else .inr (tab',s',D4 V n cs,given,(),false)):=by
          intro hm R hR
          rw[hfit]at hR
          simp only[Option.bind_some]at hR
          rw[hm]at hf2
          cases hfi:okN cs (tab.take a++ [(x:Int)])with
          |false=>
            rw[hfi]at hf2 hR
            simp only[Bool.and_false,Bool.false_eq_true,if_false,Bq]at hf2 hR
            rw[hw]at hR
            rw[hR]
            exact ihc (x+1) f _ s1 (by omega) (by omega) hsl hsv hst s' b hf2
          |true=>
            rw[hfi]at hf2 hR
            simp only[Bool.and_true,if_true]at hf2 hR
            rw[hwa]at hR
            cases hq:Bq cb (CB n given (okN cs) m (tab.take a++ [(x:Int)])) s1 with
            |none=>rw[hq]at hf2;exact absurd hf2 (by simp)
            |some q=>
              obtain⟨s2,b2⟩:=q
              rw[hq]at hf2
              rw[←hset]at hq
              obtain⟨tab2,h1,h2,h3,h4⟩:=ih d (a+1) _ s1 (by omega) (by omega) hsl hsv s2 b2 hq
              have h3':tab2.take a=tab.take a:=by
                have:=congrArg (List.take a) h3
                rw[List.take_take,List.take_take,Nat.min_eq_left (by omega)]at this
                rw[this,hst]
              rw[h4]at hR
              simp only[Option.bind_some]at hR
              cases b2 with
              |false=>
                have:s2=s'/\false=b:=by simpa using hf2
                obtain⟨rfl,rfl⟩:=this
                refine⟨tab2,h1,h2,h3',?_⟩
                rw[hR];rfl
              |true=>
                simp only[Bool.not_true,Bool.false_eq_true,if_false,hw]at hR
                rw[hR]
                exact ihc (x+1) f tab2 s2 (by omega) (by omega) h1 h2 h3' s' b hf2
        simp only[hL,DD,AA,hag,hat1,hsc,if_true]
        rw[if_pos (by simp;omega)]
        by_cases hc1:gd given (a:Int) 0≥0
        · rw[if_pos (decide_eq_true hc1)]
          by_cases hc2:gd given (a:Int) 0=(x:Int)
          · rw[if_neg (by simpa using hc2)]
            exact step (by unfold Dp;rw[show given.getD a 0=(x:Int) from hc2];simp) _ rfl
          · rw[if_pos (by simpa using hc2),hw]
            have hm:Dp given a x=false:=by
              unfold Dp
              rw[decide_eq_true (show given.getD a 0≥0 from hc1)]
              simp only[Bool.true_and,Bool.not_eq_false',bne_iff_ne];exact hc2
            rw[hm]at hf2
            simp only[Bool.false_and,Bool.false_eq_true,if_false,Bq]at hf2
            exact ihc (x+1) f tab1 s1 (by omega) (by omega) ht1 hv1 htk s' b hf2
        · rw[if_neg (by simpa using hc1)]
          exact step (by unfold Dp;rw[decide_eq_false (show¬given.getD a 0≥0 from hc1)];rfl) _ rfl
    simp only[CB]at hf
    rw[List.range_eq_range']at hf
    obtain⟨tab',h1,h2,h3,h4⟩:=key n 0 Ad tab s (by omega) (by unfold Ad;omega) ht hv rfl s' b hf
    refine⟨tab',h1,h2,h3,?_⟩
    simp only[hF,EL]
    rw[if_neg (by simp;omega)]
    have h4:hL (hF cb d) Ad ((a:Int),tab,s,D4 V n cs,given,(),0)=_:=h4
    rw[h4]
    cases b<;>rfl
def AB (V n:Nat) (cs:List Con) (given:List Int):List (List Int):=CB n given (okN cs) V []
theorem Ia {a b:Nat} {x:Int} (hx:x=(b:Int)):Yiv (a:Int) x=((max a b:Nat):Int):=by
 subst hx;unfold Yiv;split<;>omega
theorem DL (h:SrchOk V n cs):BC ((V:Int),((n:Int),cs))=some (D4 V n cs):=by
 have hV:=h.hv
 have hc:=h.hc
 unfold BC
 have h3:=D0 cs.length (λf (o:Int×(List (List (List Int))×List (List (List ByteArray)))) i=>Bx f (o,cs,(cs.length:Int),i)) (λk=>((n:Int),(Bb (cs.take k) V,CD (cs.take k) V))) (r:=some ((n:Int),(Bb cs V,CD cs V))) (λf k hk=>?_) (λf=>?_) (n:=Ad) (by unfold Ad;omega)
 ·have e1:Bb (cs.take 0) V=List.replicate V []:=by
   unfold Bb AK;simp[List.map_const']
  have e2:CD (cs.take 0) V=List.replicate V []:=by
   unfold CD AK;simp[List.map_const']
  rw[e1,e2]at h3
  have h3:Bx Ad (((n:Int),(List.replicate (Int.toNat (V:Int)) ([]:List (List Int)),List.replicate (Int.toNat (V:Int)) ([]:List (List ByteArray)))),cs,(cs.length:Int),0)=_:=h3
  rw[if_pos (by unfold lim;omega),if_pos (by unfold lim;omega),h3];rfl
 ·have hcon:=h.con _ (List.getElem_mem hk)
  have hsl:=hcon.sl
  have har:=hcon.ar
  have hmany:=hcon.many
  have h7:=D0 cs[k].1.length (λf (o:Int) i=>By f (((n:Int),(Bb (cs.take k) V,CD (cs.take k) V)),cs[k],o,cs,(cs.length:Int),(k:Int),cs[k].1,(cs[k].1.length:Int),i)) (λj=>(((cs[k].1.take j).foldl (λm v=>max m v.toNat) 0:Nat):Int)) (r:=some (((n:Int),(Bb (cs.take k) V,CD (cs.take k) V)),cs[k],(BV cs[k]:Int),cs,(cs.length:Int),(k:Int))) (λf j hj=>?_) (λf=>?_) (n:=Ad) (by unfold Ad;omega)
  ·have hm:BV cs[k]<V:=(DJ h (DK.2 ⟨List.getElem_mem hk,rfl⟩)).2
   have h7:By Ad (((n:Int),(Bb (cs.take k) V,CD (cs.take k) V)),(cs[k].1,(cs[k].2.1,cs[k].2.2)),0,cs,(cs.length:Int),(k:Int),cs[k].1,(cs[k].1.length:Int),0)=_:=h7
   obtain⟨l1,e1⟩:=D7 (cs:=cs.take k) hm
   obtain⟨l2,e2⟩:=FG (cs:=cs.take k) hm
   have hi1:inb (BV cs[k]:Int) (Bb (cs.take k) V):=by unfold inb;omega
   have hi2:inb (BV cs[k]:Int) (CD (cs.take k) V):=by unfold inb;omega
   have g1:gd (Bb (cs.take k) V) (BV cs[k]:Int) []=(AK (cs.take k) (BV cs[k])).map (·.1):=e1
   have g2:gd (CD (cs.take k) V) (BV cs[k]:Int) []=(AK (cs.take k) (BV cs[k])).map λc=>Dc c.2.2:=e2
   have hts:=EF (r:=(cs[k].2.1,cs[k].2.2)) (show cs[k].2.2.length<=1048576 by omega) (λt ht=>⟨by have:=hcon.tl t ht;omega,λy hy=>by
    obtain⟨i,hi,rfl⟩:=List.mem_iff_getElem.1 hy
    have:=hcon.tv t ht i hi
    have:=h.hn
    omega⟩)
   have hcl:(AK (cs.take k) (BV cs[k])).length<=40:=Nat.le_trans (List.length_filter_le _ _) (by rw[List.length_take];omega)
   have hca: ∀v,AK (cs.take (k+1)) v=AK (cs.take k) v++(if BV cs[k]=v then [cs[k]]else []):=λv=>by
    unfold AK
    rw[List.take_succ_eq_append_getElem hk,List.filter_append]
    congr 1
    by_cases e:BV cs[k]=v<;>simp[e]
   have s1:(Bb (cs.take k) V).set (BV cs[k]) ((AK (cs.take k) (BV cs[k])).map (·.1)++ [cs[k].1])=Bb (cs.take (k+1)) V:=by
    apply List.ext_getElem
    ·simp[Bb]
    ·intro v h1 h2
     rw[List.getElem_set]
     simp only[Bb,List.getElem_map,List.getElem_range,hca,List.map_append]
     by_cases e:BV cs[k]=v
     ·rw[if_pos e,if_pos e,←e];rfl
     ·rw[if_neg e,if_neg e];simp
   have s2:(CD (cs.take k) V).set (BV cs[k]) ((AK (cs.take k) (BV cs[k])).map (λc=>Dc c.2.2)++ [Dc cs[k].2.2])=CD (cs.take (k+1)) V:=by
    apply List.ext_getElem
    ·simp[CD]
    ·intro v h1 h2
     rw[List.getElem_set]
     simp only[CD,List.getElem_map,List.getElem_range,hca,List.map_append]
     by_cases e:BV cs[k]=v
     ·rw[if_pos e,if_pos e,←e];rfl
     ·rw[if_neg e,if_neg e];simp
   simp only[Bx,AA,hk,AC hk,h7,Option.bind_some,if_true,AA.1 hi1,AA.1 hi2,g1,g2,hts,DD,s1,s2,Aw (show k<4611686018427387904 by omega)]
   rw[if_pos (by simp;omega),if_pos (by simp;unfold lim;omega),if_pos (by simp;unfold lim;omega)]
  ·have hj':=hcon.sv j hj
   have e:=Ia (a:=(cs[k].1.take j).foldl (λm v=>max m v.toNat) 0) (b:=(cs[k].1[j]).toNat) (x:=cs[k].1[j]) (by omega)
   have e2:(cs[k].1.take (j+1)).foldl (λm v=>max m v.toNat) 0=max ((cs[k].1.take j).foldl (λm v=>max m v.toNat) 0) (cs[k].1[j]).toNat:=by
    rw[List.take_succ_eq_append_getElem hj,List.foldl_append];rfl
   simp only[By,AA,hj,AC hj,e,e2,if_true,Aw (show j<4611686018427387904 by omega)]
   rw[if_pos (by simp;omega)]
  ·simp only[By,List.take_length]
   rw[if_neg (by simp)];rfl
 ·simp only[Bx,List.take_length]
  rw[if_neg (by simp)]
def GE (t:List Int) (s:Bool×List Int):Option ((Bool×List Int)×Bool):=(B5 t (s.1,s.2)).bind λr=>some ((r.1.1,r.1.2),r.2)
theorem F6 (rec): ∀f x,Ar rec f x=hM f x
 |0,_=>rfl
 |f+1,(a,b,c,d,e,g,x,y,z,u,v)=>by simp only[Ar,hM,F6 rec f]
theorem F5 (rec): ∀f x,Ak rec f x=hL rec f x
 |0,_=>rfl
 |f+1,(a,b,c,d,e,g,x)=>by simp only[Ak,hL,F5 rec f,F6]
theorem Hv: ∀d x,Ax d x=hF GE d x
 |0,_=>rfl
 |d+1,(a,t,(s1,s2),ps,g,u)=>by
  have e:Ax d=hF GE d:=funext λx=>Hv d x
  simp only[Ax,hF,EL,Bh,F5,e]
  split
  ·unfold GE;cases B5 t (s1,s2)<;>rfl
  ·congr 1;funext z;cases z<;>rfl
def FN (l:List (List Int)):Bool×List Int:=match l with| []=>(false,[])|t::_=>(true,t)
theorem Ga (h:SrchOk V n cs) (hg:given.length=V):C5 ((V:Int),((n:Int),cs)) given=some (FN (AB V n cs given)):=by
 have hV:=h.hv
 unfold C5
 have e1:=DL h
 have hcb: ∀t s,t.length<=1048576->GE t s=some ((true,t),false):=λt s ht=>by
  unfold GE B5 Ex
  rw[if_pos (by simp;unfold lim;omega)];rfl
 have hfold:Bq GE (AB V n cs given) (false,[])=some (FN (AB V n cs given),match AB V n cs given with| []=>true|_=>false):=by
  cases hs:AB V n cs given with
  |nil=>rfl
  |cons t l=>
   have ht:=(FM (n:=n) (given:=given) (ok:=okN cs) V [] t (by unfold AB at hs;rw[hs];exact List.mem_cons_self ..)).1
   simp only[Bq]
   rw[hcb t _ (by simp at ht;omega)];rfl
 obtain⟨tab',_,_,_,h4⟩:=Gb h hg GE V Ad 0 (List.replicate V 0) (false,[]) (by omega) (by unfold Ad;omega) (by simp) (λx hx=>by rw[List.eq_of_mem_replicate hx];omega) _ _ (by simpa[AB]using hfold)
 have h4:Ax Ad (0,List.replicate V 0,(false,[]),D4 V n cs,given,())=_:=(Hv Ad _).trans h4
 simp only[e1,Option.bind_some]
 unfold BG
 rw[if_pos (by unfold lim;omega)]
 have hr:List.replicate (Int.toNat (given.length:Int)) (0:Int)=List.replicate V 0:=by rw[hg];rfl
 rw[hr,h4];rfl
end
end T
open Go Go.Va
namespace T
abbrev S19:=List (List Int)×Int×Int×Bool
def Dz (s:S19):Bool:=s.2.2.2&&decide (s.2.1>0)
def EN (t:List Int) (s:S19):Option (S19×Bool):=
 let s':S19:=(if decide ((s.1.length:Int)<s.2.2.1)then s.1++ [t]else s.1,s.2.1+1,s.2.2.1,s.2.2.2)
 some (s',!Dz s')
theorem Fv: ∀(l:List (List Int)) (s s':S19) (b:Bool),Bq EN l s=some (s',b)->s.2.1<=s'.2.1/\s'.2.1<=s.2.1+l.length/\s'.1.length<=s.1.length+l.length/\s'.2.2=s.2.2/\(Dz s=false->b=!Dz s')
 | [],s,s',b,h=>by
  have:s=s'/\true=b:=by simpa[Bq]using h
  obtain⟨rfl,rfl⟩:=this
  exact⟨by omega,by simp,by simp,rfl,λh=>by simp[h]⟩
 |t::l,s,s',b,h=>by
  simp only[Bq,EN]at h
  generalize hs1:((if decide ((s.1.length:Int)<s.2.2.1)then s.1++ [t]else s.1,s.2.1+1,s.2.2.1,s.2.2.2):S19)=s1 at h
  have h1:s1.2.1=s.2.1+1:=by rw[←hs1]
  have h2:s1.1.length<=s.1.length+1:=by
   rw[←hs1]
   show(if decide ((s.1.length:Int)<s.2.2.1)then s.1++ [t]else s.1).length<=_
   split<;>simp
  have h3:s1.2.2=s.2.2:=by rw[←hs1]
  cases hb:Dz s1 with
  |true=>
   rw[hb]at h
   have:s1=s'/\false=b:=by simpa using h
   obtain⟨rfl,rfl⟩:=this
   rw[List.length_cons]
   exact⟨by omega,by omega,by omega,h3,λ_=>by rw[hb];rfl⟩
  |false=>
   rw[hb]at h
   obtain⟨g1,g2,g3,g4,g5⟩:=Fv l s1 s' b h
   rw[List.length_cons]
   exact⟨by omega,by push_cast;omega,by omega,g4.trans h3,λ_=>g5 hb⟩
theorem Fw: ∀(l:List (List Int)) (s:S19),∃q,Bq EN l s=some q
 | [],s=>⟨_,rfl⟩
 |t::l,s=>by
  simp only[Bq,EN]
  generalize ((if decide ((s.1.length:Int)<s.2.2.1)then s.1++ [t]else s.1,s.2.1+1,s.2.2.1,s.2.2.2):S19)=s1
  cases hb:Dz s1 with
  |true=>exact⟨_,rfl⟩
  |false=>exact Fw l s1
section
variable {V n:Nat} {cs:List Con} {given:List Int}
def atN (cs:List Con) (V:Nat):List (List Con):=(List.range V).map (AK cs)
theorem GO {v:Nat} (hv:v<V):(atN cs V).length=V/\(atN cs V).getD v []=AK cs v:=by
 refine⟨by simp[atN],?_⟩
 rw[AF (by simp[atN];exact hv)];simp[atN]
theorem Ib (h:SrchOk V n cs):DQ (V:Int) cs=some (atN cs V):=by
 have hV:=h.hv
 have hc:=h.hc
 unfold DQ
 rw[if_pos (by unfold lim;omega)]
 have h3:=D0 cs.length (λf (o:List (List Con)) i=>B9 f (cs,o,i)) (λk=>atN (cs.take k) V) (r:=some (atN cs V)) (λf k hk=>?_) (λf=>?_) (n:=Ad) (by unfold Ad;omega)
 ·have e1:atN (cs.take 0) V=List.replicate V []:=by
   unfold atN
   have:AK (cs.take 0)=λ_=> []:=by funext v;simp[AK]
   rw[this];simp[List.map_const']
  rw[e1]at h3
  have h3:B9 Ad (cs,List.replicate (Int.toNat (V:Int)) ([]:List Con),0)=_:=h3
  rw[h3];rfl
 ·have hcon:=h.con _ (List.getElem_mem hk)
  have hsl:=hcon.sl
  have har:=hcon.ar
  have h7:=D0 cs[k].1.length (λf (o:Int) i=>Ca f (cs,atN (cs.take k) V,(k:Int),o,i)) (λj=>(((cs[k].1.take j).foldl (λm v=>max m v.toNat) 0:Nat):Int)) (r:=some (cs,atN (cs.take k) V,(k:Int),(BV cs[k]:Int))) (λf j hj=>?_) (λf=>?_) (n:=Ad) (by unfold Ad;omega)
  ·have hm:BV cs[k]<V:=(DJ h (DK.2 ⟨List.getElem_mem hk,rfl⟩)).2
   have h7:Ca Ad (cs,atN (cs.take k) V,(k:Int),0,0)=_:=h7
   obtain⟨l1,e1⟩:=GO (cs:=cs.take k) hm
   have hi1:inb (BV cs[k]:Int) (atN (cs.take k) V):=by unfold inb;omega
   have g1:gd (atN (cs.take k) V) (BV cs[k]:Int) []=AK (cs.take k) (BV cs[k]):=e1
   have hcl:(AK (cs.take k) (BV cs[k])).length<=40:=Nat.le_trans (List.length_filter_le _ _) (by rw[List.length_take];omega)
   have hca: ∀v,AK (cs.take (k+1)) v=AK (cs.take k) v++(if BV cs[k]=v then [cs[k]]else []):=λv=>by
    unfold AK
    rw[List.take_succ_eq_append_getElem hk,List.filter_append]
    congr 1
    by_cases e:BV cs[k]=v<;>simp[e]
   have s1:(atN (cs.take k) V).set (BV cs[k]) (AK (cs.take k) (BV cs[k])++ [cs[k]])=atN (cs.take (k+1)) V:=by
    apply List.ext_getElem
    ·simp[atN]
    ·intro v h1 h2
     rw[List.getElem_set]
     simp only[atN,List.getElem_map,List.getElem_range,hca]
     by_cases e:BV cs[k]=v
     ·rw[if_pos e,if_pos e,←e]
     ·rw[if_neg e,if_neg e];simp
   simp only[B9,AA,hk,AC hk,h7,Option.bind_some,if_true,AA.1 hi1,g1,DD,s1,Aw (show k<4611686018427387904 by omega)]
   rw[if_pos (by simp;omega),if_pos (by simp;unfold lim;omega)]
  ·have hj':=hcon.sv j hj
   have hjx:cs[k].1[j]=(((cs[k].1[j]).toNat:Nat):Int):=by omega
   have e2:(cs[k].1.take (j+1)).foldl (λm v=>max m v.toNat) 0=max ((cs[k].1.take j).foldl (λm v=>max m v.toNat) 0) (cs[k].1[j]).toNat:=by
    rw[List.take_succ_eq_append_getElem hj,List.foldl_append];rfl
   have e:BI (((cs[k].1.take j).foldl (λm v=>max m v.toNat) 0:Nat):Int) cs[k].1[j]=some ((max ((cs[k].1.take j).foldl (λm v=>max m v.toNat) 0) (cs[k].1[j]).toNat:Nat):Int):=by
    rw[hjx];exact EP _ _
   simp only[Ca,AA,hk,AC hk,hj,AC hj,e,e2,if_true,Option.bind_some,Aw (show j<4611686018427387904 by omega)]
   rw[if_pos (by simp;omega)]
  ·simp only[Ca,AA,hk,AC hk,List.take_length,if_true]
   rw[if_neg (by simp)];rfl
 ·simp only[B9,List.take_length]
  rw[if_neg (by simp)]
theorem H6 (h:SrchOk V n cs) (rec:Int×List (List Con)×List Int×List Int×S19->Option S19) {v:Nat} (hv:v<V) {next:List Int} (hl:next.length=v+1) {pre:List Int} {s s0:S19} {x:Int}:
  AT rec Ad ((n:Int),atN cs V,given,pre,s,s0,(v:Int),x,next,true,0)=some ((n:Int),atN cs V,given,pre,s,s0,(v:Int),x,next,okN cs next):=by
 obtain⟨l1,e1⟩:=GO (cs:=cs) hv
 have hiv:inb (v:Int) (atN cs V):=by unfold inb;omega
 have hg:gd (atN cs V) (v:Int) []=AK cs v:=e1
 have hcl:(AK cs v).length<=40:=Nat.le_trans (List.length_filter_le _ _) h.hc
 have key: ∀(d k f:Nat) (g:Bool),k+d=(AK cs v).length->d<f->AT rec f ((n:Int),atN cs V,given,pre,s,s0,(v:Int),x,next,g,(k:Int))=some ((n:Int),atN cs V,given,pre,s,s0,(v:Int),x,next,g&&((AK cs v).drop k).all (Cn next)):=by
  intro d
  induction d with
  |zero=>
   intro k f g hk hf
   obtain⟨f,rfl⟩: ∃z,f=z+1:=⟨f-1,by omega⟩
   have:k=(AK cs v).length:=by omega
   subst this
   simp only[AT,hiv,hg,if_true,List.drop_length]
   rw[if_neg (by simp)];simp
  |succ d ih=>
   intro k f g hk hf
   obtain⟨f,rfl⟩: ∃z,f=z+1:=⟨f-1,by omega⟩
   have hkl:k<(AK cs v).length:=by omega
   simp only[AT,hiv,hg,if_true]
   rw[if_pos (by simp;omega)]
   cases g with
   |false=>simp
   |true=>
    have hcon:=(DJ h (List.getElem_mem hkl)).1
    have hs:=Dl hcon (vs:=next) (by omega)
    rw[List.drop_eq_getElem_cons hkl,List.all_cons]
    simp only[if_true,AA,hkl,AC hkl,hs,Option.bind_some,Aw (show k<4611686018427387904 by omega)]
    rw[ih (k+1) f _ (by omega) (by omega),Bool.true_and]
 have:=key (AK cs v).length 0 Ad true (by omega) (by unfold Ad;omega)
 have e2:okN cs next=(AK cs v).all (Cn next):=by unfold okN;rw[hl];rfl
 rw[e2]
 simpa using this
theorem H5 (h:SrchOk V n cs) (hg:given.length=V): ∀(m d:Nat) (pre:List Int) (s:S19),pre.length+m=V->m<d->Dz s=false->0<=s.2.1->s.2.2.1<=1000000->s.2.1+(CB n given (okN cs) m pre).length<=4611686018427387904->
    ∀s' b,Bq EN (CB n given (okN cs) m pre) s=some (s',b)->AH d ((n:Int),atN cs V,given,pre,s)=some s':=by
  have hn:=h.hn
  have hV:=h.hv
  intro m
  induction m with
  |zero=>
    intro d pre s hpre hd hst h0 hr1 hr2 s' b hf
    obtain⟨d,rfl⟩: ∃z,d=z+1:=⟨d-1,by omega⟩
    have hlN:(atN cs V).length=V:=by simp[atN]
    simp only[CB,Bq,EN]at hf
    simp only[AH,Dq]
    simp only[CB,List.length_singleton]at hr2
    have hs':s'=(if decide ((s.1.length:Int)<s.2.2.1)then s.1++ [pre]else s.1,s.2.1+1,s.2.2.1,s.2.2.2):=by
      cases hb:Dz ((if decide ((s.1.length:Int)<s.2.2.1)then s.1++ [pre]else s.1,s.2.1+1,s.2.2.1,s.2.2.2):S19)<;>rw[hb]at hf<;>simp at hf<;>rw[←hf.1]<;>simp
    have hw:w64 (s.2.1+1)=s.2.1+1:=Bp (by omega) (by omega)
    rw[if_pos (by simp;omega),hs',hw,DI (by omega)]
    by_cases hc:(s.1.length:Int)<s.2.2.1
    · rw[if_pos (decide_eq_true hc),if_pos (decide_eq_true hc)]
      simp only[Option.bind_some]
      rw[if_pos (by rw[List.length_singleton];unfold lim;omega)]
    · rw[if_neg (by simpa using hc),if_neg (by simpa using hc)]
  |succ m ih=>
    intro d pre s hpre hd hst h0 hr1 hr2 s' b hf
    obtain⟨d,rfl⟩: ∃z,d=z+1:=⟨d-1,by omega⟩
    have hat:pre.length<V:=by omega
    have key: ∀(c x f:Nat) (s1:S19),x+c=n->c<f->Dz s1=false->0<=s1.2.1->
        s1.2.2.1<=1000000->
        s1.2.1+((List.range' x c).flatMap λx=>if Dp given pre.length x&&okN cs (pre++ [(x:Int)])then CB n given (okN cs) m (pre++ [(x:Int)])else []).length<=4611686018427387904-> ∀s' b,
        Bq EN ((List.range' x c).flatMap λx=>if Dp given pre.length x&&okN cs (pre++ [(x:Int)])then CB n given (okN cs) m (pre++ [(x:Int)])else []) s1=some (s',b)->
        Az (AH d) f ((n:Int),atN cs V,given,pre,s1,([],(0,(0,false))),(pre.length:Int),(x:Int))=some (s',([],(0,(0,false)))):=by
      intro c
      induction c with
      |zero=>
        intro x f s1 hx hf1 hst1 h01 hr1 hr2 s' b hf2
        obtain⟨f,rfl⟩: ∃z,f=z+1:=⟨f-1,by omega⟩
        have:s1=s'/\true=b:=by simpa[Bq]using hf2
        obtain⟨rfl,rfl⟩:=this
        simp only[Az]
        rw[if_neg (by simp;omega)]
      |succ c ihc=>
        intro x f s1 hx hf1 hst1 h01 hr1 hr2 s' b hf2
        obtain⟨f,rfl⟩: ∃z,f=z+1:=⟨f-1,by omega⟩
        have hag:pre.length<given.length:=by omega
        rw[List.range'_succ,List.flatMap_cons,DN]at hf2
        rw[List.range'_succ,List.flatMap_cons,List.length_append]at hr2
        have hol:=H6 (given:=given) (pre:=pre) (s:=s1) (s0:=([],(0,(0,false)))) (x:=(x:Int)) h (AH d) hat (next:=pre++ [(x:Int)]) (by simp)
        have hw:w64 ((x:Int)+1)=((x+1:Nat):Int):=Aw (by omega)
        have hover: ∀(z:S19) (f' y:Nat),0<f'->Dz z=true->Az (AH d) f' ((n:Int),atN cs V,given,pre,z,([],(0,(0,false))),(pre.length:Int),(y:Int))=some (z,([],(0,(0,false)))):=λz f' y hf' hz=>by
          obtain⟨f',rfl⟩: ∃q,f'=q+1:=⟨f'-1,by omega⟩
          unfold Dz at hz
          rw[Bool.and_eq_true]at hz
          simp only[Az,hz.1,hz.2,if_true,Bool.not_true,Bool.false_eq_true,if_false]
          split<;>(obtain⟨z1,z2,z3,z4⟩:=z;dsimp only at hz⊢;rw[hz.1])
        have step : Dp given pre.length x = true → ∀ R, R = (AT (AH d) Ad ((n : Int), atN cs V, given, pre, (s1.1, (s1.2.1, (s1.2.2.1, s1.2.2.2))), ([], (0, (0, false))), (pre.length : Int), (x : Int), pre ++ [(x : Int)], true, 0)).bind (fun s6 =>
                  if s6.2.2.2.2.2.2.2.2.2 then
                    (AH d (s6.1,s6.2.1,s6.2.2.1,s6.2.2.2.2.2.2.2.2.1,(s6.2.2.2.2.1.1,(s6.2.2.2.2.1.2.1,(s6.2.2.2.2.1.2.2.1,s6.2.2.2.2.1.2.2.2))))).bind λr7=>
                      Az (AH d) f (s6.1,s6.2.1,s6.2.2.1,s6.2.2.2.1,(r7.1,(r7.2.1,(r7.2.2.1,r7.2.2.2))),(s6.2.2.2.2.2.1.1,(s6.2.2.2.2.2.1.2.1,(s6.2.2.2.2.2.1.2.2.1,s6.2.2.2.2.2.1.2.2.2))),s6.2.2.2.2.2.2.1,w64 (s6.2.2.2.2.2.2.2.1+1))
                  else
                    Az (AH d) f (s6.1,s6.2.1,s6.2.2.1,s6.2.2.2.1,(s6.2.2.2.2.1.1,(s6.2.2.2.2.1.2.1,(s6.2.2.2.2.1.2.2.1,s6.2.2.2.2.1.2.2.2))),(s6.2.2.2.2.2.1.1,(s6.2.2.2.2.2.1.2.1,(s6.2.2.2.2.2.1.2.2.1,s6.2.2.2.2.2.1.2.2.2))),s6.2.2.2.2.2.2.1,w64 (s6.2.2.2.2.2.2.2.1+1)))->
            R=some (s',([],(0,(0,false)))):=by
          intro hm R hR
          have hol:AT (AH d) Ad ((n:Int),atN cs V,given,pre,(s1.1,(s1.2.1,(s1.2.2.1,s1.2.2.2))),([],(0,(0,false))),(pre.length:Int),(x:Int),pre++ [(x:Int)],true,0)=_:=hol
          rw[hol]at hR
          simp only[Option.bind_some,hw]at hR
          rw[hm]at hf2 hr2
          cases hfi:okN cs (pre++ [(x:Int)])with
          |false=>
            rw[hfi]at hf2 hr2 hR
            simp only[Bool.and_false,Bool.false_eq_true,if_false,Bq,List.length_nil,Nat.zero_add]at hf2 hr2 hR
            rw[hR]
            exact ihc (x+1) f s1 (by omega) (by omega) hst1 h01 hr1 hr2 s' b hf2
          |true=>
            rw[hfi]at hf2 hr2 hR
            simp only[Bool.and_true,if_true]at hf2 hr2 hR
            obtain⟨⟨s2,b2⟩,hq⟩:=Fw (CB n given (okN cs) m (pre++ [(x:Int)])) s1
            obtain⟨g1,g2,g3,g4,g5⟩:=Fv _ _ _ _ hq
            have g5:=g5 hst1
            rw[hq]at hf2
            have hrec:=ih d (pre++ [(x:Int)]) s1 (by simp;omega) (by omega) hst1 h01 (by omega) (by push_cast at hr2;omega) s2 b2 hq
            have hrec:AH d ((n:Int),atN cs V,given,pre++ [(x:Int)],(s1.1,(s1.2.1,(s1.2.2.1,s1.2.2.2))))=some s2:=hrec
            rw[hrec]at hR
            simp only[Option.bind_some]at hR
            cases hb2:Dz s2 with
            |true=>
              rw[hb2]at g5
              subst g5
              have:s2=s'/\false=b:=by simpa using hf2
              obtain⟨rfl,rfl⟩:=this
              rw[hR]
              exact hover s2 f (x+1) (by omega) hb2
            |false=>
              rw[hb2]at g5
              subst g5
              rw[hR]
              exact ihc (x+1) f s2 (by omega) (by omega) hb2 (by omega) (by rw[g4];exact hr1) (by push_cast at hr2;omega) s' b hf2
        have hlim:pre.length+ [(x:Int)].length<=lim:=by rw[List.length_singleton];unfold lim;omega
        have body: ∀R,R=(if inb (pre.length:Int) given then
            if decide ((gd given (pre.length:Int) 0)≥0)then
              if inb (pre.length:Int) given then
                if(gd given (pre.length:Int) 0) !=(x:Int)then
                  Az (AH d) f ((n:Int),atN cs V,given,pre,(s1.1,(s1.2.1,(s1.2.2.1,s1.2.2.2))),([],(0,(0,false))),(pre.length:Int),w64 ((x:Int)+1))
                else
                  (Ci pre).bind λr2=>
                    if r2.length+ [(x:Int)].length<=lim then
                      (AT (AH d) Ad ((n:Int),atN cs V,given,pre,(s1.1,(s1.2.1,(s1.2.2.1,s1.2.2.2))),([],(0,(0,false))),(pre.length:Int),(x:Int),r2++ [(x:Int)],true,0)).bind (λs6=>
                        if s6.2.2.2.2.2.2.2.2.2 then
                          (AH d (s6.1,s6.2.1,s6.2.2.1,s6.2.2.2.2.2.2.2.2.1,(s6.2.2.2.2.1.1,(s6.2.2.2.2.1.2.1,(s6.2.2.2.2.1.2.2.1,s6.2.2.2.2.1.2.2.2))))).bind λr7=>
                            Az (AH d) f (s6.1,s6.2.1,s6.2.2.1,s6.2.2.2.1,(r7.1,(r7.2.1,(r7.2.2.1,r7.2.2.2))),(s6.2.2.2.2.2.1.1,(s6.2.2.2.2.2.1.2.1,(s6.2.2.2.2.2.1.2.2.1,s6.2.2.2.2.2.1.2.2.2))),s6.2.2.2.2.2.2.1,w64 (s6.2.2.2.2.2.2.2.1+1))
                        else
                          Az (AH d) f (s6.1,s6.2.1,s6.2.2.1,s6.2.2.2.1,(s6.2.2.2.2.1.1,(s6.2.2.2.2.1.2.1,(s6.2.2.2.2.1.2.2.1,s6.2.2.2.2.1.2.2.2))),(s6.2.2.2.2.2.1.1,(s6.2.2.2.2.2.1.2.1,(s6.2.2.2.2.2.1.2.2.1,s6.2.2.2.2.2.1.2.2.2))),s6.2.2.2.2.2.2.1,w64 (s6.2.2.2.2.2.2.2.1+1)))
                    else none
              else none
            else
              (Ci pre).bind λr2=>
                if r2.length+ [(x:Int)].length<=lim then
                  (AT (AH d) Ad ((n:Int),atN cs V,given,pre,(s1.1,(s1.2.1,(s1.2.2.1,s1.2.2.2))),([],(0,(0,false))),(pre.length:Int),(x:Int),r2++ [(x:Int)],true,0)).bind (λs6=>
                    if s6.2.2.2.2.2.2.2.2.2 then
                      (AH d (s6.1,s6.2.1,s6.2.2.1,s6.2.2.2.2.2.2.2.2.1,(s6.2.2.2.2.1.1,(s6.2.2.2.2.1.2.1,(s6.2.2.2.2.1.2.2.1,s6.2.2.2.2.1.2.2.2))))).bind λr7=>
                        Az (AH d) f (s6.1,s6.2.1,s6.2.2.1,s6.2.2.2.1,(r7.1,(r7.2.1,(r7.2.2.1,r7.2.2.2))),(s6.2.2.2.2.2.1.1,(s6.2.2.2.2.2.1.2.1,(s6.2.2.2.2.2.1.2.2.1,s6.2.2.2.2.2.1.2.2.2))),s6.2.2.2.2.2.2.1,w64 (s6.2.2.2.2.2.2.2.1+1))
                    else
                      Az (AH d) f (s6.1,s6.2.1,s6.2.2.1,s6.2.2.2.1,(s6.2.2.2.2.1.1,(s6.2.2.2.2.1.2.1,(s6.2.2.2.2.1.2.2.1,s6.2.2.2.2.1.2.2.2))),(s6.2.2.2.2.2.1.1,(s6.2.2.2.2.2.1.2.1,(s6.2.2.2.2.2.1.2.2.1,s6.2.2.2.2.2.1.2.2.2))),s6.2.2.2.2.2.2.1,w64 (s6.2.2.2.2.2.2.2.1+1)))
                else none
          else none)->R=some (s',([],(0,(0,false)))):=by
          intro R hR
          rw[DI (show pre.length<=1099511627775 by omega)]at hR
          simp only[AA,hag,if_true,Option.bind_some]at hR
          rw[if_pos hlim]at hR
          by_cases hc1:gd given (pre.length:Int) 0≥0
          · rw[if_pos (decide_eq_true hc1)]at hR
            by_cases hc2:gd given (pre.length:Int) 0=(x:Int)
            · rw[if_neg (by simpa using hc2)]at hR
              exact step (by unfold Dp;rw[show given.getD pre.length 0=(x:Int) from hc2];simp) R hR
            · rw[if_pos (by simpa using hc2),hw]at hR
              have hm:Dp given pre.length x=false:=by
                unfold Dp
                rw[decide_eq_true (show given.getD pre.length 0≥0 from hc1)]
                simp only[Bool.true_and,Bool.not_eq_false',bne_iff_ne];exact hc2
              rw[hm]at hf2 hr2
              simp only[Bool.false_and,Bool.false_eq_true,if_false,Bq,List.length_nil,Nat.zero_add]at hf2 hr2
              rw[hR]
              exact ihc (x+1) f s1 (by omega) (by omega) hst1 h01 hr1 hr2 s' b hf2
          · rw[if_neg (by simpa using hc1)]at hR
            exact step (by unfold Dp;rw[decide_eq_false (show¬given.getD pre.length 0≥0 from hc1)];rfl) R hR
        simp only[Az]
        rw[if_pos (by simp;omega)]
        cases hone:s1.2.2.2 with
        |true=>
          have hcnt:decide (s1.2.1>0)=false:=by unfold Dz at hst1;rw[hone]at hst1;simpa using hst1
          rw[hcnt]
          simp only[if_true,Bool.not_false]
          refine body _ ?_
          rw[hone]
        |false=>
          simp only[Bool.false_eq_true,if_false,Bool.not_false,if_true]
          refine body _ ?_
          rw[hone]
    simp only[CB]at hf hr2
    rw[List.range_eq_range']at hf hr2
    have h4:=key n 0 Ad s (by omega) (by unfold Ad;omega) hst h0 hr1 hr2 s' b hf
    have hlN:(atN cs V).length=V:=by simp[atN]
    simp only[AH,Dq]
    rw[if_neg (by simp;omega)]
    have h4:Az (AH d) Ad ((n:Int),atN cs V,given,pre,(s.1,(s.2.1,(s.2.2.1,s.2.2.2))),([],(0,(0,false))),(pre.length:Int),0)=_:=h4
    rw[h4];rfl
theorem Dt (h:SrchOk V n cs) (hg:given.length=V) {cs0:List Con} {most:Int} {one:Bool} (hm:most<=1000000) {s':S19} {b:Bool} (hf:Bq EN (AB V n cs given) ([],0,most,one)=some (s',b)):
  BY ((V:Int),((n:Int),cs0)) cs given most one=some s':=by
 have hV:=h.hv
 have hn:=h.hn
 unfold BY
 have hl:(AB V n cs given).length<=4^9:=by
  refine Nat.le_trans (ET (n:=n) (given:=given) V []) ?_
  exact Nat.le_trans (Nat.pow_le_pow_left hn.2 V) (Nat.pow_le_pow_right (by omega) hV)
 have:=H5 h hg V Ad [] ([],0,most,one) (by simp) (by unfold Ad;omega) (by simp[Dz]) (by simp) hm (by
  have:(4:Nat)^9=262144:=by decide
  rw[this]at hl
  have:(CB n given (okN cs) V []).length=(AB V n cs given).length:=rfl
  dsimp only;omega) s' b hf
 simp only[Ib h,Option.bind_some,this]
end
end T
set_option linter.unusedVariables false
open Go Go.Va
namespace T
def Cb (c:(List Int)×Int×Int):Option (((List Int)×Int×Int)×Int):=
 if decide (c.2.1<(c.1.length:Int))then
 if inb c.2.1 c.1 then
 if decide ((w64 (c.2.1+1))<=(c.1.length:Int))then
 some ((c.1,(w64 (c.2.1+1),IntKind.wrap .u64 ((IntKind.wrap .u64 ((IntKind.wrap .u64 (c.2.2*6364136223846793005))+(IntKind.wrap .u64 (w64 (gd c.1 c.2.1 0)))))+550289))),w64 (gd c.1 c.2.1 0))
 else
 if(0:Int)<=40 then
 some ((c.1,(w64 (c.2.1+1),IntKind.wrap .u64 ((IntKind.wrap .u64 ((IntKind.wrap .u64 (c.2.2*6364136223846793005))+(IntKind.wrap .u64 (w64 (gd c.1 c.2.1 0)))))+550289))),w64 (Yil .u64 (YiD .u64 (IntKind.wrap .u64 ((IntKind.wrap .u64 ((IntKind.wrap .u64 (c.2.2*6364136223846793005))+(IntKind.wrap .u64 (w64 (gd c.1 c.2.1 0)))))+550289)) 40) 255))
 else none
 else none
 else
 if decide ((w64 (c.2.1+1))<=(c.1.length:Int))then
 some ((c.1,(w64 (c.2.1+1),IntKind.wrap .u64 ((IntKind.wrap .u64 ((IntKind.wrap .u64 (c.2.2*6364136223846793005))+(IntKind.wrap .u64 (0))))+550289))),0)
 else
 if(0:Int)<=40 then
 some ((c.1,(w64 (c.2.1+1),IntKind.wrap .u64 ((IntKind.wrap .u64 ((IntKind.wrap .u64 (c.2.2*6364136223846793005))+(IntKind.wrap .u64 (0))))+550289))),w64 (Yil .u64 (YiD .u64 (IntKind.wrap .u64 ((IntKind.wrap .u64 ((IntKind.wrap .u64 (c.2.2*6364136223846793005))+(IntKind.wrap .u64 (0))))+550289)) 40) 255))
 else none
def Ae (c:(List Int)×Int×Int) (n_:Int):Option (((List Int)×Int×Int)×Int):=
 if decide (n_<=1)then
 some ((c.1,(c.2.1,c.2.2)),0)
 else
 (Cb (c.1,(c.2.1,c.2.2))).bind λr1=>
 if decide (n_>200)then
 (Cb (r1.1.1,(r1.1.2.1,r1.1.2.2))).bind λr2=>
 if n_≠0 then
 some ((r2.1.1,(r2.1.2.1,r2.1.2.2)),Int.tmod (w64 ((w64 (r1.2*256))+r2.2)) n_)
 else none
 else
 if n_≠0 then
 some ((r1.1.1,(r1.1.2.1,r1.1.2.2)),Int.tmod r1.2 n_)
 else none
def Ab (c:(List Int)×Int×Int) (list:List Int):Option (((List Int)×Int×Int)×Int):=
 (Ae (c.1,(c.2.1,c.2.2)) (list.length:Int)).bind λr1=>
 if inb r1.2 list then
 some ((r1.1.1,(r1.1.2.1,r1.1.2.2)),gd list r1.2 0)
 else none
def Av (c:(List Int)×Int×Int) (n_:Int):Option (((List Int)×Int×Int)×Bool):=
 (Ae (c.1,(c.2.1,c.2.2)) n_).bind λr1=>
 some ((r1.1.1,(r1.1.2.1,r1.1.2.2)),r1.2==0)
end T
open Go Go.Va
namespace T
abbrev CR:=List Int×Int×Int
def Cur (k:Nat) (c:CR):Prop:=c.1.length<=65536/\(∀x∈c.1,0<=x/\x<256)/\0<=c.2.1/\c.2.1<=(k:Int)
theorem Iw (x:Int):0<=w64 (Yil .u64 x 255)/\w64 (Yil .u64 x 255)<256:=by
 have h1:(BitVec.ofInt 64 x&&&BitVec.ofInt 64 255).toNat<=255:=by
  rw[BitVec.toNat_and]
  have:(BitVec.ofInt 64 255).toNat=255:=by decide
  rw[this]
  exact Nat.and_le_right
 have h2:Yil .u64 x 255=((BitVec.ofInt 64 x&&&BitVec.ofInt 64 255).toNat:Int):=by
  unfold Yil
  have e: ∀n:Nat,n<=255->IntKind.wrap .u64 (n:Int)=(n:Int):=λn hn=>by
   simp[IntKind.wrap,IntKind.bits,IntKind.signed]
   omega
  exact e _ h1
 rw[h2,Bp (by omega) (by omega)]
 omega
theorem GU {k:Nat} {c:CR} (h:Cur k c) (hk:k<=1000000000): ∃c' x,Cb c=some (c',x)/\Cur (k+1) c'/\0<=x/\x<256:=by
 obtain⟨code,at',seed⟩:=c
 obtain⟨h1,h2,h3,h4⟩:=h
 dsimp only at h1 h2 h3 h4
 have hw:w64 (at'+1)=at'+1:=Bp (by omega) (by omega)
 have hC: ∀s,Cur (k+1) (code,(at'+1,s)):=λs=>⟨h1,h2,by dsimp only;omega,by dsimp only;omega⟩
 unfold Cb
 simp only[hw]
 by_cases hc:at'<(code.length:Int)
 ·have hin:inb at' code:=⟨h3,hc⟩
  have hle:at'+1<=(code.length:Int):=by omega
  have hb:0<=gd code at' 0/\gd code at' 0<256:=by
   have:gd code at' 0=code.getD at'.toNat 0:=rfl
   rw[this,AF (by omega)]
   exact h2 _ (List.getElem_mem _)
  rw[if_pos (decide_eq_true hc),if_pos hin,if_pos (decide_eq_true hle)]
  exact⟨_,_,rfl,hC _,by rw[Bp (by omega) (by omega)];exact hb⟩
 ·have hle: ¬at'+1<=(code.length:Int):=by omega
  rw[if_neg (by simpa using hc),if_neg (by simpa using hle),if_pos (by decide)]
  exact⟨_,_,rfl,hC _,Iw _⟩
theorem Ck {k:Nat} {c:CR} (h:Cur k c) (hk:k<=100000000) (n:Int) (hn:n<=1000000): ∃c' x,Ae c n=some (c',x)/\Cur (k+2) c'/\0<=x/\(1<=n->x<n)/\(n<=1->x=0):=by
 have mono: ∀ {c:CR} {i j:Nat},i<=j->Cur i c->Cur j c:=λhij ⟨a,b,d,e⟩=>⟨a,b,d,by omega⟩
 unfold Ae
 by_cases h1:n<=1
 ·rw[if_pos (decide_eq_true h1)]
  exact⟨_,_,rfl,mono (by omega) h,by omega,λ_=>by omega,λ_=>rfl⟩
 ·rw[if_neg (by simpa using h1)]
  obtain⟨c1,x1,e1,g1,a1,b1⟩:=GU h (by omega)
  have e1:Cb (c.1,(c.2.1,c.2.2))=_:=e1
  simp only[e1,Option.bind_some]
  by_cases h2:n>200
  ·obtain⟨c2,x2,e2,g2,a2,b2⟩:=GU g1 (by omega)
   have e2:Cb (c1.1,(c1.2.1,c1.2.2))=_:=e2
   rw[if_pos (decide_eq_true h2)]
   simp only[e2,Option.bind_some]
   rw[if_pos (by omega)]
   have w1:w64 (x1*256)=x1*256:=Bp (by omega) (by omega)
   have w2:w64 (x1*256+x2)=x1*256+x2:=Bp (by omega) (by omega)
   refine⟨_,_,rfl,g2,?_,λ_=>?_,λh=>absurd h h1⟩
   ·rw[w1,w2,Int.tmod_eq_emod_of_nonneg (by omega)];exact Int.emod_nonneg _ (by omega)
   ·rw[w1,w2,Int.tmod_eq_emod_of_nonneg (by omega)];exact Int.emod_lt_of_pos _ (by omega)
  ·rw[if_neg (by simpa using h2),if_pos (by omega)]
   refine⟨_,_,rfl,mono (by omega) g1,?_,λ_=>?_,λh=>absurd h h1⟩
   ·rw[Int.tmod_eq_emod_of_nonneg a1];exact Int.emod_nonneg _ (by omega)
   ·rw[Int.tmod_eq_emod_of_nonneg a1];exact Int.emod_lt_of_pos _ (by omega)
theorem CA {k:Nat} {c:CR} (h:Cur k c) (hk:k<=100000000) {l:List Int} (h0:0<l.length) (hl:l.length<=1000): ∃c' x,Ab c l=some (c',x)/\Cur (k+2) c'/\x∈l:=by
 obtain⟨c1,x1,e1,g1,a1,b1,_⟩:=Ck h hk (l.length:Int) (by omega)
 have b1:=b1 (by omega)
 unfold Ab
 have e1:Ae (c.1,(c.2.1,c.2.2)) (l.length:Int)=_:=e1
 simp only[e1,Option.bind_some]
 have hin:inb x1 l:=⟨a1,b1⟩
 rw[if_pos hin]
 refine⟨_,_,rfl,g1,?_⟩
 have:gd l x1 0=l.getD x1.toNat 0:=rfl
 rw[this]
 exact Ev (by omega)
theorem D5 {k:Nat} {c:CR} (h:Cur k c) (hk:k<=100000000) (n:Int) (hn:n<=1000000): ∃c' x,Av c n=some (c',x)/\Cur (k+2) c':=by
 obtain⟨c1,x1,e1,g1,_⟩:=Ck h hk n hn
 unfold Av
 have e1:Ae (c.1,(c.2.1,c.2.2)) n=_:=e1
 simp only[e1,Option.bind_some]
 exact⟨_,_,rfl,g1⟩
theorem Cur.mono {c:CR} {i j:Nat} (hij:i<=j):Cur i c->Cur j c:=λ⟨a,b,d,e⟩=>⟨a,b,d,by omega⟩
end T
set_option linter.unusedVariables false
open Go Go.Va
namespace T
def Ep (list:List (List Int)) (t:List Int):Option ((List (List Int))):=
 (Dn list t).bind λr1=>
 if r1.2 then
 some list
 else
 if(0:Int)<=0/\0<=r1.1/\r1.1<=(list.length:Int)then
 if([]:List (List Int)).length+((list.take (Int.toNat r1.1)).drop (Int.toNat 0)).length<=lim then
 if([]++((list.take (Int.toNat r1.1)).drop (Int.toNat 0))).length+ [t].length<=lim then
 if(0:Int)<=r1.1/\r1.1<=(list.length:Int)/\(list.length:Int)<=(list.length:Int)then
 if(([]++((list.take (Int.toNat r1.1)).drop (Int.toNat 0)))++ [t]).length+((list.take (Int.toNat (list.length:Int))).drop (Int.toNat r1.1)).length<=lim then
 some ((([]++((list.take (Int.toNat r1.1)).drop (Int.toNat 0)))++ [t])++((list.take (Int.toNat (list.length:Int))).drop (Int.toNat r1.1)))
 else none
 else none
 else none
 else none
 else none
end T
open Go Go.Va
namespace T
def Zn (cmp:List Int->List Int->Int) (rows:List (List Int)):List (List Int):=rows.mergeSort (λx y=>!decide (cmp y x<0))
def cmpT (s t:List Int):Int:=if s.length<t.length then-1 else if t.length<s.length then 1 else cmpL s t
theorem cmpT_refl (s:List Int):cmpT s s=0:=by unfold cmpT;rw[if_neg (by omega),if_neg (by omega),cmpL_refl]
theorem cmpT_symm (s t:List Int):cmpT t s= -cmpT s t:=by
 unfold cmpT
 by_cases h1:s.length<t.length
 ·rw[if_neg (by omega),if_pos h1,if_pos h1];rfl
 ·by_cases h2:t.length<s.length
  ·rw[if_pos h2,if_neg h1,if_pos h2]
  ·rw[if_neg h2,if_neg h1,if_neg h1,if_neg h2,cmpL_symm]
theorem cmpT_eq {s t:List Int} (h:cmpT s t=0):s=t:=by
 unfold cmpT at h
 by_cases h1:s.length<t.length
 ·rw[if_pos h1]at h;exact absurd h (by decide)
 ·rw[if_neg h1]at h
  by_cases h2:t.length<s.length
  ·rw[if_pos h2]at h;exact absurd h (by decide)
  ·rw[if_neg h2]at h;exact cmpL_eq.1 h
theorem cmpT_trans {s t u:List Int} (h1:cmpT s t<0) (h2:cmpT t u<0):cmpT s u<0:=by
 unfold cmpT at*
 by_cases a1:s.length<u.length
 ·rw[if_pos a1];decide
 ·rw[if_neg a1]
  by_cases b1:s.length<t.length
  ·have b2:u.length<t.length:=by omega
   rw[if_neg (by omega),if_pos b2]at h2;exact absurd h2 (by decide)
  ·rw[if_neg b1]at h1
   by_cases b3:t.length<s.length
   ·rw[if_pos b3]at h1;exact absurd h1 (by decide)
   ·rw[if_neg b3]at h1
    by_cases c1:t.length<u.length
    ·omega
    ·rw[if_neg c1]at h2
     by_cases c2:u.length<t.length
     ·rw[if_pos c2]at h2;exact absurd h2 (by decide)
     ·rw[if_neg c2]at h2
      rw[if_neg (by omega)]
      exact cmpL_trans h1 h2
end T
open Go Go.Va
namespace T
theorem CU {l:List (List Int)}:CT l=true↔l.Pairwise (λa b=>cmpL a b<0):=by
 constructor
 ·intro h
  rw[List.pairwise_iff_getElem]
  exact λi j hi hj hij=>DO h i j hij hj
 ·intro h
  rw[Gc]
  rw[List.pairwise_iff_getElem]at h
  exact λi hi=>h i (i+1) (by omega) hi (by omega)
theorem Fq {list:List (List Int)} {t:List Int} {k:Nat} (hl:list.length<=1000000) (hk:k<=1000000) (hv: ∀u∈list,u.length=k) (ht:t.length=k) (hi:CT list=true):
  ∃out,Ep list t=some out/\CT out=true/\(∀u,u∈out↔u=t∨u∈list)/\(t∉list->out.Perm (t::list)):=by
 obtain⟨c,e,k1,k2,k3⟩:=Dy (by omega) (by omega) hv ht hi
 unfold Ep
 rw[e]
 simp only[Option.bind_some]
 by_cases hm:t∈list
 ·rw[decide_eq_true hm,if_pos rfl]
  exact⟨list,rfl,hi,λu=>⟨Or.inr,λh=>h.elim (λh=>h▸hm) id⟩,λh=>absurd hm h⟩
 ·rw[decide_eq_false hm,if_neg (by simp)]
  have e1:(list.take (Int.toNat (c:Int))).drop (Int.toNat 0)=list.take c:=by simp
  have e2:(list.take (Int.toNat (list.length:Int))).drop (Int.toNat (c:Int))=list.drop c:=by simp
  have hlim:lim=1099511627776:=rfl
  have t1:(list.take c).length=c:=by rw[List.length_take];omega
  rw[e1,e2,if_pos (by omega),if_pos (by simp;omega),if_pos (by simp;omega),if_pos (by omega),if_pos (by simp;omega)]
  refine⟨_,rfl,?_,λu=>?_,λ_=>?_⟩
  ·rw[CU]at hi⊢
   simp only[List.nil_append]
   have hsp:list=list.take c++list.drop c:=(List.take_append_drop c list).symm
   rw[hsp,List.pairwise_append]at hi
   have h4: ∀u∈list.take c,cmpL u t<0:=λu hu=>by
    obtain⟨i,hi',rfl⟩:=List.mem_iff_getElem.1 hu
    rw[List.getElem_take]
    exact k2 i _ (by omega)
   have h5: ∀u∈list.drop c,cmpL t u<0:=λu hu=>by
    obtain⟨i,hi',rfl⟩:=List.mem_iff_getElem.1 hu
    rw[List.length_drop]at hi'
    rw[List.getElem_drop]
    have h6:=k3 (c+i) (by omega) (by omega)
    have h7:=cmpL_symm (list[c+i]'(by omega)) t
    have h8:cmpL (list[c+i]'(by omega)) t≠0:=λh=>hm (by rw[←cmpL_eq.1 h];exact List.getElem_mem _)
    omega
   rw[List.pairwise_append,List.pairwise_append]
   refine⟨⟨hi.1,List.pairwise_singleton _ _,λa ha b hb=>by rw[List.mem_singleton.1 hb];exact h4 a ha⟩,hi.2.1,λa ha b hb=>?_⟩
   rcases List.mem_append.1 ha with ha|ha
   ·exact hi.2.2 a ha b hb
   ·rw[List.mem_singleton.1 ha];exact h5 b hb
  ·have hsp:u∈list↔u∈list.take c∨u∈list.drop c:=by rw[←List.mem_append,List.take_append_drop]
   simp only[List.nil_append,List.mem_append,List.mem_singleton,hsp]
   constructor
   ·rintro ((h|h)|h)
    ·exact Or.inr (Or.inl h)
    ·exact Or.inl h
    ·exact Or.inr (Or.inr h)
   ·rintro (h|h|h)
    ·exact Or.inl (Or.inr h)
    ·exact Or.inl (Or.inl h)
    ·exact Or.inr h
  ·simp only[List.nil_append]
   refine(List.Perm.append_right _ (List.perm_append_comm)).trans ?_
   rw[List.append_assoc,List.take_append_drop]
   exact List.Perm.refl _
theorem G4 {x y:List Int} (h1: ¬cmpL y x<0) (h2: ¬cmpL x y<0):x=y:=by
 have:=cmpL_symm x y
 exact cmpL_eq.1 (by omega)
theorem D8 {out l:List (List Int)} (hi:CT out=true) (hp:out.Perm l):Zn cmpL l=out:=by
 have hs:(Zn cmpL l).Pairwise λx y=>(!decide (cmpL y x<0))=true:=by
  unfold Zn
  refine List.pairwise_mergeSort (λa b c h1 h2=>?_) (λa b=>?_) l
  ·simp only[Bool.not_eq_true',decide_eq_false_iff_not]at*
   intro h3
   have q1:=cmpL_symm a b
   have q2:=cmpL_symm b c
   by_cases e:cmpL a b=0
   ·rw[cmpL_eq.1 e]at h3;exact h2 h3
   ·exact h2 (cmpL_trans h3 (by omega))
  ·simp only[Bool.or_eq_true,Bool.not_eq_true',decide_eq_false_iff_not]
   have q1:=cmpL_symm a b
   omega
 have ho:out.Pairwise λx y=>(!decide (cmpL y x<0))=true:=by
  refine(CU.1 hi).imp ?_
  intro a b h
  simp only[Bool.not_eq_true',decide_eq_false_iff_not]
  have q1:=cmpL_symm a b
  omega
 have hpp:(Zn cmpL l).Perm out:=(List.mergeSort_perm l _).trans hp.symm
 refine List.Perm.eq_of_pairwise (λa b _ _ h1 h2=>?_) hs ho hpp
 simp only[Bool.not_eq_true',decide_eq_false_iff_not]at h1 h2
 exact G4 h1 h2
end T
set_option linter.unusedVariables false
open Go Go.Va
namespace T
def BJ (a0:List (List Int)) (a1:Unit):Option (List (List Int)):=
 if List.length a0<=lim/\List.all a0 (λx=>decide (List.length x<=lim))=true then some (Zn cmpL a0)else none
end T
open Go Go.Va
namespace T
section
variable {p:Int} {W N V:Nat}
def coG (p:Int) (s:ES) (u:Nat) (f:Int):Int:=if EM s.2.1 u<0 then(if f=(u:Int)then 1 else 0)else p-(s.1.getD (EM s.2.1 u).toNat []).getD f.toNat 0
def IP (p:Int) (V:Nat) (s:ES) (F x:List Int) (u:Nat):Nat->Int
 |0=>HO V s u
 |k+1=>IP p V s F x u k+coG p s u (F.getD k 0)*x.getD k 0
def Jd (p:Int) (V:Nat) (s:ES) (F x:List Int) (k:Nat):List Int:=(List.range V).map λu=>IP p V s F x u k%p
structure GenOk (p:Int) (W N V:Nat) (s:ES) (F x:List Int):Prop where
 hp:pr4 p
 hs:ESok p W N V s
 hV:V<W
 hW:W<=1000
 hN:N<=100000
 hF:F=IY V s.2.1
 hx:x.length=F.length
 xb: ∀v∈x,0<=v/\v<p
variable {s:ES} {F x:List Int}
theorem GenOk.pb (g:GenOk p W N V s F x):2<=p/\p<=7:=by have:=g.hp;unfold pr4 at this;omega
theorem GenOk.row (g:GenOk p W N V s F x) {u:Nat} (hu: ¬EM s.2.1 u<0):(EM s.2.1 u).toNat<s.1.length/\GV p W (s.1.getD (EM s.2.1 u).toNat []):=by
 have hm:(u:Int)∈s.2.1:=by
  rcases Decidable.em ((u:Int)∈s.2.1)with h|h
  ·exact h
  ·exact absurd (HJ.2 h) hu
 obtain⟨i,hi,g1,_⟩:=GW hm
 rw[g1,Int.toNat_natCast]
 have:=g.hs.bl
 exact⟨by omega,by rw[AF (by omega)];exact g.hs.t _ (List.getElem_mem _)⟩
theorem GenOk.base (g:GenOk p W N V s F x) (u:Nat):0<=HO V s u/\HO V s u<p:=by
 have:=g.pb
 unfold HO
 split
 ·omega
 ·rename_i h
  exact II (g.row h).2 g.hV
end
end T
open Go Go.Va
namespace T
section
variable {p:Int} {W N V:Nat} {s:ES} {F x:List Int}
theorem GenOk.zero (g:GenOk p W N V s F x):Jd p V s F x 0=I9 V s:=by
 unfold Jd I9
 refine List.map_congr_left λu _=>?_
 have:=g.base u
 simp only[IP]
 exact Int.emod_eq_of_lt this.1 this.2
end
end T
open Go Go.Va
namespace T
section
variable {a:Lin} {p:Int} {W N V:Nat} {s:ES} {F:List Int}
theorem Fe (l:List (List Int)):(Zn cmpL l).Perm l:=List.mergeSort_perm l _
theorem GF {l:List (List Int)} (hn:l.Nodup):CT (Zn cmpL l)=true:=by
 rw[CU]
 have hs:(Zn cmpL l).Pairwise λx y=>(!decide (cmpL y x<0))=true:=by
  unfold Zn
  refine List.pairwise_mergeSort (λa b c h1 h2=>?_) (λa b=>?_) l
  ·simp only[Bool.not_eq_true',decide_eq_false_iff_not]at*
   intro h3
   have q1:=cmpL_symm a b
   have q2:=cmpL_symm b c
   by_cases e:cmpL a b=0
   ·rw[cmpL_eq.1 e]at h3;exact h2 h3
   ·exact h2 (cmpL_trans h3 (by omega))
  ·simp only[Bool.or_eq_true,Bool.not_eq_true',decide_eq_false_iff_not]
   have q1:=cmpL_symm a b
   omega
 have hn':(Zn cmpL l).Nodup:=(Fe l).nodup_iff.2 hn
 refine(hs.and hn').imp ?_
 intro x y h
 obtain⟨h1,h2⟩:=h
 simp only[Bool.not_eq_true',decide_eq_false_iff_not]at h1
 have q1:=cmpL_symm x y
 have q2:cmpL x y≠0:=λe=>h2 (cmpL_eq.1 e)
 omega
end
end T
open Go Go.Va
namespace T
def Zm (xs:List (List Int)):List Nat:=(List.range xs.length).filter λi=>i==0||xs.getD (i-1) [] !=xs.getD i []
def Zx (xs:List (List Int)):List (List Int):=(Zm xs).map λi=>xs.getD i []
def dgP:List Int->List (List Int)->List (List Int)
 |_,[]=> []
 |p,x::l=>if p=x then dgP x l else x::dgP x l
theorem Fu: ∀(l pre:List (List Int)) (p:List Int),((List.range' (pre++ [p]).length l.length).filter λi=>i==0||(pre++ [p]++l).getD (i-1) [] !=(pre++ [p]++l).getD i []).map (λi=>(pre++ [p]++l).getD i [])=dgP p l
 | [],_,_=>rfl
 |x::l,pre,p=>by
  have ih:=Fu l (pre++ [p]) x
  have e:pre++ [p]++ [x]++l=pre++ [p]++(x::l):=by simp
  rw[e]at ih
  have e2:(pre++ [p]++ [x]).length=(pre++ [p]).length+1:=by simp
  rw[e2]at ih
  have g1:(pre++ [p]++(x::l)).getD ((pre++ [p]).length-1) []=p:=by
   rw[List.getD_eq_getElem?_getD,List.getElem?_append_left (by simp),List.length_append,List.length_singleton,Nat.add_sub_cancel,List.getElem?_append_right (Nat.le_refl _),Nat.sub_self];rfl
  have g2:(pre++ [p]++(x::l)).getD (pre++ [p]).length []=x:=by
   rw[List.getD_eq_getElem?_getD,List.getElem?_append_right (Nat.le_refl _),Nat.sub_self];rfl
  have g3:((pre++ [p]).length==0)=false:=by simp
  rw[List.length_cons,List.range'_succ,List.filter_cons,g1,g2,g3,dgP]
  by_cases h:p=x
  ·rw[if_neg (by simp[h]),if_pos h];exact ih
  ·rw[if_pos (by simp[h]),if_neg h,List.map_cons,g2];exact congrArg _ ih
theorem EZ {x:List Int} {l:List (List Int)}:Zx (x::l)=x::dgP x l:=by
 have h:=Fu l [] x
 unfold Zx Zm
 rw[List.range_eq_range',List.length_cons,List.range'_succ,List.filter_cons,if_pos (by simp),List.map_cons]
 exact congrArg _ h
theorem GR: ∀ {l:List (List Int)} {p u:List Int},(u∈dgP p l∨u=p)↔(u∈l∨u=p)
 | [],_,_=>Iff.rfl
 |x::l,p,u=>by
  have ih:=GR (l:=l) (p:=x) (u:=u)
  unfold dgP
  by_cases h:p=x
  ·subst h
   rw[if_pos rfl,ih,List.mem_cons]
   exact⟨λh=>h.elim (λh=>Or.inl (Or.inr h)) Or.inr,λh=>h.elim (λh=>h.elim Or.inr Or.inl) Or.inr⟩
  ·rw[if_neg h,List.mem_cons,List.mem_cons]
   constructor
   ·rintro ((h|h)|h)
    ·exact Or.inl (Or.inl h)
    ·exact Or.inl ((ih.1 (Or.inl h)).elim Or.inr Or.inl)
    ·exact Or.inr h
   ·rintro ((h|h)|h)
    ·exact Or.inl (Or.inl h)
    ·exact Or.inl ((ih.2 (Or.inl h)).elim Or.inr Or.inl)
    ·exact Or.inr h
theorem G6 {l:List (List Int)} {u:List Int}:u∈Zx l↔u∈l:=by
 cases l with
 |nil=>exact Iff.rfl
 |cons x l=>
  rw[EZ,List.mem_cons,List.mem_cons]
  have:=GR (l:=l) (p:=x) (u:=u)
  exact⟨λh=>(this.1 h.symm).symm,λh=>(this.2 h.symm).symm⟩
theorem GQ: ∀ {l:List (List Int)} {p:List Int},(p::l).Pairwise (λa b=> ¬cmpL b a<0)->(p::dgP p l).Pairwise λa b=>cmpL a b<0
 | [],_,_=>List.pairwise_singleton _ _
 |x::l,p,h=>by
  have h1:=List.pairwise_cons.1 h
  have ih:=GQ (l:=l) (p:=x) h1.2
  unfold dgP
  by_cases e:p=x
  ·subst e;rw[if_pos rfl];exact ih
  ·rw[if_neg e]
   refine List.pairwise_cons.2 ⟨λb hb=>?_,ih⟩
   have hlt:cmpL p x<0:=by
    have h2:=h1.1 x (List.mem_cons_self ..)
    have h3:=cmpL_symm p x
    have h4:cmpL p x≠0:=λh=>e (cmpL_eq.1 h)
    omega
   rcases List.mem_cons.1 hb with rfl|hb
   ·exact hlt
   ·exact cmpL_trans hlt ((List.pairwise_cons.1 ih).1 b hb)
theorem HQ (l:List (List Int)):(Zn cmpL l).Pairwise λa b=> ¬cmpL b a<0:=by
 have hs:(Zn cmpL l).Pairwise λx y=>(!decide (cmpL y x<0))=true:=by
  unfold Zn
  refine List.pairwise_mergeSort (λa b c h1 h2=>?_) (λa b=>?_) l
  ·simp only[Bool.not_eq_true',decide_eq_false_iff_not]at*
   intro h3
   have q1:=cmpL_symm a b
   have q2:=cmpL_symm b c
   by_cases e:cmpL a b=0
   ·rw[cmpL_eq.1 e]at h3;exact h2 h3
   ·exact h2 (cmpL_trans h3 (by omega))
  ·simp only[Bool.or_eq_true,Bool.not_eq_true',decide_eq_false_iff_not]
   have q1:=cmpL_symm a b
   omega
 exact hs.imp fun {a b} h=>by simpa using h
def Eh (l:List (List Int)):List (List Int):=Zx (Zn cmpL l)
theorem setL_mem {l:List (List Int)} {u:List Int}:u∈Eh l↔u∈l:=by
 unfold Eh;rw[G6];exact(List.mergeSort_perm l _).mem_iff
theorem Fb (l:List (List Int)):CT (Eh l)=true:=by
 rw[CU]
 unfold Eh
 have h:=HQ l
 generalize Zn cmpL l=s at h
 cases s with
 |nil=>exact List.Pairwise.nil
 |cons x s=>rw[EZ];exact GQ h
theorem Gd: ∀ {a b:List (List Int)},CT a=true->CT b=true->(∀u,u∈a↔u∈b)->a=b:=by
 intro a b ha hb h
 have pa:=CU.1 ha
 have pb:=CU.1 hb
 have na:a.Nodup:=pa.imp fun {x y} h e=>by rw[e,cmpL_refl]at h;omega
 have nb:b.Nodup:=pb.imp fun {x y} h e=>by rw[e,cmpL_refl]at h;omega
 have hp:a.Perm b:=(List.perm_ext_iff_of_nodup na nb).2 h
 rw[←D8 ha (List.Perm.refl _),←D8 hb (List.Perm.refl _)]
 have h1:=D8 ha hp
 have h2:=D8 hb (List.Perm.refl b)
 have h3:=D8 ha (List.Perm.refl a)
 rw[h2,h3,←h1,h2]
theorem GZ {out l:List (List Int)} (hi:CT out=true) (hm: ∀u,u∈out↔u∈l):Eh l=out:=
 Gd (Fb l) hi λu=>setL_mem.trans (hm u).symm
theorem Hs (l:List (List Int)):(Zx l).length<=l.length:=by
 unfold Zx Zm
 rw[List.length_map]
 exact Nat.le_trans (List.length_filter_le _ _) (by rw[List.length_range];exact Nat.le_refl _)
theorem Ik (l:List (List Int)):(Eh l).length<=l.length:=by
 unfold Eh
 have:=Hs (Zn cmpL l)
 rwa [show(Zn cmpL l).length=l.length from(List.mergeSort_perm l _).length_eq]at this
end T
set_option linter.unusedVariables false
open Go Go.Va
namespace T
def Dv (a0:List (List Int)):Option (List (List Int)):=
 if List.length a0<=lim/\List.all a0 (λx=>decide (List.length x<=lim))=true then some (Zx a0)else none
end T
open Go Go.Va
namespace T
section
variable {n:Int} {k:Nat} {ts:List (List Int)}
def Ih (ts:List (List Int)) (i j:Nat):List Int:=(ts.getD j []).take i
def Ip (ts:List (List Int)) (i j:Nat):Int:=(ts.getD j []).getD i 0
end
end T
open Go Go.Va
namespace T
section
variable {n:Int} {k:Nat} {ts:List (List Int)}
def Is (ts:List (List Int)) (i:Nat) (x y:Int) (a b:Nat):Bool:=Ip ts i a==x&&(Ip ts i b==y&&decide (Ih ts i a=Ih ts i b))
def bO (ts:List (List Int)) (i:Nat) (x y:Int) (a:Nat):Option Nat:=(List.range ts.length).find? (Is ts i x y a)
def HI (ts:List (List Int)) (i:Nat) (x y:Int):Option (Nat×Nat):=(List.range ts.length).findSome? λa=>(bO ts i x y a).map λb=>(a,b)
theorem GJ {i:Nat} {x y:Int} {a b:Nat} (h:HI ts i x y=some (a,b)):a<ts.length/\b<ts.length/\Ip ts i a=x/\Ip ts i b=y/\Ih ts i a=Ih ts i b:=by
 unfold HI at h
 obtain⟨a',ha,h⟩:=List.exists_of_findSome?_eq_some h
 obtain⟨b',hb,h⟩:=Option.map_eq_some_iff.1 h
 obtain⟨rfl,rfl⟩:=Prod.mk.inj h
 have h1:=List.find?_some hb
 have h2:=List.mem_of_find?_eq_some hb
 unfold Is at h1
 simp only[Bool.and_eq_true,beq_iff_eq,decide_eq_true_eq]at h1
 exact⟨List.mem_range.1 ha,List.mem_range.1 h2,h1.1,h1.2.1,h1.2.2⟩
theorem Ii {out list:List (List Int)} {t:List Int} (h1:CT out=true) (h0:CT list=true) (h2: ∀u,u∈out↔u=t∨u∈list) (h3:t∉list->out.Perm (t::list)):out.length<=list.length+1:=by
 by_cases hm:t∈list
 ·have:out=list:=Gd h1 h0 λu=>(h2 u).trans ⟨λh=>h.elim (λh=>h▸hm) id,Or.inr⟩
  rw[this];omega
 ·rw[(h3 hm).length_eq];simp
end
end T
set_option linter.unusedVariables false
open Go Go.Va
namespace T
def Db (list:List (List Int)):Option ((List (List Int))):=
 (Du list).bind λr1=>
 (BJ r1 ()).bind λr2=>
 some r2
def Da (arity:Int) (tuples:List (List Int)):Option ((Int×(List (List Int)))):=
 (Db tuples).bind λr1=>
 (Dv r1).bind λr2=>
 some (arity,r2)
end T
open Go Go.Va
namespace T
theorem Hk {l:List (List Int)} (hl:l.length<=100000) (hr: ∀r∈l,r.length<=100000):Db l=some (Zn cmpL l):=by
 unfold Db
 rw[FK hl hr]
 have:BJ l ()=some (Zn cmpL l):=by
  unfold BJ
  rw[if_pos]
  refine⟨by unfold lim;omega,?_⟩
  rw[List.all_eq_true]
  intro r h
  rw[decide_eq_true_iff]
  have:=hr r h;unfold lim;omega
 simp only[Option.bind_some,this]
theorem FL {l:List (List Int)} (hl:l.length<=100000) (hr: ∀r∈l,r.length<=100000):Dv l=some (Zx l):=by
 unfold Dv
 rw[if_pos]
 refine⟨by unfold lim;omega,?_⟩
 rw[List.all_eq_true]
 intro r h
 rw[decide_eq_true_iff]
 have:=hr r h;unfold lim;omega
theorem GG {ar:Int} {l:List (List Int)} (hl:l.length<=100000) (hr: ∀r∈l,r.length<=100000):Da ar l=some (ar,Eh l):=by
 have hp:=Fe l
 unfold Da
 rw[Hk hl hr]
 simp only[Option.bind_some]
 rw[FL (by rw[hp.length_eq];exact hl) λr h=>hr r (hp.mem_iff.1 h)]
 rfl
end T
open Go Go.Va
namespace T
section
variable {a:Net} {f:Opn} {n:Int}
theorem Hq {l:List Int} (h:l.length<=1000000):C4 l=some l:=by
 unfold C4
 rw[if_pos (by simp;unfold lim;omega)];simp
end
end T
set_option linter.unusedVariables false
open Go Go.Va
namespace T
def FA (code:List Int):Option (Bool):=
 some (decide ((code.length:Int)>65536))
def Dg (t0:Int):Option (Int×(List (Int×(List (List Int))))):=
 if t0==0 then
 some (2,[(2,[[0,0],[0,1],[1,1]])])
 else
 if t0==1 then
 some (2,[(2,[[0,1],[1,0],[1,1]]),(2,[[0,0],[0,1],[1,0]])])
 else
 if t0==2 then
 some (2,[(3,[[0,0,0],[0,1,1],[1,0,1],[1,1,0]])])
 else
 if t0==3 then
 some (2,[(3,[[0,0,1],[0,1,0],[1,0,0]])])
 else
 if t0==4 then
 some (2,[(3,[[0,0,0],[0,0,1],[0,1,0],[0,1,1],[1,0,0],[1,0,1],[1,1,1]]),(1,[[1]])])
 else
 if t0==5 then
 some (3,[(2,[[0,1],[0,2],[1,0],[1,2],[2,0],[2,1]])])
 else
 if t0==6 then
 some (3,[(2,[[0,0],[0,1],[0,2],[1,1],[1,2],[2,2]])])
 else
 if t0==7 then
 some (3,[(2,[[0,1],[1,2],[2,0]])])
 else
 if t0==8 then
 some (2,[(2,[[0,1],[1,0]])])
 else
 if t0==9 then
 some (4,[(2,[[0,1],[1,0],[1,2],[2,1],[2,3],[3,2]])])
 else
 some (2,[])
def AQ:Nat->(((List Int)×Int×Int)×Int×(List Int)×Int)->Option (((List Int)×Int×Int)×(List Int))
 |0,_=>none
 |n+1,(c,n_,out,x)=>
 if decide (x<n_)then
 (Ae (c.1,(c.2.1,c.2.2)) (w64 (x+1))).bind λr1=>
 if decide (r1.2<x)then
 if inb r1.2 out then
 if out.length+ [gd out r1.2 0].length<=lim then
 AQ n ((r1.1.1,(r1.1.2.1,r1.1.2.2)),n_,out++ [gd out r1.2 0],w64 (x+1))
 else none
 else none
 else
 if out.length+ [r1.2].length<=lim then
 AQ n ((r1.1.1,(r1.1.2.1,r1.1.2.2)),n_,out++ [r1.2],w64 (x+1))
 else none
 else
 some ((c.1,(c.2.1,c.2.2)),out)
def B0 (c:(List Int)×Int×Int) (n_:Int):Option (((List Int)×Int×Int)×(List Int)):=
 (AQ Ad ((c.1,(c.2.1,c.2.2)),n_,[],0)).bind λs1=>
 some ((s1.1.1,(s1.1.2.1,s1.1.2.2)),s1.2)
def AX:Nat->((List Int)×(Int×(List (List Int)))×(Int×(List (List Int)))×Int×Int)->Option ((List Int)×(Int×(List (List Int)))×(Int×(List (List Int)))×Int)
 |0,_=>none
 |n+1,(p,t2,out,x,y)=>
 if decide (y<(p.length:Int))then
 if inb x p then
 if inb y p then
 if(gd p x 0)==(gd p y 0)then
 if out.2.length+ [[x,y]].length<=lim then
 AX n (p,(t2.1,t2.2),(out.1,out.2++ [[x,y]]),x,w64 (y+1))
 else none
 else
 AX n (p,(t2.1,t2.2),(out.1,out.2),x,w64 (y+1))
 else none
 else none
 else
 some (p,(t2.1,t2.2),(out.1,out.2),x)
def Bj:Nat->((List Int)×(Int×(List (List Int)))×(Int×(List (List Int)))×Int)->Option ((Int×(List (List Int)))×(Int×(List (List Int))))
 |0,_=>none
 |n+1,(p,t2,out,x)=>
 if decide (x<(p.length:Int))then
 (AX Ad (p,(t2.1,t2.2),(out.1,out.2),x,0)).bind λs1=>
 Bj n (s1.1,(s1.2.1.1,s1.2.1.2),(s1.2.2.1.1,s1.2.2.1.2),w64 (s1.2.2.2+1))
 else
 some ((t2.1,t2.2),(out.1,out.2))
def C0 (p:List Int):Option ((Int×(List (List Int)))):=
 (Bj Ad (p,(0,[]),(2,[]),0)).bind λs1=>
 some (s1.2.1,s1.2.2)
def B6:Nat->(Int×Int×(Int×(List (List Int)))×(Int×(List (List Int)))×Int)->Option ((Int×(List (List Int)))×(Int×(List (List Int))))
 |0,_=>none
 |n+1,(n_,arity,t4,out,at_)=>
 (CP n_ arity).bind λr1=>
 if decide (at_<r1)then
 (Dm n_ arity at_).bind λr2=>
 if out.2.length+ [r2].length<=lim then
 B6 n (n_,arity,(t4.1,t4.2),(out.1,out.2++ [r2]),w64 (at_+1))
 else none
 else
 some ((t4.1,t4.2),(out.1,out.2))
def CV (n_:Int) (arity:Int):Option ((Int×(List (List Int)))):=
 (B6 Ad (n_,arity,(0,[]),(arity,[]),0)).bind λs1=>
 some (s1.2.1,s1.2.2)
def EC (list:List (List Int)) (t:List Int):Option ((List (List Int))):=
 (Dn list t).bind λr1=>
 if r1.2 then
 some list
 else
 if(0:Int)<=0/\0<=r1.1/\r1.1<=(list.length:Int)then
 if([]:List (List Int)).length+((list.take (Int.toNat r1.1)).drop (Int.toNat 0)).length<=lim then
 if([]++((list.take (Int.toNat r1.1)).drop (Int.toNat 0))).length+ [t].length<=lim then
 if(0:Int)<=r1.1/\r1.1<=(list.length:Int)/\(list.length:Int)<=(list.length:Int)then
 if(([]++((list.take (Int.toNat r1.1)).drop (Int.toNat 0)))++ [t]).length+((list.take (Int.toNat (list.length:Int))).drop (Int.toNat r1.1)).length<=lim then
 some ((([]++((list.take (Int.toNat r1.1)).drop (Int.toNat 0)))++ [t])++((list.take (Int.toNat (list.length:Int))).drop (Int.toNat r1.1)))
 else none
 else none
 else none
 else none
 else none
def Bm:Nat->(((List Int)×Int×Int)×Int×Int×(Int×(List (List Int)))×(Int×(List (List Int)))×Int×(List Int)×Int)->Option (((List Int)×Int×Int)×Int×Int×(Int×(List (List Int)))×(Int×(List (List Int)))×Int×(List Int))
 |0,_=>none
 |n+1,(t0,t1,t2,t6,t7,t8,t9,t10)=>
 if decide (t10<t2)then
 (Ae (t0.1,(t0.2.1,t0.2.2)) t1).bind λr4=>
 if t9.length+ [r4.2].length<=lim then
 Bm n ((r4.1.1,(r4.1.2.1,r4.1.2.2)),t1,t2,(t6.1,t6.2),(t7.1,t7.2),t8,t9++ [r4.2],w64 (t10+1))
 else none
 else
 some ((t0.1,(t0.2.1,t0.2.2)),t1,t2,(t6.1,t6.2),(t7.1,t7.2),t8,t9)
def Bl:Nat->(((List Int)×Int×Int)×Int×Int×(Int×(List (List Int)))×(Int×(List (List Int)))×Int)->Option (((List Int)×Int×Int)×Int×Int×(Int×(List (List Int)))×(Int×(List (List Int))))
 |0,_=>none
 |n+1,(t0,t1,t2,t6,t7,t8)=>
 if decide (t8>0)then
 (Bm Ad ((t0.1,(t0.2.1,t0.2.2)),t1,t2,(t6.1,t6.2),(t7.1,t7.2),t8,[],0)).bind λs4=>
 (EC s4.2.2.2.2.1.2 s4.2.2.2.2.2.2).bind λr5=>
 Bl n ((s4.1.1,(s4.1.2.1,s4.1.2.2)),s4.2.1,s4.2.2.1,(s4.2.2.2.1.1,s4.2.2.2.1.2),(s4.2.2.2.2.1.1,r5),w64 (s4.2.2.2.2.2.1-1))
 else
 some ((t0.1,(t0.2.1,t0.2.2)),t1,t2,(t6.1,t6.2),(t7.1,t7.2))
def A9 (t0:(List Int)×Int×Int) (t1:Int) (t2:Int):Option (((List Int)×Int×Int)×(Int×(List (List Int)))):=
 (Ed t1).bind λr1=>
 if !r1 then
 some ((t0.1,(t0.2.1,t0.2.2)),(t2,[]))
 else
 (CH t2 1 3).bind λr2=>
 if !r2 then
 some ((t0.1,(t0.2.1,t0.2.2)),(t2,[]))
 else
 (Ab (t0.1,(t0.2.1,t0.2.2)) [0,1,2,3,4,6,9]).bind λr3=>
 (Bl Ad ((r3.1.1,(r3.1.2.1,r3.1.2.2)),t1,t2,(0,[]),(t2,[]),r3.2)).bind λs4=>
 if s4.2.2.1==2 then
 (Av (s4.1.1,(s4.1.2.1,s4.1.2.2)) 3).bind λr5=>
 if r5.2 then
 (B0 (r5.1.1,(r5.1.2.1,r5.1.2.2)) s4.2.1).bind λr6=>
 (C0 r6.2).bind λr7=>
 (Av (r6.1.1,(r6.1.2.1,r6.1.2.2)) 12).bind λr8=>
 if r8.2 then
 (CV s4.2.1 s4.2.2.1).bind λr9=>
 (Ae (r8.1.1,(r8.1.2.1,r8.1.2.2)) 40).bind λr10=>
 if r10.2==0 then
 (Ab (r10.1.1,(r10.1.2.1,r10.1.2.2)) [0,4,(-1)]).bind λr11=>
 some ((r11.1.1,(r11.1.2.1,r11.1.2.2)),(r11.2,r9.2))
 else
 if r10.2==1 then
 if 0<=s4.2.2.1/\s4.2.2.1<=s4.2.2.1/\s4.2.2.1<=lim then
 if r9.2.length+ [List.replicate (Int.toNat s4.2.2.1) (0:Int)].length<=lim then
 some ((r10.1.1,(r10.1.2.1,r10.1.2.2)),(r9.1,r9.2++ [List.replicate (Int.toNat s4.2.2.1) (0:Int)]))
 else none
 else none
 else
 if r10.2==2 then
 if decide ((r9.2.length:Int)>0)then
 (Ab (r10.1.1,(r10.1.2.1,r10.1.2.2)) [(-1),s4.2.1,0]).bind λr12=>
 if inb 0 r9.2 then
 some ((r12.1.1,(r12.1.2.1,r12.1.2.2)),(r9.1,stt r9.2 0 [r12.2]))
 else none
 else
 some ((r10.1.1,(r10.1.2.1,r10.1.2.2)),(r9.1,r9.2))
 else
 some ((r10.1.1,(r10.1.2.1,r10.1.2.2)),(r9.1,r9.2))
 else
 (Ae (r8.1.1,(r8.1.2.1,r8.1.2.2)) 40).bind λr13=>
 if r13.2==0 then
 (Ab (r13.1.1,(r13.1.2.1,r13.1.2.2)) [0,4,(-1)]).bind λr14=>
 some ((r14.1.1,(r14.1.2.1,r14.1.2.2)),(r14.2,r7.2))
 else
 if r13.2==1 then
 if 0<=s4.2.2.1/\s4.2.2.1<=s4.2.2.1/\s4.2.2.1<=lim then
 if r7.2.length+ [List.replicate (Int.toNat s4.2.2.1) (0:Int)].length<=lim then
 some ((r13.1.1,(r13.1.2.1,r13.1.2.2)),(r7.1,r7.2++ [List.replicate (Int.toNat s4.2.2.1) (0:Int)]))
 else none
 else none
 else
 if r13.2==2 then
 if decide ((r7.2.length:Int)>0)then
 (Ab (r13.1.1,(r13.1.2.1,r13.1.2.2)) [(-1),s4.2.1,0]).bind λr15=>
 if inb 0 r7.2 then
 some ((r15.1.1,(r15.1.2.1,r15.1.2.2)),(r7.1,stt r7.2 0 [r15.2]))
 else none
 else
 some ((r13.1.1,(r13.1.2.1,r13.1.2.2)),(r7.1,r7.2))
 else
 some ((r13.1.1,(r13.1.2.1,r13.1.2.2)),(r7.1,r7.2))
 else
 (Av (r5.1.1,(r5.1.2.1,r5.1.2.2)) 12).bind λr16=>
 if r16.2 then
 (CV s4.2.1 s4.2.2.1).bind λr17=>
 (Ae (r16.1.1,(r16.1.2.1,r16.1.2.2)) 40).bind λr18=>
 if r18.2==0 then
 (Ab (r18.1.1,(r18.1.2.1,r18.1.2.2)) [0,4,(-1)]).bind λr19=>
 some ((r19.1.1,(r19.1.2.1,r19.1.2.2)),(r19.2,r17.2))
 else
 if r18.2==1 then
 if 0<=s4.2.2.1/\s4.2.2.1<=s4.2.2.1/\s4.2.2.1<=lim then
 if r17.2.length+ [List.replicate (Int.toNat s4.2.2.1) (0:Int)].length<=lim then
 some ((r18.1.1,(r18.1.2.1,r18.1.2.2)),(r17.1,r17.2++ [List.replicate (Int.toNat s4.2.2.1) (0:Int)]))
 else none
 else none
 else
 if r18.2==2 then
 if decide ((r17.2.length:Int)>0)then
 (Ab (r18.1.1,(r18.1.2.1,r18.1.2.2)) [(-1),s4.2.1,0]).bind λr20=>
 if inb 0 r17.2 then
 some ((r20.1.1,(r20.1.2.1,r20.1.2.2)),(r17.1,stt r17.2 0 [r20.2]))
 else none
 else
 some ((r18.1.1,(r18.1.2.1,r18.1.2.2)),(r17.1,r17.2))
 else
 some ((r18.1.1,(r18.1.2.1,r18.1.2.2)),(r17.1,r17.2))
 else
 (Ae (r16.1.1,(r16.1.2.1,r16.1.2.2)) 40).bind λr21=>
 if r21.2==0 then
 (Ab (r21.1.1,(r21.1.2.1,r21.1.2.2)) [0,4,(-1)]).bind λr22=>
 some ((r22.1.1,(r22.1.2.1,r22.1.2.2)),(r22.2,s4.2.2.2.2.2))
 else
 if r21.2==1 then
 if 0<=s4.2.2.1/\s4.2.2.1<=s4.2.2.1/\s4.2.2.1<=lim then
 if s4.2.2.2.2.2.length+ [List.replicate (Int.toNat s4.2.2.1) (0:Int)].length<=lim then
 some ((r21.1.1,(r21.1.2.1,r21.1.2.2)),(s4.2.2.2.2.1,s4.2.2.2.2.2++ [List.replicate (Int.toNat s4.2.2.1) (0:Int)]))
 else none
 else none
 else
 if r21.2==2 then
 if decide ((s4.2.2.2.2.2.length:Int)>0)then
 (Ab (r21.1.1,(r21.1.2.1,r21.1.2.2)) [(-1),s4.2.1,0]).bind λr23=>
 if inb 0 s4.2.2.2.2.2 then
 some ((r23.1.1,(r23.1.2.1,r23.1.2.2)),(s4.2.2.2.2.1,stt s4.2.2.2.2.2 0 [r23.2]))
 else none
 else
 some ((r21.1.1,(r21.1.2.1,r21.1.2.2)),(s4.2.2.2.2.1,s4.2.2.2.2.2))
 else
 some ((r21.1.1,(r21.1.2.1,r21.1.2.2)),(s4.2.2.2.2.1,s4.2.2.2.2.2))
 else
 (Av (s4.1.1,(s4.1.2.1,s4.1.2.2)) 12).bind λr24=>
 if r24.2 then
 (CV s4.2.1 s4.2.2.1).bind λr25=>
 (Ae (r24.1.1,(r24.1.2.1,r24.1.2.2)) 40).bind λr26=>
 if r26.2==0 then
 (Ab (r26.1.1,(r26.1.2.1,r26.1.2.2)) [0,4,(-1)]).bind λr27=>
 some ((r27.1.1,(r27.1.2.1,r27.1.2.2)),(r27.2,r25.2))
 else
 if r26.2==1 then
 if 0<=s4.2.2.1/\s4.2.2.1<=s4.2.2.1/\s4.2.2.1<=lim then
 if r25.2.length+ [List.replicate (Int.toNat s4.2.2.1) (0:Int)].length<=lim then
 some ((r26.1.1,(r26.1.2.1,r26.1.2.2)),(r25.1,r25.2++ [List.replicate (Int.toNat s4.2.2.1) (0:Int)]))
 else none
 else none
 else
 if r26.2==2 then
 if decide ((r25.2.length:Int)>0)then
 (Ab (r26.1.1,(r26.1.2.1,r26.1.2.2)) [(-1),s4.2.1,0]).bind λr28=>
 if inb 0 r25.2 then
 some ((r28.1.1,(r28.1.2.1,r28.1.2.2)),(r25.1,stt r25.2 0 [r28.2]))
 else none
 else
 some ((r26.1.1,(r26.1.2.1,r26.1.2.2)),(r25.1,r25.2))
 else
 some ((r26.1.1,(r26.1.2.1,r26.1.2.2)),(r25.1,r25.2))
 else
 (Ae (r24.1.1,(r24.1.2.1,r24.1.2.2)) 40).bind λr29=>
 if r29.2==0 then
 (Ab (r29.1.1,(r29.1.2.1,r29.1.2.2)) [0,4,(-1)]).bind λr30=>
 some ((r30.1.1,(r30.1.2.1,r30.1.2.2)),(r30.2,s4.2.2.2.2.2))
 else
 if r29.2==1 then
 if 0<=s4.2.2.1/\s4.2.2.1<=s4.2.2.1/\s4.2.2.1<=lim then
 if s4.2.2.2.2.2.length+ [List.replicate (Int.toNat s4.2.2.1) (0:Int)].length<=lim then
 some ((r29.1.1,(r29.1.2.1,r29.1.2.2)),(s4.2.2.2.2.1,s4.2.2.2.2.2++ [List.replicate (Int.toNat s4.2.2.1) (0:Int)]))
 else none
 else none
 else
 if r29.2==2 then
 if decide ((s4.2.2.2.2.2.length:Int)>0)then
 (Ab (r29.1.1,(r29.1.2.1,r29.1.2.2)) [(-1),s4.2.1,0]).bind λr31=>
 if inb 0 s4.2.2.2.2.2 then
 some ((r31.1.1,(r31.1.2.1,r31.1.2.2)),(s4.2.2.2.2.1,stt s4.2.2.2.2.2 0 [r31.2]))
 else none
 else
 some ((r29.1.1,(r29.1.2.1,r29.1.2.2)),(s4.2.2.2.2.1,s4.2.2.2.2.2))
 else
 some ((r29.1.1,(r29.1.2.1,r29.1.2.2)),(s4.2.2.2.2.1,s4.2.2.2.2.2))
def AZ:Nat->(((List Int)×Int×Int)×Int×(List (Int×(List (List Int))))×(List (Int×(List (List Int))))×Int×(Int×(List (List Int)))×Int)->Option (((List Int)×Int×Int)×Int×(List (Int×(List (List Int))))×(List (Int×(List (List Int))))×Int×(Int×(List (List Int))))
 |0,_=>none
 |n+1,(t0,t4,t5,t6,t7,t8,t9)=>
 if inb t7 t5 then
 if decide (t9<(((gd t5 t7 (0,[])).2).length:Int))then
 if inb t7 t5 then
 if inb t9 ((gd t5 t7 (0,[])).2)then
 (Ci (gd ((gd t5 t7 (0,[])).2) t9 [])).bind λr4=>
 if t8.2.length+ [r4].length<=lim then
 AZ n ((t0.1,(t0.2.1,t0.2.2)),t4,t5,t6,t7,(t8.1,t8.2++ [r4]),w64 (t9+1))
 else none
 else none
 else none
 else
 some ((t0.1,(t0.2.1,t0.2.2)),t4,t5,t6,t7,(t8.1,t8.2))
 else none
def AY:Nat->(((List Int)×Int×Int)×Int×(List (Int×(List (List Int))))×(List (Int×(List (List Int))))×Int)->Option (((List Int)×Int×Int)×Int×(List (Int×(List (List Int)))))
 |0,_=>none
 |n+1,(t0,t4,t5,t6,t7)=>
 if decide (t7<(t5.length:Int))then
 if inb t7 t5 then
 (AZ Ad ((t0.1,(t0.2.1,t0.2.2)),t4,t5,t6,t7,((gd t5 t7 (0,[])).1,[]),0)).bind λs4=>
 if s4.2.2.2.1.length+ [(s4.2.2.2.2.2.1,s4.2.2.2.2.2.2)].length<=lim then
 AY n ((s4.1.1,(s4.1.2.1,s4.1.2.2)),s4.2.1,s4.2.2.1,s4.2.2.2.1++ [(s4.2.2.2.2.2.1,s4.2.2.2.2.2.2)],w64 (s4.2.2.2.2.1+1))
 else none
 else none
 else
 some ((t0.1,(t0.2.1,t0.2.2)),t4,t6)
def Be:Nat->(((List Int)×Int×Int)×Int×(List (Int×(List (List Int))))×Int)->Option (((List Int)×Int×Int)×Int×(List (Int×(List (List Int)))))
 |0,_=>none
 |n+1,(t0,t10,t11,t12)=>
 if decide (t12>0)then
 (Ab (t0.1,(t0.2.1,t0.2.2)) [1,2,2,3]).bind λr10=>
 (A9 (r10.1.1,(r10.1.2.1,r10.1.2.2)) t10 r10.2).bind λr11=>
 if t11.length+ [r11.2].length<=lim then
 Be n ((r11.1.1,(r11.1.2.1,r11.1.2.2)),t10,t11++ [r11.2],w64 (t12-1))
 else none
 else
 some ((t0.1,(t0.2.1,t0.2.2)),t10,t11)
def Cl (t0:(List Int)×Int×Int):Option (((List Int)×Int×Int)×Int×(List (Int×(List (List Int))))):=
 (Av (t0.1,(t0.2.1,t0.2.2)) 3).bind λr1=>
 if !r1.2 then
 (Ae (r1.1.1,(r1.1.2.1,r1.1.2.2)) 11).bind λr2=>
 (Dg r2.2).bind λr3=>
 (AY Ad ((r2.1.1,(r2.1.2.1,r2.1.2.2)),r3.1,r3.2,[],0)).bind λs4=>
 some ((s4.1.1,(s4.1.2.1,s4.1.2.2)),s4.2.1,s4.2.2)
 else
 (Ae (r1.1.1,(r1.1.2.1,r1.1.2.2)) 24).bind λr5=>
 if(11:Int)≠0 then
 if(0:Int)<=0/\0<=(w64 (7+(w64 (Int.tdiv r5.2 11))))/\(w64 (7+(w64 (Int.tdiv r5.2 11))))<=([1,2,2,2,3,3,4,0,5].length:Int)then
 (Ab (r5.1.1,(r5.1.2.1,r5.1.2.2)) (([1,2,2,2,3,3,4,0,5].take (Int.toNat (w64 (7+(w64 (Int.tdiv r5.2 11)))))).drop (Int.toNat 0))).bind λr6=>
 (Ae (r6.1.1,(r6.1.2.1,r6.1.2.2)) 24).bind λr7=>
 if(23:Int)≠0 then
 if(0:Int)<=0/\0<=(w64 (5+(w64 (Int.tdiv r7.2 23))))/\(w64 (5+(w64 (Int.tdiv r7.2 23))))<=([0,1,1,2,4,5].length:Int)then
 (Ab (r7.1.1,(r7.1.2.1,r7.1.2.2)) (([0,1,1,2,4,5].take (Int.toNat (w64 (5+(w64 (Int.tdiv r7.2 23)))))).drop (Int.toNat 0))).bind λr8=>
 (Be Ad ((r8.1.1,(r8.1.2.1,r8.1.2.2)),r6.2,[],r8.2)).bind λs9=>
 some ((s9.1.1,(s9.1.2.1,s9.1.2.2)),s9.2.1,s9.2.2)
 else none
 else none
 else none
 else none
def CG:Nat->((List Int)×(List Int)×Int)->Option ((Unit)⊕(Bool))
 |0,_=>none
 |n+1,(a,b,i)=>
 if decide (i<(a.length:Int))then
 if inb i a then
 if inb i b then
 if(gd a i 0) !=(gd b i 0)then
 some (.inr false)
 else
 CG n (a,b,w64 (i+1))
 else none
 else none
 else
 some (.inl ())
def CM (a:List Int) (b:List Int):Option (Bool):=
 if(a.length:Int) !=(b.length:Int)then
  some false
 else
  (CG Ad (a,b,0)).bind λs1=>
   match s1 with
   | .inl s2=>
    some true
   | .inr s3=>
    some s3
def Cr:Nat->((List (List Int))×(List (List Int))×Int)->Option ((Unit)⊕(Bool))
 |0,_=>none
 |n+1,(a,b,i)=>
 if decide (i<(a.length:Int))then
 if inb i a then
 if inb i b then
 (CM (gd a i []) (gd b i [])).bind λr1=>
 if !r1 then
 some (.inr false)
 else
 Cr n (a,b,w64 (i+1))
 else none
 else none
 else
 some (.inl ())
def AP (a:List (List Int)) (b:List (List Int)):Option (Bool):=
 if(a.length:Int) !=(b.length:Int)then
  some false
 else
  (Cr Ad (a,b,0)).bind λs1=>
   match s1 with
   | .inl s2=>
    some true
   | .inr s3=>
    some s3
def Cu (t0:List Int) (t1:Int):Option (Int×Bool):=
 some (w64 (t1+1),true)
def Aq (rec:(Int×(List Int)×Int×(Bool×Int×(List (List (List Int)))×(List (List (List ByteArray))))×(List Int)×Unit)->Option ((List Int)×Int×(Bool×Int×(List (List (List Int)))×(List (List (List ByteArray))))×(List Int)×Bool)):Nat->(Int×(List Int)×Int×(Bool×Int×(List (List (List Int)))×(List (List (List ByteArray))))×(List Int)×Unit×Int×Bool×(List (List Int))×Int×Int)->Option (Int×(List Int)×Int×(Bool×Int×(List (List (List Int)))×(List (List (List ByteArray))))×(List Int)×Unit×Int×Bool)
 |0,_=>none
 |n+1,(t0,t1,t2,t3,t4,t5,t8,t9,t50,t51,t52)=>
 if decide (t52<t51)then
 if inb t52 t50 then
 if t9 then
 if t3.1=true then
 if inb t0 t3.2.2.2 then
 if inb t52 (gd t3.2.2.2 t0 [])then
 (Bi (gd t50 t52 []) t1).bind λr2=>
 (BX r2).bind λr3=>
 Aq rec n (t0,t1,t2,t3,t4,(),t8,Xs (gd (gd t3.2.2.2 t0 []) t52 []) r3,t50,t51,w64 (t52+1))
 else none
 else none
 else none
 else
 Aq rec n (t0,t1,t2,t3,t4,(),t8,false,t50,t51,w64 (t52+1))
 else none
 else
 some (t0,t1,t2,t3,t4,(),t8,t9)
def Aj (rec:(Int×(List Int)×Int×(Bool×Int×(List (List (List Int)))×(List (List (List ByteArray))))×(List Int)×Unit)->Option ((List Int)×Int×(Bool×Int×(List (List (List Int)))×(List (List (List ByteArray))))×(List Int)×Bool)):Nat->(Int×(List Int)×Int×(Bool×Int×(List (List (List Int)))×(List (List (List ByteArray))))×(List Int)×Unit×Int)->Option (((List Int)×Int×(Bool×Int×(List (List (List Int)))×(List (List (List ByteArray))))×(List Int)×Unit)⊕((List Int)×Int×(Bool×Int×(List (List (List Int)))×(List (List (List ByteArray))))×(List Int)×Unit×Bool))
 |0,_=>none
 |n+1,(t0,t1,t2,t3,t4,t5,t8)=>
 if t3.1=true then
 if decide (t8<t3.2.1)then
 if inb t0 t4 then
 if decide ((gd t4 t0 0)≥0)then
 if inb t0 t4 then
 if(gd t4 t0 0) !=t8 then
 Aj rec n (t0,t1,t2,t3,t4,(),w64 (t8+1))
 else
 if inb t0 t1 then
 if t3.1=true then
 if inb t0 t3.2.2.1 then
 (Aq rec Ad (t0,stt t1 t0 t8,t2,t3,t4,(),t8,true,gd t3.2.2.1 t0 [],((gd t3.2.2.1 t0 []).length:Int),0)).bind λs2=>
 if s2.2.2.2.2.2.2.2 then
 (rec (w64 (s2.1+1),s2.2.1,s2.2.2.1,s2.2.2.2.1,s2.2.2.2.2.1,())).bind λr3=>
 if !r3.2.2.2.2 then
 some (.inr (r3.1,r3.2.1,r3.2.2.1,r3.2.2.2.1,(),false))
 else
 Aj rec n (s2.1,r3.1,r3.2.1,r3.2.2.1,r3.2.2.2.1,(),w64 (s2.2.2.2.2.2.2.1+1))
 else
 Aj rec n (s2.1,s2.2.1,s2.2.2.1,s2.2.2.2.1,s2.2.2.2.2.1,(),w64 (s2.2.2.2.2.2.2.1+1))
 else none
 else none
 else none
 else none
 else
 if inb t0 t1 then
 if t3.1=true then
 if inb t0 t3.2.2.1 then
 (Aq rec Ad (t0,stt t1 t0 t8,t2,t3,t4,(),t8,true,gd t3.2.2.1 t0 [],((gd t3.2.2.1 t0 []).length:Int),0)).bind λs4=>
 if s4.2.2.2.2.2.2.2 then
 (rec (w64 (s4.1+1),s4.2.1,s4.2.2.1,s4.2.2.2.1,s4.2.2.2.2.1,())).bind λr5=>
 if !r5.2.2.2.2 then
 some (.inr (r5.1,r5.2.1,r5.2.2.1,r5.2.2.2.1,(),false))
 else
 Aj rec n (s4.1,r5.1,r5.2.1,r5.2.2.1,r5.2.2.2.1,(),w64 (s4.2.2.2.2.2.2.1+1))
 else
 Aj rec n (s4.1,s4.2.1,s4.2.2.1,s4.2.2.2.1,s4.2.2.2.2.1,(),w64 (s4.2.2.2.2.2.2.1+1))
 else none
 else none
 else none
 else none
 else
 some (.inl (t1,t2,t3,t4,()))
 else none
def Bg (rec:(Int×(List Int)×Int×(Bool×Int×(List (List (List Int)))×(List (List (List ByteArray))))×(List Int)×Unit)->Option ((List Int)×Int×(Bool×Int×(List (List (List Int)))×(List (List (List ByteArray))))×(List Int)×Bool)) (t0:Int) (t1:List Int) (t2:Int) (t3:Bool×Int×(List (List (List Int)))×(List (List (List ByteArray)))) (t4:List Int) (t5:Unit):Option ((List Int)×Int×(Bool×Int×(List (List (List Int)))×(List (List (List ByteArray))))×(List Int)×Bool):=
 if t0==(t1.length:Int)then
  (Cu t1 t2).bind λr1=>
   some (t1,r1.1,t3,t4,r1.2)
 else
  (Aj rec Ad (t0,t1,t2,t3,t4,(),0)).bind λs2=>
   match s2 with
   | .inl s3=>
    some (s3.1,s3.2.1,s3.2.2.1,s3.2.2.2.1,true)
   | .inr s4=>
    some (s4.1,s4.2.1,s4.2.2.1,s4.2.2.2.1,s4.2.2.2.2.2)
def Au:Nat->(Int×(List Int)×Int×(Bool×Int×(List (List (List Int)))×(List (List (List ByteArray))))×(List Int)×Unit)->Option ((List Int)×Int×(Bool×Int×(List (List (List Int)))×(List (List (List ByteArray))))×(List Int)×Bool)
 |0,_=>none
 |d+1,x=>Bg (Au d) x.1 x.2.1 x.2.2.1 x.2.2.2.1 x.2.2.2.2.1 x.2.2.2.2.2
def BB (s:Bool×Int×(List (List (List Int)))×(List (List (List ByteArray)))) (partial_:List Int) (found:Int):Option (Int):=
 if 0<=(partial_.length:Int)/\(partial_.length:Int)<=(partial_.length:Int)/\(partial_.length:Int)<=lim then
 (Au Ad (0,List.replicate (Int.toNat (partial_.length:Int)) (0:Int),found,s,partial_,())).bind λr1=>
 some r1.2.1
 else none
def BK (net:Int×Int×(List ((List Int)×Int×(List (List Int))))) (found:Int):Option (Int):=
 (BC (net.1,(net.2.1,net.2.2))).bind λr1=>
 (Co net.1).bind λr2=>
 (BB r1 r2 found).bind λr3=>
 some r3
def BD (net:Int×Int×(List ((List Int)×Int×(List (List Int))))):Option (Int×Bool):=
 (BA (net.1,(net.2.1,net.2.2))).bind λr1=>
 if !r1 then
 some (0,false)
 else
 (BK (net.1,(net.2.1,net.2.2)) 0).bind λr2=>
 some (r2,true)
def Cd (values:List Int) (t1:List (List Int)):Option ((List (List Int))×Bool):=
 (C4 values).bind λr1=>
 if t1.length+ [r1].length<=lim then
 some (t1++ [r1],decide (((t1++ [r1]).length:Int)<=300))
 else none
def As (rec:(Int×(List Int)×(List (List Int))×(Bool×Int×(List (List (List Int)))×(List (List (List ByteArray))))×(List Int)×Unit)->Option ((List Int)×(List (List Int))×(Bool×Int×(List (List (List Int)))×(List (List (List ByteArray))))×(List Int)×Bool)):Nat->(Int×(List Int)×(List (List Int))×(Bool×Int×(List (List (List Int)))×(List (List (List ByteArray))))×(List Int)×Unit×Int×Bool×(List (List Int))×Int×Int)->Option (Int×(List Int)×(List (List Int))×(Bool×Int×(List (List (List Int)))×(List (List (List ByteArray))))×(List Int)×Unit×Int×Bool)
 |0,_=>none
 |n+1,(t0,t1,t2,t3,t4,t5,t8,t9,t50,t51,t52)=>
 if decide (t52<t51)then
 if inb t52 t50 then
 if t9 then
 if t3.1=true then
 if inb t0 t3.2.2.2 then
 if inb t52 (gd t3.2.2.2 t0 [])then
 (Bi (gd t50 t52 []) t1).bind λr2=>
 (BX r2).bind λr3=>
 As rec n (t0,t1,t2,t3,t4,(),t8,Xs (gd (gd t3.2.2.2 t0 []) t52 []) r3,t50,t51,w64 (t52+1))
 else none
 else none
 else none
 else
 As rec n (t0,t1,t2,t3,t4,(),t8,false,t50,t51,w64 (t52+1))
 else none
 else
 some (t0,t1,t2,t3,t4,(),t8,t9)
def An (rec:(Int×(List Int)×(List (List Int))×(Bool×Int×(List (List (List Int)))×(List (List (List ByteArray))))×(List Int)×Unit)->Option ((List Int)×(List (List Int))×(Bool×Int×(List (List (List Int)))×(List (List (List ByteArray))))×(List Int)×Bool)):Nat->(Int×(List Int)×(List (List Int))×(Bool×Int×(List (List (List Int)))×(List (List (List ByteArray))))×(List Int)×Unit×Int)->Option (((List Int)×(List (List Int))×(Bool×Int×(List (List (List Int)))×(List (List (List ByteArray))))×(List Int)×Unit)⊕((List Int)×(List (List Int))×(Bool×Int×(List (List (List Int)))×(List (List (List ByteArray))))×(List Int)×Unit×Bool))
 |0,_=>none
 |n+1,(t0,t1,t2,t3,t4,t5,t8)=>
 if t3.1=true then
 if decide (t8<t3.2.1)then
 if inb t0 t4 then
 if decide ((gd t4 t0 0)≥0)then
 if inb t0 t4 then
 if(gd t4 t0 0) !=t8 then
 An rec n (t0,t1,t2,t3,t4,(),w64 (t8+1))
 else
 if inb t0 t1 then
 if t3.1=true then
 if inb t0 t3.2.2.1 then
 (As rec Ad (t0,stt t1 t0 t8,t2,t3,t4,(),t8,true,gd t3.2.2.1 t0 [],((gd t3.2.2.1 t0 []).length:Int),0)).bind λs2=>
 if s2.2.2.2.2.2.2.2 then
 (rec (w64 (s2.1+1),s2.2.1,s2.2.2.1,s2.2.2.2.1,s2.2.2.2.2.1,())).bind λr3=>
 if !r3.2.2.2.2 then
 some (.inr (r3.1,r3.2.1,r3.2.2.1,r3.2.2.2.1,(),false))
 else
 An rec n (s2.1,r3.1,r3.2.1,r3.2.2.1,r3.2.2.2.1,(),w64 (s2.2.2.2.2.2.2.1+1))
 else
 An rec n (s2.1,s2.2.1,s2.2.2.1,s2.2.2.2.1,s2.2.2.2.2.1,(),w64 (s2.2.2.2.2.2.2.1+1))
 else none
 else none
 else none
 else none
 else
 if inb t0 t1 then
 if t3.1=true then
 if inb t0 t3.2.2.1 then
 (As rec Ad (t0,stt t1 t0 t8,t2,t3,t4,(),t8,true,gd t3.2.2.1 t0 [],((gd t3.2.2.1 t0 []).length:Int),0)).bind λs4=>
 if s4.2.2.2.2.2.2.2 then
 (rec (w64 (s4.1+1),s4.2.1,s4.2.2.1,s4.2.2.2.1,s4.2.2.2.2.1,())).bind λr5=>
 if !r5.2.2.2.2 then
 some (.inr (r5.1,r5.2.1,r5.2.2.1,r5.2.2.2.1,(),false))
 else
 An rec n (s4.1,r5.1,r5.2.1,r5.2.2.1,r5.2.2.2.1,(),w64 (s4.2.2.2.2.2.2.1+1))
 else
 An rec n (s4.1,s4.2.1,s4.2.2.1,s4.2.2.2.1,s4.2.2.2.2.1,(),w64 (s4.2.2.2.2.2.2.1+1))
 else none
 else none
 else none
 else none
 else
 some (.inl (t1,t2,t3,t4,()))
 else none
def Bn (rec:(Int×(List Int)×(List (List Int))×(Bool×Int×(List (List (List Int)))×(List (List (List ByteArray))))×(List Int)×Unit)->Option ((List Int)×(List (List Int))×(Bool×Int×(List (List (List Int)))×(List (List (List ByteArray))))×(List Int)×Bool)) (t0:Int) (t1:List Int) (t2:List (List Int)) (t3:Bool×Int×(List (List (List Int)))×(List (List (List ByteArray)))) (t4:List Int) (t5:Unit):Option ((List Int)×(List (List Int))×(Bool×Int×(List (List (List Int)))×(List (List (List ByteArray))))×(List Int)×Bool):=
 if t0==(t1.length:Int)then
  (Cd t1 t2).bind λr1=>
   some (t1,r1.1,t3,t4,r1.2)
 else
  (An rec Ad (t0,t1,t2,t3,t4,(),0)).bind λs2=>
   match s2 with
   | .inl s3=>
    some (s3.1,s3.2.1,s3.2.2.1,s3.2.2.2.1,true)
   | .inr s4=>
    some (s4.1,s4.2.1,s4.2.2.1,s4.2.2.2.1,s4.2.2.2.2.2)
def Ay:Nat->(Int×(List Int)×(List (List Int))×(Bool×Int×(List (List (List Int)))×(List (List (List ByteArray))))×(List Int)×Unit)->Option ((List Int)×(List (List Int))×(Bool×Int×(List (List (List Int)))×(List (List (List ByteArray))))×(List Int)×Bool)
 |0,_=>none
 |d+1,x=>Bn (Ay d) x.1 x.2.1 x.2.2.1 x.2.2.2.1 x.2.2.2.2.1 x.2.2.2.2.2
def BL (s:Bool×Int×(List (List (List Int)))×(List (List (List ByteArray)))) (partial_:List Int) (found:List (List Int)):Option ((List (List Int))):=
 if 0<=(partial_.length:Int)/\(partial_.length:Int)<=(partial_.length:Int)/\(partial_.length:Int)<=lim then
 (Ay Ad (0,List.replicate (Int.toNat (partial_.length:Int)) (0:Int),found,s,partial_,())).bind λr1=>
 some r1.2.1
 else none
def BP (net:Int×Int×(List ((List Int)×Int×(List (List Int))))) (found:List (List Int)):Option ((List (List Int))):=
 (BC (net.1,(net.2.1,net.2.2))).bind λr1=>
 (Co net.1).bind λr2=>
 (BL r1 r2 found).bind λr3=>
 some r3
def BR (net:Int×Int×(List ((List Int)×Int×(List (List Int))))):Option ((List (List Int))×Bool):=
 (BA (net.1,(net.2.1,net.2.2))).bind λr1=>
 if !r1 then
 some ([],false)
 else
 (BP (net.1,(net.2.1,net.2.2)) []).bind λr2=>
 if decide ((r2.length:Int)>300)then
 some ([],false)
 else
 some (r2,true)
end T
open Go Go.Va
namespace T
def rowsB (R W:Nat) (l:List (List Int)):Prop:=l.length<=R/\ ∀r∈l,r.length<=W
theorem rowsB.mono {R W R' W':Nat} {l:List (List Int)} (h:rowsB R W l) (h1:R<=R') (h2:W<=W'):rowsB R' W' l:=⟨by have:=h.1;omega,λr hr=>by have:=h.2 r hr;omega⟩
theorem rowsB.app {R W:Nat} {l:List (List Int)} {t:List Int} (h:rowsB R W l) (ht:t.length<=W):rowsB (R+1) W (l++ [t]):=⟨by rw[List.length_append,List.length_singleton];have:=h.1;omega,λr hr=>by
 rcases List.mem_append.1 hr with hr|hr
 ·exact h.2 r hr
 ·rw[List.mem_singleton.1 hr];exact ht⟩
theorem I5:EC=Ep:=rfl
theorem If {N:Nat} (hN:N<=8): ∀(d f k x:Nat) (c:CR) (o:List Int),x+d=N->d<f->Cur k c->k+2*d<=1000000->o.length=x->
  ∃c' o',AQ f (c,(N:Int),o,(x:Int))=some (c',o')/\Cur (k+2*d) c'/\o'.length=N:=by
 intro d
 induction d with
 |zero=>
  intro f k x c o hx hf hc hk ho
  obtain⟨f,rfl⟩: ∃z,f=z+1:=⟨f-1,by omega⟩
  refine⟨c,o,?_,hc,by omega⟩
  simp only[AQ]
  rw[if_neg (by simp;omega)]
 |succ d ih=>
  intro f k x c o hx hf hc hk ho
  obtain⟨f,rfl⟩: ∃z,f=z+1:=⟨f-1,by omega⟩
  obtain⟨c1,x1,e1,g1,a1,b1,_⟩:=Ck hc (by omega) ((x+1:Nat):Int) (by omega)
  have b1:=b1 (by omega)
  have e1:Ae (c.1,(c.2.1,c.2.2)) ((x+1:Nat):Int)=_:=e1
  have ew:=Aw (show x<4611686018427387904 by omega)
  simp only[AQ,ew,e1,Option.bind_some]
  rw[if_pos (by simp;omega)]
  by_cases h:x1<(x:Int)
  ·obtain⟨c',o',e2,g2,l2⟩:=ih f (k+2) (x+1) c1 (o++ [gd o x1 0]) (by omega) (by omega) g1 (by omega) (by simp;omega)
   refine⟨c',o',?_,g2.mono (by omega),l2⟩
   rw[if_pos (by simpa using h),if_pos (by unfold inb;omega),if_pos (by simp;unfold lim;omega)]
   exact e2
  ·obtain⟨c',o',e2,g2,l2⟩:=ih f (k+2) (x+1) c1 (o++ [x1]) (by omega) (by omega) g1 (by omega) (by simp;omega)
   refine⟨c',o',?_,g2.mono (by omega),l2⟩
   rw[if_neg (by simpa using h),if_pos (by simp;unfold lim;omega)]
   exact e2
theorem FR {N k:Nat} {c:CR} (hN:N<=8) (hc:Cur k c) (hk:k<=500000): ∃c' o,B0 c (N:Int)=some (c',o)/\Cur (k+16) c'/\o.length=N:=by
 obtain⟨c',o,e,g,l⟩:=If hN N Ad k 0 c [] (by omega) (by unfold Ad;omega) hc (by omega) rfl
 refine⟨c',o,?_,g.mono (by omega),l⟩
 unfold B0
 have e:AQ Ad ((c.1,(c.2.1,c.2.2)),(N:Int),[],0)=_:=e
 rw[e];rfl
theorem He {p:List Int} (hp:p.length<=8): ∃out,C0 p=some (2,out)/\rowsB 64 2 out:=by
 have in6: ∀(x:Nat),x<p.length-> ∀(d f y:Nat) (o:List (List Int)),y+d=p.length->d<f->rowsB (8*x+y) 2 o->
   ∃o',AX f (p,(0,[]),(2,o),(x:Int),(y:Int))=some (p,(0,[]),(2,o'),(x:Int))/\rowsB (8*x+p.length) 2 o':=by
  intro x hx d
  induction d with
  |zero=>
   intro f y o hy hf ho
   obtain⟨f,rfl⟩: ∃z,f=z+1:=⟨f-1,by omega⟩
   refine⟨o,?_,ho.mono (by omega) (by omega)⟩
   simp only[AX]
   rw[if_neg (by simp;omega)]
  |succ d ih=>
   intro f y o hy hf ho
   obtain⟨f,rfl⟩: ∃z,f=z+1:=⟨f-1,by omega⟩
   have hyl:y<p.length:=by omega
   have hol:=ho.1
   simp only[AX,AA,hx,hyl,if_true,Aw (show y<4611686018427387904 by omega)]
   rw[if_pos (by simp;omega)]
   by_cases h:(gd p (x:Int) 0==gd p (y:Int) 0)=true
   ·obtain⟨o',e,g⟩:=ih f (y+1) (o++ [[(x:Int),(y:Int)]]) (by omega) (by omega) (by rw[←Nat.add_assoc];exact ho.app (by simp))
    refine⟨o',?_,g⟩
    rw[if_pos h,if_pos (by simp;unfold lim;omega)]
    exact e
   ·obtain⟨o',e,g⟩:=ih f (y+1) o (by omega) (by omega) (ho.mono (by omega) (by omega))
    refine⟨o',?_,g⟩
    rw[if_neg h]
    exact e
 have in3: ∀(d f x:Nat) (o:List (List Int)),x+d=p.length->d<f->rowsB (8*x) 2 o->
   ∃o',Bj f (p,(0,[]),(2,o),(x:Int))=some ((0,[]),(2,o'))/\rowsB 64 2 o':=by
  intro d
  induction d with
  |zero=>
   intro f x o hx hf ho
   obtain⟨f,rfl⟩: ∃z,f=z+1:=⟨f-1,by omega⟩
   refine⟨o,?_,ho.mono (by omega) (by omega)⟩
   simp only[Bj]
   rw[if_neg (by simp;omega)]
  |succ d ih=>
   intro f x o hx hf ho
   obtain⟨f,rfl⟩: ∃z,f=z+1:=⟨f-1,by omega⟩
   obtain⟨o1,e1,g1⟩:=in6 x (by omega) p.length Ad 0 o (by omega) (by unfold Ad;omega) ho
   have e1:AX Ad (p,(0,[]),(2,o),(x:Int),0)=_:=e1
   obtain⟨o',e2,g2⟩:=ih f (x+1) o1 (by omega) (by omega) (g1.mono (by omega) (by omega))
   refine⟨o',?_,g2⟩
   simp only[Bj,e1,Option.bind_some,Aw (show x<4611686018427387904 by omega)]
   rw[if_pos (by simp;omega)]
   exact e2
 obtain⟨o,e,g⟩:=in3 p.length Ad 0 [] (by omega) (by unfold Ad;omega) ⟨by simp,by simp⟩
 refine⟨o,?_,g⟩
 unfold C0
 have e:Bj Ad (p,(0,[]),(2,[]),0)=_:=e
 rw[e];rfl
theorem G7 {N A:Nat} (hN:1<=N/\N<=8) (hA:1<=A/\A<=3): ∃out,CV (N:Int) (A:Int)=some ((A:Int),out)/\rowsB 512 3 out:=by
 have hp:N^A<=512:=by
  have:N^A<=8^3:=Nat.le_trans (Nat.pow_le_pow_left hN.2 A) (Nat.pow_le_pow_right (by omega) hA.2)
  omega
 have e1:=Ek (n:=(N:Int)) (by omega) (by omega) (k:=A) (by omega)
 have e0:(N:Int)^A=((N^A:Nat):Int):=by rw[Int.natCast_pow]
 rw[e0]at e1
 have key: ∀(d f x:Nat) (o:List (List Int)),x+d=N^A->d<f->rowsB x 3 o->
   ∃o',B6 f ((N:Int),(A:Int),(0,[]),((A:Int),o),(x:Int))=some ((0,[]),((A:Int),o'))/\rowsB (N^A) 3 o':=by
  intro d
  induction d with
  |zero=>
   intro f x o hx hf ho
   obtain⟨f,rfl⟩: ∃z,f=z+1:=⟨f-1,by omega⟩
   refine⟨o,?_,ho.mono (by omega) (by omega)⟩
   simp only[B6,e1,Option.bind_some]
   rw[if_neg (by simp only[decide_eq_true_eq];omega)]
  |succ d ih=>
   intro f x o hx hf ho
   obtain⟨f,rfl⟩: ∃z,f=z+1:=⟨f-1,by omega⟩
   have hol:=ho.1
   have e2:=Dx (b:=N) (k:=A) (i:=x) (by omega) (by omega) (by omega)
   have hl2:(cI (dg N A x)).length=A:=by rw[Gw,GC]
   obtain⟨o',e3,g3⟩:=ih f (x+1) (o++ [cI (dg N A x)]) (by omega) (by omega) (ho.app (by omega))
   refine⟨o',?_,g3⟩
   simp only[B6,e1,e2,Option.bind_some,Aw (show x<4611686018427387904 by omega)]
   rw[if_pos (by simp only[decide_eq_true_eq];omega),if_pos (by simp;unfold lim;omega)]
   exact e3
 obtain⟨o,e,g⟩:=key (N^A) Ad 0 [] (by omega) (by unfold Ad;omega) ⟨by simp,by simp⟩
 refine⟨o,?_,g.mono hp (by omega)⟩
 unfold CV
 have e:B6 Ad ((N:Int),(A:Int),(0,[]),((A:Int),[]),0)=_:=e
 rw[e];rfl
theorem IK {N:Int} (hN:N<=100) {A:Nat} (hA:A<=3) (t6 t7:Int×List (List Int)) (t8:Int): ∀(d f k x:Nat) (c:CR) (o:List Int),x+d=A->d<f->Cur k c->k+2*d<=1000000->o.length=x->
  ∃c' o',Bm f (c,N,(A:Int),t6,t7,t8,o,(x:Int))=some (c',N,(A:Int),t6,t7,t8,o')/\Cur (k+2*d) c'/\o'.length=A:=by
 intro d
 induction d with
 |zero=>
  intro f k x c o hx hf hc hk ho
  obtain⟨f,rfl⟩: ∃z,f=z+1:=⟨f-1,by omega⟩
  refine⟨c,o,?_,hc,by omega⟩
  simp only[Bm]
  rw[if_neg (by simp;omega)]
 |succ d ih=>
  intro f k x c o hx hf hc hk ho
  obtain⟨f,rfl⟩: ∃z,f=z+1:=⟨f-1,by omega⟩
  obtain⟨c1,x1,e1,g1,_⟩:=Ck hc (by omega) N (by omega)
  have e1:Ae (c.1,(c.2.1,c.2.2)) N=_:=e1
  obtain⟨c',o',e2,g2,l2⟩:=ih f (k+2) (x+1) c1 (o++ [x1]) (by omega) (by omega) g1 (by omega) (by simp;omega)
  refine⟨c',o',?_,g2.mono (by omega),l2⟩
  simp only[Bm,e1,Option.bind_some,Aw (show x<4611686018427387904 by omega)]
  rw[if_pos (by simp;omega),if_pos (by simp;unfold lim;omega)]
  exact e2
theorem IJ {N:Int} (hN:N<=100) {A:Nat} (hA:A<=3) (t6:Int×List (List Int)): ∀(d f k:Nat) (c:CR) (o:List (List Int)),d<f->Cur k c->k+10*d<=500000->o.length+d<=1000->CT o=true->(∀u∈o,u.length=A)->
  ∃c' o',Bl f (c,N,(A:Int),t6,((A:Int),o),(d:Int))=some (c',N,(A:Int),t6,((A:Int),o'))/\Cur (k+10*d) c'/\rowsB (o.length+d) A o':=by
 intro d
 induction d with
 |zero=>
  intro f k c o hf hc hk ho hi hl
  obtain⟨f,rfl⟩: ∃z,f=z+1:=⟨f-1,by omega⟩
  refine⟨c,o,?_,hc,⟨by omega,λu hu=>by rw[hl u hu];exact Nat.le_refl _⟩⟩
  simp only[Bl]
  rw[if_neg (by simp)]
 |succ d ih=>
  intro f k c o hf hc hk ho hi hl
  obtain⟨f,rfl⟩: ∃z,f=z+1:=⟨f-1,by omega⟩
  obtain⟨c1,t,e1,g1,l1⟩:=IK hN hA t6 ((A:Int),o) ((d+1:Nat):Int) A Ad k 0 c [] (by omega) (by unfold Ad;omega) hc (by omega) rfl
  have e1:Bm Ad ((c.1,(c.2.1,c.2.2)),N,(A:Int),(t6.1,t6.2),((A:Int),o),((d+1:Nat):Int),[],0)=_:=e1
  obtain⟨o1,p1,p2,p3,p4⟩:=Fq (list:=o) (t:=t) (k:=A) (by omega) (by omega) hl l1 hi
  have z1:=Ii p2 hi p3 p4
  obtain⟨c',o',e2,g2,l2⟩:=ih f (k+2*A) c1 o1 (by omega) g1 (by omega) (by omega) p2 (λu hu=>((p3 u).1 hu).elim (λh=>by rw[h];exact l1) (hl u))
  refine⟨c',o',?_,g2.mono (by omega),l2.mono (by omega) (by omega)⟩
  have ew:w64 (((d+1:Nat):Int)-1)=(d:Int):=by rw[Bp (by omega) (by omega)];omega
  simp only[Bl,e1,I5,p1,Option.bind_some,ew]
  rw[if_pos (by simp)]
  exact e2
def Ez (c:CR) (N A:Int) (out:Int×List (List Int)):Option (CR×(Int×List (List Int))):=
 (Ae (c.1,(c.2.1,c.2.2)) 40).bind λr10=>
 if r10.2==0 then
 (Ab (r10.1.1,(r10.1.2.1,r10.1.2.2)) [0,4,(-1)]).bind λr11=>
 some ((r11.1.1,(r11.1.2.1,r11.1.2.2)),(r11.2,out.2))
 else
 if r10.2==1 then
 if 0<=A/\A<=A/\A<=lim then
 if out.2.length+ [List.replicate (Int.toNat A) (0:Int)].length<=lim then
 some ((r10.1.1,(r10.1.2.1,r10.1.2.2)),(out.1,out.2++ [List.replicate (Int.toNat A) (0:Int)]))
 else none
 else none
 else
 if r10.2==2 then
 if decide ((out.2.length:Int)>0)then
 (Ab (r10.1.1,(r10.1.2.1,r10.1.2.2)) [(-1),N,0]).bind λr12=>
 if inb 0 out.2 then
 some ((r12.1.1,(r12.1.2.1,r12.1.2.2)),(out.1,stt out.2 0 [r12.2]))
 else none
 else
 some ((r10.1.1,(r10.1.2.1,r10.1.2.2)),(out.1,out.2))
 else
 some ((r10.1.1,(r10.1.2.1,r10.1.2.2)),(out.1,out.2))
theorem GL {k:Nat} {c:CR} (hc:Cur k c) (hk:k<=1000000) {N:Int} {A:Nat} (hA:A<=3) {out:Int×List (List Int)} (ho:rowsB 600 3 out.2): ∃c' r,Ez c N (A:Int) out=some (c',r)/\Cur (k+4) c'/\rowsB 601 3 r.2:=by
 obtain⟨c1,x1,e1,g1,_⟩:=Ck hc (by omega) 40 (by omega)
 have e1:Ae (c.1,(c.2.1,c.2.2)) 40=_:=e1
 have hol:=ho.1
 unfold Ez
 simp only[e1,Option.bind_some]
 by_cases h0:x1=0
 ·rw[if_pos (by simpa using h0)]
  obtain⟨c2,x2,e2,g2,_⟩:=CA g1 (by omega) (l:= [0,4,(-1)]) (by simp) (by simp)
  have e2:Ab (c1.1,(c1.2.1,c1.2.2)) [0,4,(-1)]=_:=e2
  simp only[e2,Option.bind_some]
  exact⟨_,_,rfl,g2.mono (by omega),ho.mono (by omega) (by omega)⟩
 ·rw[if_neg (by simpa using h0)]
  by_cases h1:x1=1
  ·rw[if_pos (by simpa using h1),if_pos (by unfold lim;omega),if_pos (by simp;unfold lim;omega)]
   exact⟨_,_,rfl,g1.mono (by omega),ho.app (by simp;omega)⟩
  ·rw[if_neg (by simpa using h1)]
   by_cases h2:x1=2
   ·rw[if_pos (by simpa using h2)]
    by_cases h3:(out.2.length:Int)>0
    ·rw[if_pos (by simpa using h3)]
     obtain⟨c2,x2,e2,g2,_⟩:=CA g1 (by omega) (l:= [(-1),N,0]) (by simp) (by simp)
     have e2:Ab (c1.1,(c1.2.1,c1.2.2)) [(-1),N,0]=_:=e2
     simp only[e2,Option.bind_some]
     rw[if_pos (by unfold inb;omega)]
     refine⟨_,_,rfl,g2.mono (by omega),⟨by show(List.set out.2 _ _).length<=601;rw[List.length_set];omega,λr hr=>?_⟩⟩
     have hr:r∈List.set out.2 (0:Int).toNat [x2]:=hr
     rcases List.mem_or_eq_of_mem_set hr with hr|rfl
     ·exact ho.2 r hr
     ·simp
    ·rw[if_neg (by simpa using h3)]
     exact⟨_,_,rfl,g1.mono (by omega),ho.mono (by omega) (by omega)⟩
   ·rw[if_neg (by simpa using h2)]
    exact⟨_,_,rfl,g1.mono (by omega),ho.mono (by omega) (by omega)⟩
theorem D6 {k:Nat} {c:CR} (hc:Cur k c) (hk:k<=100000) {N A:Int} (hN:N<=100): ∃c' r,A9 c N A=some (c',r)/\Cur (k+200) c'/\rowsB 601 3 r.2:=by
 unfold A9
 rw[Fh,Ch]
 simp only[Option.bind_some]
 cases hs:Gl N with
 |false=>exact⟨_,_,rfl,hc.mono (by omega),⟨by simp,by simp⟩⟩
 |true=>
  simp only[Bool.not_true,Bool.false_eq_true,if_false]
  by_cases hA:1<=A/\A<=3
  ·rw[if_neg (by simp;omega)]
   obtain⟨a,rfl⟩: ∃a:Nat,A=(a:Int):=⟨A.toNat,by omega⟩
   have hn:1<=N/\N<=8:=by unfold Gl at hs;simpa using hs
   obtain⟨n,rfl⟩: ∃n:Nat,N=(n:Int):=⟨N.toNat,by omega⟩
   obtain⟨c1,x1,e1,g1,m1⟩:=CA hc (by omega) (l:= [0,1,2,3,4,6,9]) (by simp) (by simp)
   have hx1:0<=x1/\x1<=9:=by simp at m1;omega
   obtain⟨m,rfl⟩: ∃m:Nat,x1=(m:Int):=⟨x1.toNat,by omega⟩
   obtain⟨c2,o,e2,g2,r2⟩:=IJ (N:=(n:Int)) (by omega) (A:=a) (by omega) (0,[]) m Ad (k+2) c1 [] (by unfold Ad;omega) g1 (by omega) (by simp;omega) rfl (by simp)
   have r2:rowsB 600 3 o:=r2.mono (by simp;omega) (by omega)
   have e1:Ab (c.1,(c.2.1,c.2.2)) [0,1,2,3,4,6,9]=_:=e1
   have e2:Bl Ad ((c1.1,(c1.2.1,c1.2.2)),(n:Int),(a:Int),(0,[]),((a:Int),[]),(m:Int))=_:=e2
   simp only[e1,e2,Option.bind_some]
   have hn':1<=n/\n<=8:=by omega
   have ha':1<=a/\a<=3:=by omega
   have fin: ∀(c:CR) (out:Int×List (List Int)),Cur (k+150) c->rowsB 600 3 out.2-> ∃c' r,Ez c (n:Int) (a:Int) out=some (c',r)/\Cur (k+200) c'/\rowsB 601 3 r.2:=λc out hc ho=>by
    obtain⟨c',r,e,g,h⟩:=GL hc (by omega) (N:=(n:Int)) (A:=a) (by omega) ho
    exact⟨c',r,e,g.mono (by omega),h⟩
   have mid: ∀(c:CR) (out:Int×List (List Int)),Cur (k+130) c->rowsB 600 3 out.2-> ∃c' r,((Av (c.1,(c.2.1,c.2.2)) 12).bind λr8=>if r8.2 then(CV (n:Int) (a:Int)).bind λr9=>Ez r8.1 (n:Int) (a:Int) r9 else Ez r8.1 (n:Int) (a:Int) out)=some (c',r)/\Cur (k+200) c'/\rowsB 601 3 r.2:=λc out hc ho=>by
    obtain⟨c3,b3,e3,g3⟩:=D5 hc (by omega) 12 (by omega)
    have e3:Av (c.1,(c.2.1,c.2.2)) 12=_:=e3
    simp only[e3,Option.bind_some]
    cases b3 with
    |true=>
     obtain⟨w,e4,h4⟩:=G7 hn' ha'
     simp only[if_true,e4,Option.bind_some]
     exact fin c3 ((a:Int),w) (g3.mono (by omega)) (h4.mono (by omega) (by omega))
    |false=>
     simp only[Bool.false_eq_true,if_false]
     exact fin c3 out (g3.mono (by omega)) ho
   by_cases h2:((a:Int)==2)=true
   ·rw[if_pos h2]
    obtain⟨c3,b3,e3,g3⟩:=D5 g2 (by omega) 3 (by omega)
    have e3:Av (c2.1,(c2.2.1,c2.2.2)) 3=_:=e3
    simp only[e3,Option.bind_some]
    cases b3 with
    |true=>
     obtain⟨c4,p,e4,g4,l4⟩:=FR (N:=n) (by omega) g3 (by omega)
     have e4:B0 (c3.1,(c3.2.1,c3.2.2)) (n:Int)=_:=e4
     obtain⟨w,e5,h5⟩:=He (p:=p) (by omega)
     simp only[if_true,e4,e5,Option.bind_some]
     exact mid c4 (2,w) (g4.mono (by omega)) (h5.mono (by omega) (by omega))
    |false=>
     simp only[Bool.false_eq_true,if_false]
     exact mid c3 ((a:Int),o) (g3.mono (by omega)) r2
   ·rw[if_neg h2]
    exact mid c2 ((a:Int),o) (g2.mono (by omega)) r2
  ·rw[if_pos (by simp;omega)]
   exact⟨_,_,rfl,hc.mono (by omega),⟨by simp,by simp⟩⟩
end T
