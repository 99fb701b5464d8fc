/- Plain lemmas on the typed functions of the program, the first part; no conditions. -/
import Derived.Test.YtdbnhgpajhaleaaGreatV1
import Derived.Test.YtdbnhgpajhaleaaGreatV5
import Derived.KernelRfl
set_option linter.all false
namespace Go.Va
theorem G7 (x:Int):w64 x=(x+9223372036854775808)%18446744073709551616-9223372036854775808:=by
 simp[w64,IntKind.wrap,IntKind.bits,IntKind.signed]
 split<;>omega
theorem AL {x:Int} (h1: -9223372036854775808<=x) (h2:x<=9223372036854775807):w64 x=x:=by
 rw[G7];omega
theorem Ab {k:Nat} (h:k<4611686018427387904):w64 ((k:Int)+1)=((k+1:Nat):Int):=by
 rw[AL (by omega) (by omega)];rfl
theorem Ac {α:Type} {k:Nat} {xs:List α}:inb (k:Int) xs↔k<xs.length:=by
 unfold inb;omega
theorem Ai {α:Type} {k:Nat} {xs:List α} {d:α} (h:k<xs.length):gd xs (k:Int) d=xs[k]:=by
 unfold gd;simp[h]
theorem BD {α:Type} {k:Nat} {xs:List α} {x:α}:stt xs (k:Int) x=xs.set k x:=by
 unfold stt;simp
def J5 {α σ β:Type} (step:σ->α->Option (σ⊕β)) (fin:σ->Option β):List α->σ->Option β
 | [],s=>fin s
 |a::l,s=>match step s a with|some (.inl s')=>J5 step fin l s'|some (.inr r)=>some r|none=>none
theorem MJ {α σ β:Type} (xs:List α) (L:Nat->σ->Int->Option β) (step:σ->α->Option (σ⊕β)) (fin:σ->Option β)
  (hs: ∀n s (k:Nat) (hk:k<xs.length),L (n+1) s k=match step s xs[k]with|some (.inl s')=>L n s' ((k+1:Nat):Int)|some (.inr r)=>some r|none=>none)
  (he: ∀n s,L (n+1) s (xs.length:Nat)=fin s): ∀(n k:Nat) (s:σ),k<=xs.length->xs.length-k<n->L n s k=J5 step fin (xs.drop k) s:=by
 intro n
 induction n with
 |zero=>intro k s _ h;omega
 |succ n ih=>
  intro k s hk hn
  rcases Nat.lt_or_ge k xs.length with hlt|hge
  ·rw[hs n s k hlt,List.drop_eq_getElem_cons hlt]
   simp only[J5]
   cases step s xs[k]with
   |none=>rfl
   |some q=>
    cases q with
    |inl s'=>exact ih (k+1) s' hlt (by omega)
    |inr r=>rfl
  ·have:k=xs.length:=by omega
   subst this
   rw[he,List.drop_length];rfl
theorem L3 {α σ β:Type} (xs:List α) (L:Nat->σ->Int->Option β) (step:σ->α->Option (σ⊕β)) (fin:σ->Option β)
  (hs: ∀n s (k:Nat) (hk:k<xs.length),L (n+1) s k=match step s xs[k]with|some (.inl s')=>L n s' ((k+1:Nat):Int)|some (.inr r)=>some r|none=>none)
  (he: ∀n s,L (n+1) s (xs.length:Nat)=fin s) {n:Nat} (hn:xs.length<n) (s:σ):L n s 0=J5 step fin xs s:=by
 have:=MJ xs L step fin hs he n 0 s (Nat.zero_le _) (by omega)
 simpa using this
theorem IOq {α β:Type} {p:α->Bool} {step:Unit->α->Option (Unit⊕β)} {fin:Unit->Option β} {r:β}: ∀ {l:List α},(∀a∈l,step () a=if p a then some (.inl ())else some (.inr r))->J5 step fin l ()=if l.all p then fin ()else some r
 | [],_=>rfl
 |a::l,h=>by
  simp only[J5]
  rw[h a (by simp)]
  cases hp:p a with
  |true=>simp only[if_true,List.all_cons,hp,Bool.true_and];exact IOq λb hb=>h b (List.mem_cons_of_mem _ hb)
  |false=>simp[List.all_cons,hp]
theorem MC {α β γ:Type} (xs:List α) (L:Nat->List β->Int->Option γ) (g:α->β) (fin:List β->Option γ)
  (hs: ∀n (out:List β) (k:Nat) (hk:k<xs.length),out.length=xs.length->L (n+1) out k=L n (out.set k (g xs[k])) ((k+1:Nat):Int))
  (he: ∀n out,out.length=xs.length->L (n+1) out (xs.length:Nat)=fin out): ∀(n k:Nat) (out:List β),out.length=xs.length->k<=xs.length->xs.length-k<n->L n out k=fin (out.take k++(xs.drop k).map g):=by
 intro n
 induction n with
 |zero=>intro k out _ _ h;omega
 |succ n ih=>
  intro k out hl hk hn
  rcases Nat.lt_or_ge k xs.length with hlt|hge
  ·have:(out.set k (g xs[k])).take (k+1)=out.take k++ [g xs[k]]:=by
    rw[List.take_succ_eq_append_getElem (by simp;omega),List.take_set_of_le (Nat.le_refl _),List.getElem_set_self]
   rw[hs n out k hlt hl,ih (k+1) _ (by simpa using hl) hlt (by omega),List.drop_eq_getElem_cons hlt,this,List.map_cons,List.append_assoc,List.singleton_append]
  ·have:k=xs.length:=by omega
   subst this
   rw[he _ _ hl,List.drop_length,List.take_of_length_le (by omega)];simp
theorem Ks {α β γ:Type} (xs:List α) (L:Nat->List β->Int->Option γ) (g:α->β) (fin:List β->Option γ)
  (hs: ∀n (out:List β) (k:Nat) (hk:k<xs.length),out.length=xs.length->L (n+1) out k=L n (out.set k (g xs[k])) ((k+1:Nat):Int))
  (he: ∀n out,out.length=xs.length->L (n+1) out (xs.length:Nat)=fin out) {n:Nat} {out:List β} (hl:out.length=xs.length) (hn:xs.length<n):L n out 0=fin (xs.map g):=by
 have:=MC xs L g fin hs he n 0 out hl (Nat.zero_le _) (by omega)
 simpa using this
theorem eqX {α:Type} [DecidableEq α] (a b:List α) (hl:a.length=b.length) (L:Nat->Int->Option (Unit⊕Bool))
  (hs: ∀n (k:Nat) (h1:k<a.length) (h2:k<b.length),L (n+1) k=if a[k]=b[k]then L n ((k+1:Nat):Int)else some (.inr false)) (he: ∀n,L (n+1) (a.length:Nat)=some (.inl ())) {n:Nat} (hn:a.length<n):
  L n 0=some (if a=b then .inl ()else .inr false):=by
 have key: ∀(n k:Nat),k<=a.length->a.length-k<n->L n k=some (if a.drop k=b.drop k then .inl ()else .inr false):=by
  intro n
  induction n with
  |zero=>intro k _ h;omega
  |succ n ih=>
   intro k hk hn
   rcases Nat.lt_or_ge k a.length with hlt|hge
   ·have h2:k<b.length:=by omega
    have e:(a.drop k=b.drop k)↔(a[k]=b[k]/\a.drop (k+1)=b.drop (k+1)):=by
     rw[List.drop_eq_getElem_cons hlt,List.drop_eq_getElem_cons h2];exact List.cons_eq_cons
    rw[hs n k hlt h2]
    by_cases h:a[k]=b[k]
    ·rw[if_pos h,ih (k+1) hlt (by omega)]
     by_cases h3:a.drop (k+1)=b.drop (k+1)
     ·rw[if_pos h3,if_pos (e.2 ⟨h,h3⟩)]
     ·rw[if_neg h3,if_neg λh'=>h3 (e.1 h').2]
    ·rw[if_neg h,if_neg λh'=>h (e.1 h').1]
   ·have:k=a.length:=by omega
    subst this
    rw[he,List.drop_length,hl,List.drop_length];rfl
 have:=key n 0 (Nat.zero_le _) (by omega)
 simpa using this
theorem Fa {α β:Type} (xs:List α) (L:Nat->Int->Option β) (p:α->Bool) (r e:β)
  (hs: ∀n (k:Nat) (hk:k<xs.length),L (n+1) k=if p xs[k]then L n ((k+1:Nat):Int)else some r) (he: ∀n,L (n+1) (xs.length:Nat)=some e) {n:Nat} (hn:xs.length<n):
  L n 0=some (if xs.all p then e else r):=by
 have:=L3 xs (λn (_:Unit) i=>L n i) (λ_ a=>if p a then some (.inl ())else some (.inr r)) (λ_=>some e) (λn s k hk=>by rw[hs n k hk];cases p xs[k]<;>simp) (λn s=>he n) hn ()
 rw[this,IOq (p:=p) (r:=r) λa _=>by cases p a<;>simp]
 cases xs.all p<;>simp
theorem CO {σ β:Type} (N:Nat) (L:Nat->σ->Int->Option β) (S:Nat->σ) {r:Option β}
  (hs: ∀n (k:Nat),k<N->L (n+1) (S k) k=L n (S (k+1)) ((k+1:Nat):Int)) (he: ∀n,L (n+1) (S N) (N:Nat)=r) {n:Nat} (hn:N<n):L n (S 0) 0=r:=by
 have key: ∀(n k:Nat),k<=N->N-k<n->L n (S k) k=r:=by
  intro n
  induction n with
  |zero=>intro k _ h;omega
  |succ n ih=>
   intro k hk hn
   rcases Nat.lt_or_ge k N with hlt|hge
   ·rw[hs n k hlt];exact ih (k+1) hlt (by omega)
   ·have:k=N:=by omega
    subst this;exact he n
 exact key n 0 (Nat.zero_le _) (by omega)
theorem L0 {σ β:Type} (N:Nat) (L:Nat->σ->Int->Option β) (S:Nat->σ) (p:Nat->Bool) {r e:Option β}
  (hs: ∀n (k:Nat),k<N->L (n+1) (S k) k=if p k then L n (S (k+1)) ((k+1:Nat):Int)else r) (he: ∀n,L (n+1) (S N) (N:Nat)=e) {n:Nat} (hn:N<n):
  L n (S 0) 0=if(List.range N).all p then e else r:=by
 have key: ∀(n k:Nat),k<=N->N-k<n->L n (S k) k=if(List.range' k (N-k)).all p then e else r:=by
  intro n
  induction n with
  |zero=>intro k _ h;omega
  |succ n ih=>
   intro k hk hn
   rcases Nat.lt_or_ge k N with hlt|hge
   ·rw[hs n k hlt,show N-k=(N-(k+1))+1 by omega,List.range'_succ,List.all_cons]
    cases hp:p k with
    |false=>simp
    |true=>simp only[if_true,Bool.true_and];exact ih (k+1) hlt (by omega)
   ·have:k=N:=by omega
    subst this;rw[he];simp
 have:=key n 0 (Nat.zero_le _) (by omega)
 rw[List.range_eq_range']
 simpa using this
theorem MV {σ β:Type} (N:Nat) (L:Nat->σ->Int->Option β) (S:Nat->σ) (p:Nat->Bool) {r e:Option β}
  (hs: ∀n (k:Nat),k<N->(∀j,j<k->p j=true)->L (n+1) (S k) k=if p k then L n (S (k+1)) ((k+1:Nat):Int)else r) (he: ∀n,(∀j,j<N->p j=true)->L (n+1) (S N) (N:Nat)=e) {n:Nat} (hn:N<n):
  L n (S 0) 0=if(List.range N).all p then e else r:=by
 have key: ∀(n k:Nat),k<=N->N-k<n->(∀j,j<k->p j=true)->L n (S k) k=if(List.range' k (N-k)).all p then e else r:=by
  intro n
  induction n with
  |zero=>intro k _ h;omega
  |succ n ih=>
   intro k hk hn hb
   rcases Nat.lt_or_ge k N with hlt|hge
   ·rw[hs n k hlt hb,show N-k=(N-(k+1))+1 by omega,List.range'_succ,List.all_cons]
    cases hp:p k with
    |false=>simp
    |true=>
     simp only[if_true,Bool.true_and]
     refine ih (k+1) hlt (by omega) λj hj=>?_
     rcases Nat.lt_or_ge j k with h|h
     ·exact hb j h
     ·have:j=k:=by omega
      rw[this];exact hp
   ·have:k=N:=by omega
    subst this;rw[he n hb];simp
 have:=key n 0 (Nat.zero_le _) (by omega) (λj h=>by omega)
 rw[List.range_eq_range']
 simpa using this
end Go.Va
set_option linter.unusedVariables false
open Go Go.Va
namespace T
def Aa:Nat:=1099511627776
def C3 (x:Int) (a:Int) (b:Int):Option (Bool):=
 if decide (x≥a)then
 some (decide (x<=b))
 else
 some false
def Cw:Nat->(Int×(List Int)×Int)->Option ((Unit)⊕(Bool))
 |0,_=>none
 |n+1,(n_,list,i)=>
 if decide (i<(list.length:Int))then
 if inb i list then
 (C3 (gd list i 0) 0 (w64 (n_-1))).bind λr1=>
 if !r1 then
 some (.inr false)
 else
 Cw n (n_,list,w64 (i+1))
 else none
 else
 some (.inl ())
def Dc (n_:Int) (list:List Int):Option (Bool):=
 (Cw Aa (n_,list,0)).bind λs1=>
  match s1 with
  | .inl s2=>
   some true
  | .inr s3=>
   some s3
def Fl (n_:Int) (k:Int) (t:List Int):Option (Bool):=
 if(t.length:Int)==k then
 (Dc n_ t).bind λr1=>
 some r1
 else
 some false
def Do:Nat->(Int×(List Int)×Int×Int)->Option ((Unit)⊕(Bool))
 |0,_=>none
 |n+1,(n_,t7,t8,t9)=>
 if decide (t9<t8)then
 if inb t9 t7 then
 if decide ((gd t7 t9 0)<0)then
 some (.inr false)
 else
 if decide ((gd t7 t9 0)≥n_)then
 some (.inr false)
 else
 Do n (n_,t7,t8,w64 (t9+1))
 else none
 else
 some (.inl ())
def Eo (list:List Int) (n_:Int):Option (Bool):=
 (Do Aa (n_,list,(list.length:Int),0)).bind λs1=>
  match s1 with
  | .inl s2=>
   some true
  | .inr s3=>
   some s3
def FY (n_:Int):Option (Bool):=
 (C3 n_ 1 8).bind λr1=>
 some r1
def CP:Nat->(Int×Int×Int)->Option (Int)
 |0,_=>none
 |n+1,(n_,k,out)=>
 if decide (k>0)then
 CP n (n_,w64 (k-1),w64 (out*n_))
 else
 some out
def Dw (n_:Int) (k:Int):Option (Int):=
 (CP Aa (n_,k,1)).bind λs1=>
 some s1
def Dx:Nat->((List Int)×(List Int)×Int)->Option ((Unit)⊕(Bool))
 |0,_=>none
 |n+1,(a,b,i)=>
 if decide (i<(a.length:Int))then
 if inb i a then
 if inb i b then
 if(gd a i 0) !=(gd b i 0)then
 if inb i a then
 if inb i b then
 some (.inr (decide ((gd a i 0)<(gd b i 0))))
 else none
 else none
 else
 Dx n (a,b,w64 (i+1))
 else none
 else none
 else
 some (.inl ())
def FW (a:List Int) (b:List Int):Option (Bool):=
 (Dx Aa (a,b,0)).bind λs1=>
  match s1 with
  | .inl s2=>
   some false
  | .inr s3=>
   some s3
def Du:Nat->((List Int)×(List Int)×Int)->Option ((Unit)⊕(Bool))
 |0,_=>none
 |n+1,(a,b,i)=>
 if decide (i<(a.length:Int))then
 if inb i a then
 if inb i b then
 if(gd a i 0) !=(gd b i 0)then
 some (.inr false)
 else
 Du n (a,b,w64 (i+1))
 else none
 else none
 else
 some (.inl ())
def FU (a:List Int) (b:List Int):Option (Bool):=
 if(a.length:Int) !=(b.length:Int)then
  some false
 else
  (Du Aa (a,b,0)).bind λs1=>
   match s1 with
   | .inl s2=>
    some true
   | .inr s3=>
    some s3
def C4:Nat->((List (List Int))×(List Int)×Int×Int)->Option ((List (List Int))×(List Int)×Int)
 |0,_=>none
 |n+1,(list,t,from_,to)=>
 if decide (from_<to)then
 if(2:Int)≠0 then
 if inb (w64 (Int.tdiv (w64 (from_+to)) 2)) list then
 (FW (gd list (w64 (Int.tdiv (w64 (from_+to)) 2)) []) t).bind λr1=>
 if r1 then
 C4 n (list,t,w64 ((w64 (Int.tdiv (w64 (from_+to)) 2))+1),to)
 else
 C4 n (list,t,from_,w64 (Int.tdiv (w64 (from_+to)) 2))
 else none
 else none
 else
 some (list,t,from_)
def Es (list:List (List Int)) (t:List Int):Option (Int×Bool):=
 (C4 Aa (list,t,0,(list.length:Int))).bind λs1=>
 if decide (s1.2.2<(s1.1.length:Int))then
 if inb s1.2.2 s1.1 then
 (FU (gd s1.1 s1.2.2 []) s1.2.1).bind λr2=>
 some (s1.2.2,r2)
 else none
 else
 some (s1.2.2,false)
def Bx:Nat->((List Int)×(List Int)×Int)->Option (((List Int)×(List Int))⊕(Int))
 |0,_=>none
 |n+1,(s,t,i)=>
 if decide (i<(s.length:Int))then
 if decide (i<(t.length:Int))then
 if inb i s then
 if inb i t then
 if(gd s i 0) !=(gd t i 0)then
 if inb i s then
 if inb i t then
 if decide ((gd s i 0)<(gd t i 0))then
 some (.inr (-1))
 else
 some (.inr 1)
 else none
 else none
 else
 Bx n (s,t,w64 (i+1))
 else none
 else none
 else
 some (.inl (s,t))
 else
 some (.inl (s,t))
def EM (s:List Int) (t:List Int):Option (Int):=
 (Bx Aa (s,t,0)).bind λs1=>
  match s1 with
  | .inl s2=>
   if decide ((s2.1.length:Int)<(s2.2.length:Int))then
    some (-1)
   else
    if decide ((s2.1.length:Int)>(s2.2.length:Int))then
     some 1
    else
     some 0
  | .inr s3=>
   some s3
def DC:Nat->(Int×Int×Int)->Option (Int)
 |0,_=>none
 |n+1,(n_,k,p)=>
 if decide (k>0)then
 DC n (n_,w64 (k-1),w64 (p*n_))
 else
 some p
def Fe (n_:Int) (k:Int):Option (Int):=
 (DC Aa (n_,k,1)).bind λs1=>
 some s1
end T
open Go Go.Va
namespace T
theorem Cj (x a b:Int):C3 x a b=some (decide (a<=x/\x<=b)):=by
 unfold C3
 by_cases h:a<=x<;>simp[h]
def Ce (n:Int) (l:List Int):Bool:=l.all λx=>decide (0<=x/\x<n)
theorem EE {l:List Int} (n:Int) (hl:l.length<=1099511627775):Eo l n=some (Ce n l):=by
 unfold Eo
 rw[Fa l (λm i=>Do m (n,l,(l.length:Int),i)) (λx=>decide (0<=x/\x<n)) (.inr false) (.inl ()) ?_ ?_ (by unfold Aa;omega)]
 ·unfold Ce;cases l.all (λx=>decide (0<=x/\x<n))<;>simp
 ·intro m k hk
  simp only[Do,Ac,Ai hk,Ab (show k<4611686018427387904 by omega)]
  by_cases h1:l[k]<0
  ·simp[hk,h1,show¬0<=l[k] by omega]
  ·by_cases h2:n<=l[k]
   ·simp[hk,h1,h2,show¬l[k]<n by omega]
   ·simp[hk,h1,h2,show 0<=l[k]/\l[k]<n by omega]
 ·intro m
  simp[Do]
theorem DS {l:List Int} {n:Int} (hn: -9223372036854775808<n) (hn':n<=9223372036854775807) (hl:l.length<=1099511627775):Dc n l=some (Ce n l):=by
 unfold Dc
 rw[Fa l (λm i=>Cw m (n,l,i)) (λx=>decide (0<=x/\x<n)) (.inr false) (.inl ()) ?_ ?_ (by unfold Aa;omega)]
 ·unfold Ce;cases l.all (λx=>decide (0<=x/\x<n))<;>simp
 ·intro m k hk
  simp only[Cw,Ac,Ai hk,Ab (show k<4611686018427387904 by omega),Cj,AL (show-9223372036854775808<=n-1 by omega) (show n-1<=9223372036854775807 by omega)]
  by_cases h1:0<=l[k]/\l[k]<n
  ·simp[hk,h1,show l[k]<=n-1 by omega]
  ·have: ¬(0<=l[k]/\l[k]<=n-1):=by omega
   simp[hk,h1,this]
 ·intro m
  simp[Cw]
theorem G1 {l:List Int} {n:Int} (k:Int) (hn: -9223372036854775808<n) (hn':n<=9223372036854775807) (hl:l.length<=1099511627775):Fl n k l=some (decide ((l.length:Int)=k)&&Ce n l):=by
 unfold Fl
 rw[DS hn hn' hl]
 by_cases h:(l.length:Int)=k<;>simp[h]
end T
open Go Go.Va
namespace T
theorem Gf {n:Int} {l:List Int} (h:Ce n l=true) (k:Nat) (hk:k<l.length):0<=l[k]/\l[k]<n:=by
 have:=(List.all_eq_true.1 h) l[k] (List.getElem_mem hk)
 simpa using this
section
variable {p v:Int} {rows:List (List Int)} {y:List Int}
end
end T
open Go Go.Va
namespace T
def cmpL:List Int->List Int->Int
 | [],[]=>0
 | [],_::_=> -1
 |_::_,[]=>1
 |a::s,b::t=>if a=b then cmpL s t else if a<b then-1 else 1
theorem IX {s t:List Int} (hs:s.length<=1099511627775): ∀(n k:Nat),k<=s.length->k<=t.length->s.length-k<n->
  (Bx n (s,t,(k:Int))).bind (λs1=>match s1 with
   | .inl s2=>if decide ((s2.1.length:Int)<(s2.2.length:Int))then some (-1)else if decide ((s2.1.length:Int)>(s2.2.length:Int))then some 1 else some 0
   | .inr s3=>some s3)=some (cmpL (s.drop k) (t.drop k)):=by
 intro n
 induction n with
 |zero=>intro k _ _ h;omega
 |succ n ih=>
  intro k h1 h2 hn
  by_cases k1:k<s.length
  ·by_cases k2:k<t.length
   ·rw[List.drop_eq_getElem_cons k1,List.drop_eq_getElem_cons k2]
    simp only[Bx,Ac,Ai k1,Ai k2,Ab (show k<4611686018427387904 by omega),cmpL]
    by_cases he:s[k]=t[k]
    ·have:=ih (k+1) k1 k2 (by omega)
     simp[k1,k2,he]
     simpa using this
    ·by_cases hl:s[k]<t[k]<;>simp[k1,k2,he,hl]
   ·rw[List.drop_eq_getElem_cons k1,List.drop_of_length_le (show t.length<=k by omega)]
    have e:k=t.length:=by omega
    simp only[Bx,cmpL]
    simp[k1,k2,show¬s.length<t.length by omega,show t.length<s.length by omega]
  ·rw[List.drop_of_length_le (show s.length<=k by omega)]
   simp only[Bx]
   by_cases k2:k<t.length
   ·rw[List.drop_eq_getElem_cons k2]
    simp[k1,cmpL,show s.length<t.length by omega]
   ·rw[List.drop_of_length_le (show t.length<=k by omega)]
    simp[k1,cmpL,show¬s.length<t.length by omega,show¬t.length<s.length by omega]
theorem FF {s t:List Int} (hs:s.length<=1099511627775):EM s t=some (cmpL s t):=by
 have:=IX (t:=t) hs Aa 0 (Nat.zero_le _) (Nat.zero_le _) (by unfold Aa;omega)
 rw[List.drop_zero,List.drop_zero]at this
 exact this
theorem FX {s t:List Int} (hs:s.length<=1099511627775) (hl:s.length=t.length):FW s t=some (decide (cmpL s t<0)):=by
 have key: ∀(n k:Nat),k<=s.length->s.length-k<n->(Dx n (s,t,(k:Int))).bind (λs1=>match s1 with| .inl _=>some false| .inr s3=>some s3)=some (decide (cmpL (s.drop k) (t.drop k)<0)):=by
  intro n
  induction n with
  |zero=>intro k _ h;omega
  |succ n ih=>
   intro k h1 hn
   by_cases k1:k<s.length
   ·have k2:k<t.length:=by omega
    rw[List.drop_eq_getElem_cons k1,List.drop_eq_getElem_cons k2]
    simp only[Dx,Ac,Ai k1,Ai k2,Ab (show k<4611686018427387904 by omega),cmpL]
    by_cases he:s[k]=t[k]
    ·have:=ih (k+1) k1 (by omega)
     simp[k1,k2,he]
     simpa using this
    ·by_cases hl:s[k]<t[k]<;>simp[k1,k2,he,hl]
   ·rw[List.drop_of_length_le (show s.length<=k by omega),List.drop_of_length_le (show t.length<=k by omega)]
    simp[Dx,k1,cmpL]
 have:=key Aa 0 (Nat.zero_le _) (by unfold Aa;omega)
 rw[List.drop_zero,List.drop_zero]at this
 exact this
theorem Hz {a b:List Int} (ha:a.length<=1099511627775):FU a b=some (decide (a=b)):=by
 unfold FU
 by_cases hl:a.length=b.length
 ·rw[if_neg (by simp[hl]),eqX a b hl (λn i=>Du n (a,b,i)) ?_ ?_ (by unfold Aa;omega)]
  ·by_cases h:a=b<;>simp[h]
  ·intro n k h1 h2
   simp only[Du,Ac,Ai h1,Ai h2,Ab (show k<4611686018427387904 by omega)]
   by_cases h:a[k]=b[k]<;>simp[h1,h2,h]
  ·intro n
   simp[Du]
 ·rw[if_pos (by simp;omega),decide_eq_false (λe=>hl (by rw[e]))]
theorem cmpL_refl: ∀s,cmpL s s=0
 | []=>rfl
 |a::s=>by simp[cmpL,cmpL_refl s]
theorem cmpL_eq: ∀ {s t},cmpL s t=0↔s=t
 | [],[]=>by simp[cmpL]
 | [],_::_=>by simp[cmpL]
 |_::_,[]=>by simp[cmpL]
 |a::s,b::t=>by
  simp only[cmpL]
  by_cases h:a=b
  ·rw[if_pos h,cmpL_eq];simp[h]
  ·rw[if_neg h];split<;>simp[h]
theorem cmpL_symm: ∀s t,cmpL t s= -cmpL s t
 | [],[]=>by simp[cmpL]
 | [],_::_=>by simp[cmpL]
 |_::_,[]=>by simp[cmpL]
 |a::s,b::t=>by
  simp only[cmpL]
  by_cases h:a=b
  ·rw[if_pos h,if_pos h.symm,cmpL_symm s t]
  ·rw[if_neg h,if_neg (Ne.symm h)]
   by_cases h2:a<b
   ·rw[if_pos h2,if_neg (by omega)];rfl
   ·rw[if_neg h2,if_pos (by omega)]
theorem cmpL_trans: ∀ {s t u},cmpL s t<0->cmpL t u<0->cmpL s u<0
 | [],[],_,h,_=>by simp[cmpL]at h
 | [],_::_,[],_,h=>by simp[cmpL]at h
 | [],_::_,_::_,_,_=>by simp[cmpL]
 |_::_,[],_,h,_=>by simp[cmpL]at h
 |_::_,_::_,[],_,h=>by simp[cmpL]at h
 |a::s,b::t,c::u,h1,h2=>by
  simp only[cmpL]at*
  by_cases e1:a=b
  ·rw[if_pos e1]at h1
   by_cases e2:b=c
   ·rw[if_pos e2]at h2;rw[if_pos (e1.trans e2)];exact cmpL_trans h1 h2
   ·rw[if_neg e2]at h2;rw[e1,if_neg e2];exact h2
  ·rw[if_neg e1]at h1
   have l1:a<b:=by
    by_cases h:a<b
    ·exact h
    ·rw[if_neg h]at h1;omega
   by_cases e2:b=c
   ·rw[←e2,if_neg e1,if_pos l1];omega
   ·rw[if_neg e2]at h2
    have l2:b<c:=by
     by_cases h:b<c
     ·exact h
     ·rw[if_neg h]at h2;omega
    rw[if_neg (by omega),if_pos (by omega)];omega
def D7:List (List Int)->Bool
 |a::b::l=>decide (cmpL a b<0)&&D7 (b::l)
 |_=>true
theorem JT {a:List Int} {l:List (List Int)} (h:D7 (a::l)=true):D7 l=true:=by
 cases l with
 |nil=>rfl
 |cons b l=>simp only[D7,Bool.and_eq_true]at h;exact h.2
theorem HV: ∀ {a:List Int} {l:List (List Int)},D7 (a::l)=true-> ∀b∈l,cmpL a b<0
 |a,[],_,b,hb=>by cases hb
 |a,c::l,h,b,hb=>by
  simp only[D7,Bool.and_eq_true,decide_eq_true_eq]at h
  rcases List.mem_cons.1 hb with rfl|hb
  ·exact h.1
  ·exact cmpL_trans h.1 (HV h.2 b hb)
theorem Fg: ∀ {l:List (List Int)},D7 l=true-> ∀(i j:Nat) (hi:i<j) (hj:j<l.length),cmpL (l[i]'(by omega)) l[j]<0
 | [],_,i,j,_,hj=>by simp at hj
 |a::l,h,0,j+1,_,hj=>by
  simp only[List.getElem_cons_zero,List.getElem_cons_succ]
  exact HV h _ (List.getElem_mem _)
 |a::l,h,i+1,j+1,hi,hj=>by
  simp only[List.getElem_cons_succ]
  exact Fg (JT h) i j (by omega) (by simpa using hj)
theorem IA {l:List (List Int)}:D7 l=true↔ ∀(i:Nat) (hi:i+1<l.length),cmpL (l[i]'(by omega)) l[i+1]<0:=by
 constructor
 ·exact λh i hi=>Fg h i (i+1) (by omega) hi
 ·induction l with
  |nil=>intro _;rfl
  |cons a l ih=>
   intro h
   cases l with
   |nil=>rfl
   |cons b l=>
    simp only[D7,Bool.and_eq_true,decide_eq_true_eq]
    exact⟨h 0 (by simp),ih λi hi=>by have:=h (i+1) (by simpa using hi);simpa using this⟩
end T
open Go Go.Va
namespace T
theorem H3 {n:Int} (h0:0<=n) (h8:n<=8): ∀k:Nat,0<=n^k/\n^k<=8^k
 |0=>by simp
 |k+1=>by
  obtain⟨h1,h2⟩:=H3 h0 h8 k
  rw[Int.pow_succ,Int.pow_succ]
  exact⟨Int.mul_nonneg h1 h0,Int.mul_le_mul h2 h8 h0 (by have:(0:Int)<=8^k:=Int.le_trans h1 h2;exact this)⟩
theorem Lz: ∀k:Nat,k<=20->(8:Int)^k<=8^20:=by
 intro k hk
 have:((8^k:Nat):Int)<=((8^20:Nat):Int):=Int.ofNat_le.2 (Nat.pow_le_pow_right (by omega) hk)
 simpa using this
theorem K0 {n:Int} (h0:0<=n) (h8:n<=8) {k:Nat} (hk:k<=20):0<=n^k/\n^k<=1152921504606846976:=by
  obtain⟨h1,h2⟩:=H3 h0 h8 k
  have:=Lz k hk
  exact ⟨h1, by have e : (8 : Int) ^ 20 = 1152921504606846976 := by decide
                omega⟩
theorem KO {n:Int} (h0:0<=n) (h8:n<=8): ∀(m k j:Nat),j+k<=20->k<m->CP m (n,(k:Int),n^j)=some (n^(j+k)):=by
 intro m
 induction m with
 |zero=>intro k j _ h;omega
 |succ m ih=>
  intro k j hj hk
  simp only[CP]
  cases k with
  |zero=>simp
  |succ k=>
   have e:w64 (((k+1:Nat):Int)-1)=(k:Int):=by rw[AL (by omega) (by omega)];omega
   have hb:=K0 h0 h8 (k:=j+1) (by omega)
   rw[Int.pow_succ]at hb
   rw[e,AL (by omega) (by omega),←Int.pow_succ,if_pos (by simp),ih k (j+1) (by omega) (by omega)]
   congr 2<;>omega
theorem Gd {n:Int} (h0:0<=n) (h8:n<=8) {k:Nat} (hk:k<=20):Dw n (k:Int)=some (n^k):=by
 unfold Dw
 have:=KO h0 h8 Aa k 0 (by omega) (by unfold Aa;omega)
 rw[Int.pow_zero]at this
 rw[this];simp
def Ih (n:Int):Int->List Int->Int
 |i,[]=>i
 |i,a::l=>Ih n (i*n+a) l
def idx (n:Int) (l:List Int):Int:=Ih n 0 l
theorem Ii (n:Int): ∀(l:List Int) (i:Int),Ih n i l=i*n^l.length+Ih n 0 l
 | [],i=>by simp[Ih]
 |a::l,i=>by
  simp only[Ih,List.length_cons]
  rw[Ii n l (i*n+a),Ii n l (0*n+a),Int.pow_succ]
  simp only[Int.zero_mul,Int.zero_add]
  rw[Int.add_mul,Int.mul_assoc,Int.mul_comm n (n^l.length)]
  omega
theorem Hh (n a:Int) (l:List Int):idx n (a::l)=a*n^l.length+idx n l:=by
 unfold idx
 simp only[Ih]
 rw[Ii];simp
theorem FC {n a:Int} {l:List Int}:Ce n (a::l)=true↔(0<=a/\a<n)/\Ce n l=true:=by
 unfold Ce;simp[List.all_cons]
theorem Hg {n:Int}: ∀ {l:List Int},Ce n l=true->0<=idx n l/\idx n l<n^l.length
 | [],_=>by simp[idx,Ih]
 |a::l,h=>by
  obtain⟨h1,h2⟩:=FC.1 h
  obtain⟨h3,h4⟩:=Hg h2
  rw[Hh,List.length_cons,Int.pow_succ]
  have hp:0<=n^l.length:=by omega
  have k1:=Int.mul_nonneg h1.1 hp
  have k2:=Int.mul_le_mul_of_nonneg_right (show a+1<=n by omega) hp
  rw[Int.add_mul,Int.one_mul,Int.mul_comm n]at k2
  exact⟨by omega,by omega⟩
theorem Jt {n:Int}: ∀ {s t:List Int},Ce n s=true->Ce n t=true->s.length=t.length->(cmpL s t<0↔idx n s<idx n t)/\(cmpL s t=0↔idx n s=idx n t)
 | [],[],_,_,_=>by simp[cmpL,idx,Ih]
 | [],_::_,_,_,h=>by simp at h
 |_::_,[],_,_,h=>by simp at h
 |a::s,b::t,hs,ht,hl=>by
  obtain⟨s1,s2⟩:=FC.1 hs
  obtain⟨t1,t2⟩:=FC.1 ht
  have hl':s.length=t.length:=by simpa using hl
  have ih:=Jt s2 t2 hl'
  obtain⟨b1,b2⟩:=Hg s2
  obtain⟨c1,c2⟩:=Hg t2
  rw[Hh,Hh,hl']
  rw[hl']at b2
  simp only[cmpL]
  have hp:0<=n^t.length:=by omega
  rcases Int.lt_trichotomy a b with h|h|h
  ·have:=Int.mul_le_mul_of_nonneg_right (show a+1<=b by omega) hp
   rw[Int.add_mul,Int.one_mul]at this
   rw[if_neg (by omega),if_pos h]
   exact⟨by constructor<;>intro<;>omega,by constructor<;>intro<;>omega⟩
  ·subst h
   rw[if_pos rfl]
   exact⟨by rw[ih.1];constructor<;>intro<;>omega,by rw[ih.2];constructor<;>intro<;>omega⟩
  ·have:=Int.mul_le_mul_of_nonneg_right (show b+1<=a by omega) hp
   rw[Int.add_mul,Int.one_mul]at this
   rw[if_neg (by omega),if_neg (by omega)]
   exact⟨by constructor<;>intro<;>omega,by constructor<;>intro<;>omega⟩
theorem GK {n:Int} {k:Nat} {l:List (List Int)} (hi:D7 l=true) (hv: ∀t∈l,t.length=k/\Ce n t=true):(l.length:Int)<=n^k∨l= []:=by
 have key: ∀(i:Nat) (h:i<l.length),(i:Int)<=idx n l[i]:=by
  intro i
  induction i with
  |zero=>intro h;exact(Hg (hv _ (List.getElem_mem h)).2).1
  |succ i ih=>
   intro h
   have h1:=ih (by omega)
   obtain⟨l1,b1⟩:=hv _ (List.getElem_mem (show i<l.length by omega))
   obtain⟨l2,b2⟩:=hv _ (List.getElem_mem h)
   have:=(Jt b1 b2 (l1.trans l2.symm)).1.1 (Fg hi i (i+1) (by omega) h)
   omega
 cases hn:l.length with
 |zero=>exact .inr (List.length_eq_zero_iff.1 hn)
 |succ m=>
  left
  have h:=key m (by omega)
  obtain⟨l1,b1⟩:=hv _ (List.getElem_mem (show m<l.length by omega))
  have:=(Hg b1).2
  rw[l1]at this
  omega
theorem Lg {list:List (List Int)} {t:List Int} {k:Nat} (hl:list.length<=1099511627775) (hk:k<=1099511627775) (hv: ∀u∈list,u.length=k) (ht:t.length=k) (hi:D7 list=true): ∀(m a b:Nat),a<=b->b<=list.length->b-a<m->
  (∀i (h:i<list.length),i<a->cmpL list[i] t<0)->(∀i (h:i<list.length),b<=i-> ¬cmpL list[i] t<0)->
  ∃c:Nat,C4 m (list,t,(a:Int),(b:Int))=some (list,t,(c:Int))/\c<=list.length/\(∀i (h:i<list.length),i<c->cmpL list[i] t<0)/\(∀i (h:i<list.length),c<=i-> ¬cmpL list[i] t<0):=by
 intro m
 induction m with
 |zero=>intro a b _ _ h;omega
 |succ m ih=>
  intro a b hab hb hm h1 h2
  simp only[C4]
  by_cases hlt:a<b
  ·have emid:w64 (Int.tdiv (w64 ((a:Int)+b)) 2)=(((a+b)/2:Nat):Int):=by
    rw[AL (x:=(a:Int)+b) (by omega) (by omega),Int.tdiv_eq_ediv_of_nonneg (by omega),AL (by omega) (by omega)];omega
   have hmid:(a+b)/2<list.length:=by omega
   rw[emid]
   have hless:=FX (s:=list[(a+b)/2]) (t:=t) (by rw[hv _ (List.getElem_mem hmid)];omega) (by rw[hv _ (List.getElem_mem hmid),ht])
   simp only[Ac,Ai hmid,hless,Option.bind_some,Ab (show(a+b)/2<4611686018427387904 by omega)]
   by_cases hc:cmpL list[(a+b)/2] t<0
   ·obtain⟨c,e,k1,k2,k3⟩:=ih ((a+b)/2+1) b (by omega) hb (by omega) (λi h hi'=>by
     rcases Nat.lt_or_ge i ((a+b)/2)with h'|h'
     ·exact cmpL_trans (Fg hi i ((a+b)/2) h' hmid) hc
     ·have:i=(a+b)/2:=by omega
      subst this;exact hc) h2
    exact⟨c,by simpa[hlt,hmid,hc]using e,k1,k2,k3⟩
   ·obtain⟨c,e,k1,k2,k3⟩:=ih a ((a+b)/2) (by omega) (by omega) (by omega) h1 (λi h hi' hneg=>by
     rcases Nat.lt_or_ge ((a+b)/2) i with h'|h'
     ·exact hc (cmpL_trans (Fg hi ((a+b)/2) i h' h) hneg)
     ·have:i=(a+b)/2:=by omega
      subst this;exact hc hneg)
    exact⟨c,by simpa[hlt,hmid,hc]using e,k1,k2,k3⟩
  ·have:a=b:=by omega
   subst this
   exact⟨a,by simp,hb,h1,h2⟩
theorem EJ {list:List (List Int)} {t:List Int} {k:Nat} (hl:list.length<=1099511627774) (hk:k<=1099511627775) (hv: ∀u∈list,u.length=k) (ht:t.length=k) (hi:D7 list=true):
  ∃c:Nat,Es list t=some ((c:Int),decide (t∈list))/\c<=list.length/\(∀i (h:i<list.length),i<c->cmpL list[i] t<0)/\(∀i (h:i<list.length),c<=i-> ¬cmpL list[i] t<0):=by
 obtain⟨c,e,k1,k2,k3⟩:=Lg (by omega) hk hv ht hi Aa 0 list.length (Nat.zero_le _) (Nat.le_refl _) (by unfold Aa;omega) (λi _ h=>by omega) (λi h h'=>by omega)
 refine⟨c,?_,k1,k2,k3⟩
 unfold Es
 have e':C4 Aa (list,t,0,(list.length:Int))=some (list,t,(c:Int)):=e
 rw[e']
 simp only[Option.bind_some]
 by_cases hc:c<list.length
 ·have hs:=Hz (a:=list[c]) (b:=t) (by rw[hv _ (List.getElem_mem hc)];omega)
  simp only[Ac,Ai hc,hs,Option.bind_some]
  have:decide (list[c]=t)=decide (t∈list):=by
   by_cases h:list[c]=t
   ·rw[decide_eq_true h,decide_eq_true (h▸List.getElem_mem hc)]
   ·rw[decide_eq_false h]
    symm;rw[decide_eq_false_iff_not]
    intro hm
    obtain⟨j,hj,rfl⟩:=List.mem_iff_getElem.1 hm
    have hne:j≠c:=λe=>h (by subst e;rfl)
    rcases Nat.lt_or_ge j c with hlt|hge
    ·have:=k2 j hj hlt;rw[cmpL_refl]at this;omega
    ·exact k3 c hc (Nat.le_refl _) (Fg hi c j (by omega) hj)
  simp[hc,this]
 ·have:decide (t∈list)=false:=by
   rw[decide_eq_false_iff_not]
   intro hm
   obtain⟨j,hj,rfl⟩:=List.mem_iff_getElem.1 hm
   have:=k2 j hj (by omega);rw[cmpL_refl]at this;omega
  rw[if_neg (by simp;omega),this]
end T
open Go Go.Va
namespace T
def JC (n:Int):Bool:=decide (1<=n/\n<=8)
theorem HA (n:Int):FY n=some (JC n):=by
 unfold FY JC
 rw[Cj];simp
end T
set_option linter.unusedVariables false
open Go Go.Va
namespace T
def CA:Nat->(Int×(Int×(List (List Int)))×Int)->Option ((Unit)⊕(Bool))
 |0,_=>none
 |n+1,(n_,r,i)=>
 if decide (i<(r.2.length:Int))then
 if inb i r.2 then
 (Fl n_ r.1 (gd r.2 i [])).bind λr3=>
 if !r3 then
 some (.inr false)
 else
 if decide (i>0)then
 if inb (w64 (i-1)) r.2 then
 if inb i r.2 then
 (FW (gd r.2 (w64 (i-1)) []) (gd r.2 i [])).bind λr4=>
 if !r4 then
 some (.inr false)
 else
 CA n (n_,(r.1,r.2),w64 (i+1))
 else none
 else none
 else
 CA n (n_,(r.1,r.2),w64 (i+1))
 else none
 else
 some (.inl ())
def Ez (n_:Int) (r:Int×(List (List Int))):Option (Bool):=
 (C3 r.1 1 3).bind λr1=>
  if !r1 then
   some false
  else
   (Dw n_ r.1).bind λr2=>
    if decide ((r.2.length:Int)>r2)then
     some false
    else
     (CA Aa (n_,(r.1,r.2),0)).bind λs3=>
      match s3 with
      | .inl s4=>
       some true
      | .inr s5=>
       some s5
def Gm (vars:Int) (size:Int) (c:(List Int)×Int×(List (List Int))):Option (Bool):=
 (Ez size (c.2.1,c.2.2)).bind λr1=>
 if r1 then
 if(c.1.length:Int)==c.2.1 then
 (Dc vars c.1).bind λr2=>
 some r2
 else
 some false
 else
 some false
def Da:Nat->((Int×Int×(List ((List Int)×Int×(List (List Int)))))×Int)->Option ((Unit)⊕(Bool))
 |0,_=>none
 |n+1,(net,i)=>
 if decide (i<(net.2.2.length:Int))then
 if inb i net.2.2 then
 (Gm net.1 net.2.1 (gd net.2.2 i ([],(0,[])))).bind λr3=>
 if !r3 then
 some (.inr false)
 else
 Da n ((net.1,(net.2.1,net.2.2)),w64 (i+1))
 else none
 else
 some (.inl ())
def C6 (net:Int×Int×(List ((List Int)×Int×(List (List Int))))):Option (Bool):=
 (C3 net.1 0 9).bind λr1=>
  if !r1 then
   some false
  else
   (C3 net.2.1 1 4).bind λr2=>
    if !r2 then
     some false
    else
     if decide ((net.2.2.length:Int)>40)then
      some false
     else
      (Da Aa ((net.1,(net.2.1,net.2.2)),0)).bind λs3=>
       match s3 with
       | .inl s4=>
        some true
       | .inr s5=>
        some s5
def B1 (l:List Int):Option ((List Int)):=
 if([]:List Int).length+l.length<=lim then
 some ([]++l)
 else none
def CQ (n_:Int):Option (Bool):=
 if decide (n_≥1)then
 some (decide (n_<=4))
 else
 some false
def BT:Nat->(Int×(Int×(List (List Int)))×(List (List Int))×Int×Int)->Option ((Unit)⊕(Bool))
 |0,_=>none
 |n+1,(n_,r,t16,t17,t18)=>
 if decide (t18<t17)then
 if inb t18 t16 then
 if((gd t16 t18 []).length:Int) !=r.1 then
 some (.inr false)
 else
 (Eo (gd t16 t18 []) n_).bind λr1=>
 if !r1 then
 some (.inr false)
 else
 if decide (t18>0)then
 if inb (w64 (t18-1)) r.2 then
 (EM (gd r.2 (w64 (t18-1)) []) (gd t16 t18 [])).bind λr2=>
 if decide (r2≥0)then
 some (.inr false)
 else
 BT n (n_,(r.1,r.2),t16,t17,w64 (t18+1))
 else none
 else
 BT n (n_,(r.1,r.2),t16,t17,w64 (t18+1))
 else none
 else
 some (.inl ())
def DJ (n_:Int) (r:Int×(List (List Int))):Option (Bool):=
 if decide (r.1<1)then
  some false
 else
  if decide (r.1>3)then
   some false
  else
   (BT Aa (n_,(r.1,r.2),r.2,(r.2.length:Int),0)).bind λs1=>
    match s1 with
    | .inl s2=>
     some true
    | .inr s3=>
     some s3
def D3 (vars:Int) (size:Int) (c:(List Int)×Int×(List (List Int))):Option (Bool):=
 (DJ size (c.2.1,c.2.2)).bind λr1=>
 if r1 then
 if(c.1.length:Int)==c.2.1 then
 (Eo c.1 vars).bind λr2=>
 some r2
 else
 some false
 else
 some false
def CG:Nat->((Int×Int×(List ((List Int)×Int×(List (List Int)))))×(List ((List Int)×Int×(List (List Int))))×Int×Int)->Option ((Unit)⊕(Bool))
 |0,_=>none
 |n+1,(net,t26,t27,t28)=>
 if decide (t28<t27)then
 if inb t28 t26 then
 (D3 net.1 net.2.1 ((gd t26 t28 ([],(0,[]))).1,(((gd t26 t28 ([],(0,[]))).2).1,((gd t26 t28 ([],(0,[]))).2).2))).bind λr2=>
 if !r2 then
 some (.inr false)
 else
 CG n ((net.1,(net.2.1,net.2.2)),t26,t27,w64 (t28+1))
 else none
 else
 some (.inl ())
def B2 (net:Int×Int×(List ((List Int)×Int×(List (List Int))))):Option (Bool):=
 if decide (net.1<0)then
  some false
 else
  if decide (net.1>9)then
   some false
  else
   (CQ net.2.1).bind λr1=>
    if !r1 then
     some false
    else
     if decide ((net.2.2.length:Int)>40)then
      some false
     else
      (CG Aa ((net.1,(net.2.1,net.2.2)),net.2.2,(net.2.2.length:Int),0)).bind λs2=>
       match s2 with
       | .inl s3=>
        some true
       | .inr s4=>
        some s4
def DG:Nat->((List Int)×Int×Int)->Option ((Unit)⊕(Bool))
 |0,_=>none
 |n+1,(l,n_,i)=>
 if decide (i<(l.length:Int))then
 if inb i l then
 if(gd l i 0)==n_ then
 some (.inr true)
 else
 DG n (l,n_,w64 (i+1))
 else none
 else
 some (.inl ())
def Gq (l:List Int) (n_:Int):Option (Bool):=
 (DG Aa (l,n_,0)).bind λs1=>
  match s1 with
  | .inl s2=>
   some false
  | .inr s3=>
   some s3
def CU:Nat->((List Int)×(List Bool)×Int×Int)->Option ((List Int))
 |0,_=>none
 |n+1,(list,t7,t8,t9)=>
 if decide (t9<t8)then
 if inb t9 t7 then
 if gd t7 t9 false then
 if list.length+ [t9].length<=lim then
 CU n (list++ [t9],t7,t8,w64 (t9+1))
 else none
 else
 CU n (list,t7,t8,w64 (t9+1))
 else none
 else
 some list
def FL (have_:List Bool):Option ((List Int)):=
 (CU Aa ([],have_,(have_.length:Int),0)).bind λs1=>
 some s1
end T
open Go Go.Va
namespace T
abbrev Con:=List Int×Int×List (List Int)
abbrev Net:=Int×Int×List Con
def JB (a:List (List Int)):Prop:=a.length<=1048576/\ ∀r∈a,r.length<=1048576
def LY (c:Con):Prop:=c.1.length<=1048576/\JB c.2.2
def HF (a:Net):Prop:=a.2.2.length<=1048576/\ ∀c∈a.2.2,LY c
def Fz (n:Int) (r:Int×List (List Int)):Bool:=decide (1<=r.1/\r.1<=3)&&(r.2.all λt=>decide ((t.length:Int)=r.1)&&Ce n t)&&D7 r.2
def HB (n:Int) (r:Int×List (List Int)) (k:Nat):Bool:=decide (((r.2.getD k []).length:Int)=r.1)&&Ce n (r.2.getD k [])&&(decide (k=0)||decide (cmpL (r.2.getD (k-1) []) (r.2.getD k [])<0))
theorem Ah {α:Type} {l:List α} {k:Nat} {d:α} (h:k<l.length):l.getD k d=l[k]:=by simp[List.getD_eq_getElem?_getD,h]
theorem H8 {n ar:Int} {ts:List (List Int)}:(List.range ts.length).all (HB n (ar,ts))=((ts.all λt=>decide ((t.length:Int)=ar)&&Ce n t)&&D7 ts):=by
 rw[Bool.eq_iff_iff,Bool.and_eq_true,List.all_eq_true,List.all_eq_true,IA]
 unfold HB
 constructor
 ·intro h
  refine⟨λt ht=>?_,λi hi=>?_⟩
  ·obtain⟨k,hk,rfl⟩:=List.getElem_of_mem ht
   have:=h k (List.mem_range.2 hk)
   rw[Ah hk]at this
   simp only[Bool.and_eq_true]at this
   rw[Bool.and_eq_true];exact this.1
  ·have:=h (i+1) (List.mem_range.2 hi)
   rw[Ah hi,Nat.add_sub_cancel,Ah (show i<ts.length by omega)]at this
   simp at this
   exact this.2
 ·rintro ⟨h1,h2⟩ k hk
  have hk:=List.mem_range.1 hk
  have e:=h1 _ (List.getElem_mem hk)
  rw[Ah hk]
  rw[Bool.and_eq_true]at e
  rw[Bool.and_eq_true,Bool.and_eq_true]
  refine⟨e,?_⟩
  cases k with
  |zero=>simp
  |succ i=>
   have:=h2 i hk
   rw[Nat.add_sub_cancel,Ah (show i<ts.length by omega)]
   simp[this]
theorem EF {n:Int} {r:Int×List (List Int)} (h:JB r.2):DJ n r=some (Fz n r):=by
 obtain⟨ar,ts⟩:=r
 unfold DJ Fz
 by_cases h1:ar<1
 ·simp[h1,show¬1<=ar by omega]
 ·by_cases h2:ar>3
  ·simp[h1,h2,show¬ar<=3 by omega]
  ·rw[if_neg (by simpa using h1),if_neg (by simpa using h2)]
   have key:=L0 ts.length (λm (_:Unit) i=>BT m (n,(ar,ts),ts,(ts.length:Int),i)) (λ_=>()) (HB n (ar,ts)) (r:=some (.inr false)) (e:=some (.inl ())) (λm k hk=>?_) (λm=>?_) (n:=Aa) (by unfold Aa;have:=h.1;simp at this;omega)
   ·rw[key,H8]
    simp only[show(1<=ar/\ar<=3)=True by simp;omega,decide_true,Bool.true_and]
    cases (ts.all λt=>decide ((t.length:Int)=ar)&&Ce n t)&&D7 ts<;>simp
   ·have hx:=h.2 ts[k] (List.getElem_mem hk)
    have hk':=h.1
    simp only at hk'
    simp only[BT,Ac,Ai hk,Ab (show k<4611686018427387904 by omega),EE n (show ts[k].length<=1099511627775 by omega),HB,Ah hk]
    by_cases hl:(ts[k].length:Int)=ar
    ·cases hb:Ce n ts[k]with
     |false=>simp[hk,hl]
     |true=>
      cases k with
      |zero=>simp[hk,hl]
      |succ i=>
       have hi:i<ts.length:=by omega
       have hx2:=h.2 ts[i] (List.getElem_mem hi)
       have e:w64 (((i+1:Nat):Int)-1)=(i:Int):=by rw[AL (by omega) (by omega)];omega
       simp only[e,Ac,Ai hi,Nat.add_sub_cancel,Ah hi,FF (show ts[i].length<=1099511627775 by omega)]
       by_cases hc:cmpL ts[i] ts[i+1]<0
       ·simp[hk,hl,hi,hc,show¬cmpL ts[i] ts[i+1]≥0 by omega];omega
       ·simp[hk,hl,hi,hc,show cmpL ts[i] ts[i+1]≥0 by omega];omega
    ·simp[hk,hl]
   ·simp[BT]
theorem Fs {n:Int} {r:Int×List (List Int)} (h:JB r.2) (hn:1<=n/\n<=8):Ez n r=some (Fz n r):=by
 obtain⟨ar,ts⟩:=r
 unfold Ez Fz
 rw[Cj]
 by_cases h1:1<=ar/\ar<=3
 ·simp only[h1,and_self,decide_true,Option.bind_some,Bool.not_true,Bool.false_eq_true,if_false,Bool.true_and]
  obtain⟨m,rfl⟩: ∃m:Nat,ar=m:=⟨ar.toNat,by omega⟩
  rw[Gd (by omega) (by omega) (by omega)]
  simp only[Option.bind_some]
  have key:=MV ts.length (λm' (_:Unit) i=>CA m' (n,((m:Int),ts),i)) (λ_=>()) (HB n ((m:Int),ts)) (r:=some (.inr false)) (e:=some (.inl ())) (λm' k hk hb0=>?_) (λm' _=>?_) (n:=Aa) (by unfold Aa;have:=h.1;simp at this;omega)
  ·by_cases hc:(ts.length:Int)>n^m
   ·rw[if_pos (by simpa using hc)]
    by_cases hv:((ts.all λt=>decide ((t.length:Int)=m)&&Ce n t)&&D7 ts)=true
    ·rw[Bool.and_eq_true,List.all_eq_true]at hv
     rcases GK (k:=m) hv.2 λt ht=>by have:=hv.1 t ht;simp at this;exact⟨by omega,this.2⟩with h2|h2
     ·omega
     ·subst h2
      have:=K0 (n:=n) (by omega) (by omega) (k:=m) (by omega)
      simp at hc;omega
    ·simp only[Bool.not_eq_true]at hv;rw[hv]
   ·rw[if_neg (by simpa using hc),key,H8]
    cases (ts.all λt=>decide ((t.length:Int)=m)&&Ce n t)&&D7 ts<;>simp
  ·have hx:=h.2 ts[k] (List.getElem_mem hk)
   have hk':=h.1
   simp only at hk'
   simp only[CA,Ac,Ai hk,Ab (show k<4611686018427387904 by omega),G1 (n:=n) _ (by omega) (by omega) (show ts[k].length<=1099511627775 by omega),HB,Ah hk]
   by_cases hl:(ts[k].length:Int)=m
   ·cases hb:Ce n ts[k]with
    |false=>simp[hk,hl]
    |true=>
     cases k with
     |zero=>simp[hk,hl]
     |succ i=>
      have hi:i<ts.length:=by omega
      have hx2:=h.2 ts[i] (List.getElem_mem hi)
      have e:w64 (((i+1:Nat):Int)-1)=(i:Int):=by rw[AL (by omega) (by omega)];omega
      simp only[e,Ac,Ai hi,Nat.add_sub_cancel,Ah hi]
      have hb1:=hb0 i (by omega)
      simp only[HB,Ah hi,Bool.and_eq_true,decide_eq_true_eq]at hb1
      rw[FX (s:=ts[i]) (t:=ts[i+1]) (by omega) (by have:=hb1.1.1;omega)]
      by_cases hc:cmpL ts[i] ts[i+1]<0
      ·simp[hk,hl,hi,hc];omega
      ·simp[hk,hl,hi,hc];omega
   ·simp[hk,hl]
  ·simp[CA]
 ·have: ¬(1<=ar/\ar<=3):=h1
  simp[this]
end T
open Go Go.Va
namespace T
def Gs (v n:Int) (c:Con):Bool:=Fz n (c.2.1,c.2.2)&&decide ((c.1.length:Int)=c.2.1)&&Ce v c.1
def C1 (a:Net):Bool:=decide (0<=a.1/\a.1<=9)&&decide (1<=a.2.1/\a.2.1<=4)&&decide (a.2.2.length<=40)&&a.2.2.all (Gs a.1 a.2.1)
theorem FJ {v n:Int} {c:Con} (h:LY c):D3 v n c=some (Gs v n c):=by
 unfold D3 Gs
 rw[EF (r:=(c.2.1,c.2.2)) h.2]
 cases Fz n (c.2.1,c.2.2)with
 |false=>simp
 |true=>
  by_cases hl:(c.1.length:Int)=c.2.1
  ·simp[hl,EE v (show c.1.length<=1099511627775 by have:=h.1;omega)]
  ·simp[hl]
theorem HG {v n:Int} {c:Con} (h:LY c) (hv:0<=v/\v<=9) (hn:1<=n/\n<=8):Gm v n c=some (Gs v n c):=by
 unfold Gm Gs
 rw[Fs (r:=(c.2.1,c.2.2)) h.2 hn]
 cases Fz n (c.2.1,c.2.2)with
 |false=>simp
 |true=>
  by_cases hl:(c.1.length:Int)=c.2.1
  ·simp[hl,DS (l:=c.1) (n:=v) (by omega) (by omega) (show c.1.length<=1099511627775 by have:=h.1;omega)]
  ·simp[hl]
theorem Bm {a:Net} (h:HF a):B2 a=some (C1 a):=by
 obtain⟨v,n,cs⟩:=a
 unfold B2 C1
 by_cases h1:v<0
 ·simp[h1,show¬0<=v by omega]
 ·by_cases h2:v>9
  ·simp[h1,h2,show¬v<=9 by omega]
  ·rw[if_neg (by simpa using h1),if_neg (by simpa using h2)]
   unfold CQ
   by_cases h3:1<=n/\n<=4
   ·by_cases h4:cs.length>40
    ·simp[h3,show¬cs.length<=40 by omega];omega
    ·have key:=Fa cs (λm i=>CG m ((v,(n,cs)),cs,(cs.length:Int),i)) (Gs v n) (.inr false) (.inl ()) ?_ ?_ (n:=Aa) (by unfold Aa;omega)
     ·simp only[h3,ge_iff_le,decide_true,if_true,Option.bind_some,Bool.not_true,Bool.false_eq_true,if_false]
      rw[if_neg (by simp;omega),key]
      cases cs.all (Gs v n)<;>simp<;>omega
     ·intro m k hk
      simp only[CG,Ac,Ai hk,Ab (show k<4611686018427387904 by omega),FJ (c:=cs[k]) (h.2 _ (List.getElem_mem hk))]
      cases hb:Gs v n cs[k]<;>simp[hk,hb]
     ·intro m
      simp[CG]
   ·by_cases h5:n≥1
    ·simp[h5,show¬n<=4 by omega]
    ·simp[h5,show¬1<=n by omega]
theorem DK {a:Net} (h:HF a):C6 a=some (C1 a):=by
 obtain⟨v,n,cs⟩:=a
 unfold C6 C1
 rw[Cj,Cj]
 by_cases h1:0<=v/\v<=9
 ·by_cases h3:1<=n/\n<=4
  ·by_cases h4:cs.length>40
   ·simp[h1,h3,show¬cs.length<=40 by omega];omega
   ·have key:=Fa cs (λm i=>Da m ((v,(n,cs)),i)) (Gs v n) (.inr false) (.inl ()) ?_ ?_ (n:=Aa) (by unfold Aa;omega)
    ·simp only[h1,h3,and_self,decide_true,Option.bind_some,Bool.not_true,Bool.false_eq_true,if_false]
     rw[if_neg (by simp;omega),key]
     cases cs.all (Gs v n)<;>simp<;>omega
    ·intro m k hk
     simp only[Da,Ac,Ai hk,Ab (show k<4611686018427387904 by omega),HG (c:=cs[k]) (h.2 _ (List.getElem_mem hk)) h1 (show 1<=n/\n<=8 by omega)]
     cases hb:Gs v n cs[k]<;>simp[hk,hb]
    ·intro m
     simp[Da]
  ·simp[h1,h3]
 ·simp[h1]
structure ConOk (v n:Int) (c:Con):Prop where
 ar:1<=c.2.1/\c.2.1<=3
 sl:(c.1.length:Int)=c.2.1
 sv: ∀(i:Nat) (hi:i<c.1.length),0<=c.1[i]/\c.1[i]<v
 tl: ∀t∈c.2.2,t.length=c.1.length
 tv: ∀t∈c.2.2,∀(i:Nat) (hi:i<t.length),0<=t[i]/\t[i]<n
 inc:D7 c.2.2=true
 many:c.2.2.length<=64
structure NetOk (a:Net):Prop where
 hv:0<=a.1/\a.1<=9
 hn:1<=a.2.1/\a.2.1<=4
 hc:a.2.2.length<=40
 con: ∀c∈a.2.2,ConOk a.1 a.2.1 c
theorem LZ {v n:Int} {c:Con} (hn:1<=n/\n<=4) (h:Gs v n c=true):ConOk v n c:=by
 unfold Gs Fz at h
 simp only[Bool.and_eq_true,decide_eq_true_eq,List.all_eq_true]at h
 obtain⟨⟨⟨⟨h1,h2⟩,h3⟩,h4⟩,h5⟩:=h
 refine⟨h1,h4,λi hi=>Gf h5 i hi,λt ht=>by have:=(h2 t ht).1;omega,λt ht i hi=>Gf (h2 t ht).2 i hi,h3,?_⟩
 rcases GK (n:=n) (k:=c.2.1.toNat) h3 λt ht=>⟨by have:=(h2 t ht).1;omega,(h2 t ht).2⟩with h6|h6
 ·have:n^c.2.1.toNat<=64:=by
   have h7:c.2.1.toNat=1∨c.2.1.toNat=2∨c.2.1.toNat=3:=by omega
   have h8:n=1∨n=2∨n=3∨n=4:=by omega
   rcases h7 with h7|h7|h7<;>rcases h8 with h8|h8|h8|h8<;>rw[h7,h8]<;>decide
  omega
 ·rw[h6];simp
theorem Fh {a:Net} (h:C1 a=true):NetOk a:=by
 unfold C1 at h
 simp only[Bool.and_eq_true,decide_eq_true_eq,List.all_eq_true]at h
 obtain⟨⟨⟨h1,h2⟩,h3⟩,h4⟩:=h
 exact⟨h1,h2,h3,λc hc=>LZ h2 (h4 c hc)⟩
end T
open Go Go.Va
namespace T
theorem LS {β:Type} (N:Nat) (L:Nat->Bool->Int->Option β) (p:Nat->Bool) (f:Bool->Option β)
  (hs: ∀n b (k:Nat),k<N->L (n+1) b k=L n (b&&p k) ((k+1:Nat):Int)) (he: ∀n b,L (n+1) b (N:Nat)=f b) {n:Nat} (hn:N<n) (b:Bool):L n b 0=f (b&&(List.range N).all p):=by
 have key: ∀(n k:Nat) (b:Bool),k<=N->N-k<n->L n b k=f (b&&(List.range' k (N-k)).all p):=by
  intro n
  induction n with
  |zero=>intro k b _ h;omega
  |succ n ih=>
   intro k b hk hn
   rcases Nat.lt_or_ge k N with hlt|hge
   ·rw[hs n b k hlt,ih (k+1) _ hlt (by omega),show N-k=(N-(k+1))+1 by omega,List.range'_succ,List.all_cons,Bool.and_assoc]
   ·have:k=N:=by omega
    subst this;rw[he];simp
 have:=key n 0 b (Nat.zero_le _) (by omega)
 rw[List.range_eq_range']
 simpa using this
def g0 (l:List Int) (i:Nat):Int:=l.getD i 0
theorem KB {l:List Int} {i:Nat} (h:i<l.length):l[i]=g0 l i:=(Ah h).symm
section
variable {v n up:Int} {c:Con} {vals:List Int}
theorem DH {l:List Int} (h:l.length<=1099511627775):B1 l=some l:=by
 unfold B1
 rw[if_pos (by unfold lim;simp;omega)];simp
end
end T
open Go Go.Va
namespace T
def JJ:Con:=([],0,[])
section
variable {a:Net} {steps:List Int}
end
end T
open Go Go.Va
namespace T
abbrev Dom:=List (List Bool)
def mk (bs:List Bool):List Int:=((List.range bs.length).filter λi=>bs.getD i false).map λi:Nat=>(i:Int)
def d2 (d:Dom) (v x:Nat):Bool:=(d.getD v []).getD x false
def K2 (d:Dom) (v x:Nat):Dom:=d.set v ((d.getD v []).set x false)
theorem L7 {bs:List Bool}:(mk bs).length<=bs.length:=by
 unfold mk
 rw[List.length_map]
 have:=List.length_filter_le (λi=>bs.getD i false) (List.range bs.length)
 simpa using this
theorem Ap {α:Type} {l:List α} {i j:Nat} {y d:α}:(l.set i y).getD j d=if i=j/\j<l.length then y else l.getD j d:=by
 simp only[List.getD_eq_getElem?_getD,List.getElem?_set]
 by_cases h:i=j
 ·subst h
  by_cases h2:i<l.length
  ·simp[h2]
  ·simp[h2]
 ·simp[h]
def mu (d:Dom):Nat:=(d.map λr=>r.countP id).sum
theorem Io {α:Type} (f:α->Nat): ∀(l:List α) (i:Nat) (y:α) (hi:i<l.length),((l.set i y).map f).sum+f l[i]=(l.map f).sum+f y
 |x::l,0,y,_=>by simp;omega
 |x::l,i+1,y,hi=>by
  have:=Io f l i y (by simpa using hi)
  simp only[List.set_cons_succ,List.map_cons,List.sum_cons,List.getElem_cons_succ];omega
theorem HN: ∀(r:List Bool) (x:Nat),r.getD x false=true->(r.set x false).countP id+1=r.countP id
 | [],x,h=>by simp at h
 |b::r,0,h=>by simp at h;subst h;simp
 |b::r,x+1,h=>by
  have:=HN r x (by simpa using h)
  rw[List.set_cons_succ,List.countP_cons,List.countP_cons];omega
theorem Lt {d:Dom} {v x:Nat} (h:d2 d v x=true):mu (K2 d v x)+1=mu d:=by
 unfold d2 at h
 rcases Nat.lt_or_ge v d.length with hv|hv
 ·have h1:=Io (λr:List Bool=>r.countP id) d v ((d.getD v []).set x false) hv
  have h2:=HN _ _ h
  rw[Ah hv]at h1 h2
  unfold mu K2
  rw[Ah hv]
  omega
 ·rw[List.getD_eq_getElem?_getD (l:=d),List.getElem?_eq_none hv]at h;simp at h
theorem HH {l:List Int} {x:Int} (h:l.length<=1048576):Gq l x=some (decide (x∈l)):=by
 unfold Gq
 rw[Fa l (λn i=>DG n (l,x,i)) (λy=>!decide (y=x)) (.inr true) (.inl ()) ?_ ?_ (by unfold Aa;omega)]
 ·by_cases hx:x∈l
  ·rw[if_neg]
   ·simp[hx]
   ·rw[List.all_eq_true];intro h;have:=h x hx;simp at this
  ·rw[if_pos]
   ·simp[hx]
   ·rw[List.all_eq_true];intro y hy;have:y≠x:=λe=>hx (e▸hy)
    simp[this]
 ·intro n k hk
  simp only[DG,Ac,Ai hk,Ab (show k<4611686018427387904 by omega)]
  by_cases e:l[k]=x<;>simp[hk,e]
 ·intro n;simp[DG]
end T
open Go Go.Va
namespace T
abbrev ASt:=Dom×List (Int×Int×Int)
section
variable {a:Net} {K:Nat} {c:Con}
end
end T
open Go Go.Va
namespace T
section
variable {a:Net} {K:Nat}
theorem Hl {r:List Bool} (h:r.length<=1048576):FL r=some (mk r):=by
 unfold FL
 have e: ∀k,k<r.length->mk (r.take (k+1))=mk (r.take k)++if r.getD k false then [(k:Int)]else []:=λk hk=>by
  unfold mk
  have h1:(r.take (k+1)).length=k+1:=by simp;omega
  have h2:(r.take k).length=k:=by simp;omega
  rw[h1,h2,List.range_succ,List.filter_append,List.map_append]
  have h3:(List.range k).filter (λi=>(r.take (k+1)).getD i false)=(List.range k).filter (λi=>(r.take k).getD i false):=by
   apply List.filter_congr
   intro i hi
   have:=List.mem_range.1 hi
   simp[List.getD_eq_getElem?_getD,List.getElem?_take,this,show i<k+1 by omega]
  rw[h3]
  have h4:(r.take (k+1)).getD k false=r.getD k false:=by simp[List.getD_eq_getElem?_getD,List.getElem?_take]
  simp only[List.filter_cons,List.filter_nil,h4]
  cases r.getD k false<;>simp
 have hlen: ∀k,(mk (r.take k)).length<=k:=λk=>Nat.le_trans L7 (by simp;omega)
 have:=CO r.length (λn o i=>CU n (o,r,(r.length:Int),i)) (λk=>mk (r.take k)) (r:=some (mk r)) (λn k hk=>?_) (λn=>?_) (n:=Aa) (by unfold Aa;omega)
 ·have e0:mk (r.take 0)= []:=by simp[mk]
  rw[e0]at this;rw[this];rfl
 ·have hl1:(mk (r.take k)).length+1<=lim:=by have:=hlen k;unfold lim;omega
  simp only[CU,Ac,Ai hk,Ab (show k<4611686018427387904 by omega),e k hk,Ah hk]
  cases r[k]<;>simp[hk,hl1]
 ·simp[CU]
end
end T
open Go Go.Va
namespace T
theorem w1:w64 1=1:=by rw[G7];rfl
theorem w2:w64 2=2:=by rw[G7];rfl
theorem w3:w64 3=3:=by rw[G7];rfl
section
variable {a:Net}
end
end T
open Go Go.Va
namespace T
abbrev Opn:=Int×List Int
section
variable {n:Int} {f:Opn}
variable {a:Net}
end
end T
set_option linter.unusedVariables false
open Go Go.Va
namespace T
def BG:Nat->((List Int)×(Int×Int×(List ((List Int)×Int×(List (List Int)))))×(List ((List Int)×Int×(List (List Int))))×Int×Bool×Int)->Option ((List Int)×(Int×Int×(List ((List Int)×Int×(List (List Int)))))×(List ((List Int)×Int×(List (List Int))))×Int×Bool)
 |0,_=>none
 |n+1,(vars,net,out,i,inside,k)=>
 if inb i net.2.2 then
 if decide (k<(((gd net.2.2 i ([],(0,[]))).1).length:Int))then
 if inside then
 if inb i net.2.2 then
 if inb k ((gd net.2.2 i ([],(0,[]))).1)then
 (Gq vars (gd ((gd net.2.2 i ([],(0,[]))).1) k 0)).bind λr1=>
 BG n (vars,(net.1,(net.2.1,net.2.2)),out,i,r1,w64 (k+1))
 else none
 else none
 else
 BG n (vars,(net.1,(net.2.1,net.2.2)),out,i,false,w64 (k+1))
 else
 some (vars,(net.1,(net.2.1,net.2.2)),out,i,inside)
 else none
def Cb:Nat->((List Int)×(Int×Int×(List ((List Int)×Int×(List (List Int)))))×(List ((List Int)×Int×(List (List Int))))×Int)->Option ((List ((List Int)×Int×(List (List Int)))))
 |0,_=>none
 |n+1,(vars,net,out,i)=>
 if decide (i<(net.2.2.length:Int))then
 (BG Aa (vars,(net.1,(net.2.1,net.2.2)),out,i,true,0)).bind λs1=>
 if s1.2.2.2.2 then
 if inb s1.2.2.2.1 s1.2.1.2.2 then
 if s1.2.2.1.length+ [gd s1.2.1.2.2 s1.2.2.2.1 ([],(0,[]))].length<=lim then
 Cb n (s1.1,(s1.2.1.1,(s1.2.1.2.1,s1.2.1.2.2)),s1.2.2.1++ [gd s1.2.1.2.2 s1.2.2.2.1 ([],(0,[]))],w64 (s1.2.2.2.1+1))
 else none
 else none
 else
 Cb n (s1.1,(s1.2.1.1,(s1.2.1.2.1,s1.2.1.2.2)),s1.2.2.1,w64 (s1.2.2.2.1+1))
 else
 some out
def D9 (net:Int×Int×(List ((List Int)×Int×(List (List Int))))) (vars:List Int):Option ((List ((List Int)×Int×(List (List Int))))):=
 (Cb Aa (vars,(net.1,(net.2.1,net.2.2)),[],0)).bind λs1=>
 some s1
def DZ (r:Int×(List (List Int))) (t:List Int):Option (Bool):=
 if(t.length:Int) !=r.1 then
 some false
 else
 (Es r.2 t).bind λr1=>
 some r1.2
def B4:Nat->((List Int)×((List Int)×Int×(List (List Int)))×(List Int)×Int)->Option (((List Int)×Int×(List (List Int)))×(List Int))
 |0,_=>none
 |n+1,(values,c,t,i)=>
 if decide (i<(c.1.length:Int))then
 if inb i c.1 then
 if inb (gd c.1 i 0) values then
 if t.length+ [gd values (gd c.1 i 0) 0].length<=lim then
 B4 n (values,(c.1,(c.2.1,c.2.2)),t++ [gd values (gd c.1 i 0) 0],w64 (i+1))
 else none
 else none
 else none
 else
 some ((c.1,(c.2.1,c.2.2)),t)
def CL (c:(List Int)×Int×(List (List Int))) (values:List Int):Option (Bool):=
 (B4 Aa (values,(c.1,(c.2.1,c.2.2)),[],0)).bind λs1=>
 (DZ (s1.1.2.1,s1.1.2.2) s1.2).bind λr2=>
 some r2
def Db:Nat->((List ((List Int)×Int×(List (List Int))))×(List Int)×Int)->Option ((Unit)⊕(Bool))
 |0,_=>none
 |n+1,(list,values,i)=>
 if decide (i<(list.length:Int))then
 if inb i list then
 (CL (gd list i ([],(0,[]))) values).bind λr1=>
 if !r1 then
 some (.inr false)
 else
 Db n (list,values,w64 (i+1))
 else none
 else
 some (.inl ())
def EB (list:List ((List Int)×Int×(List (List Int)))) (values:List Int):Option (Bool):=
 (Db Aa (list,values,0)).bind λs1=>
  match s1 with
  | .inl s2=>
   some true
  | .inr s3=>
   some s3
def EH (there:List (List (List Bool))) (size:Int) (i:Int) (a:Int) (j:Int) (b:Int):Option (Bool):=
 if decide (i<j)then
 if inb i there then
 if inb j (gd there i [])then
 if inb (w64 ((w64 (a*size))+b)) (gd (gd there i []) j [])then
 some (gd (gd (gd there i []) j []) (w64 ((w64 (a*size))+b)) false)
 else none
 else none
 else none
 else
 if inb j there then
 if inb i (gd there j [])then
 if inb (w64 ((w64 (b*size))+a)) (gd (gd there j []) i [])then
 some (gd (gd (gd there j []) i []) (w64 ((w64 (b*size))+a)) false)
 else none
 else none
 else none
def AM:Nat->((List (List (List Bool)))×Int×Int×Int×(Int×Int×(List ((List Int)×Int×(List (List Int)))))×Int×(List ((List Int)×Int×(List (List Int))))×Bool×Int×Bool×Int)->Option ((List (List (List Bool)))×Int×Int×Int×(Int×Int×(List ((List Int)×Int×(List (List Int)))))×Int×(List ((List Int)×Int×(List (List Int))))×Bool×Int×Bool)
 |0,_=>none
 |n+1,(t1,t2,t3,t4,t5,t11,t12,t13,t14,t15,t16)=>
 if decide (t16<t11)then
 if !t15 then
 if 0<=t5.1/\t5.1<=t5.1/\t5.1<=lim then
 if t11≠0 then
 if inb t2 (List.replicate (Int.toNat t5.1) (0:Int))then
 if t11≠0 then
 if inb t3 (stt (List.replicate (Int.toNat t5.1) (0:Int)) t2 (w64 (Int.tdiv t14 t11)))then
 if inb t4 (stt (stt (List.replicate (Int.toNat t5.1) (0:Int)) t2 (w64 (Int.tdiv t14 t11))) t3 (Int.tmod t14 t11))then
 if inb t2 (stt (stt (stt (List.replicate (Int.toNat t5.1) (0:Int)) t2 (w64 (Int.tdiv t14 t11))) t3 (Int.tmod t14 t11)) t4 t16)then
 (EH t1 t11 t2 (gd (stt (stt (stt (List.replicate (Int.toNat t5.1) (0:Int)) t2 (w64 (Int.tdiv t14 t11))) t3 (Int.tmod t14 t11)) t4 t16) t2 0) t4 t16).bind λr2=>
 if r2 then
 if inb t3 (stt (stt (stt (List.replicate (Int.toNat t5.1) (0:Int)) t2 (w64 (Int.tdiv t14 t11))) t3 (Int.tmod t14 t11)) t4 t16)then
 (EH t1 t11 t3 (gd (stt (stt (stt (List.replicate (Int.toNat t5.1) (0:Int)) t2 (w64 (Int.tdiv t14 t11))) t3 (Int.tmod t14 t11)) t4 t16) t3 0) t4 t16).bind λr3=>
 if r3 then
 (EB t12 (stt (stt (stt (List.replicate (Int.toNat t5.1) (0:Int)) t2 (w64 (Int.tdiv t14 t11))) t3 (Int.tmod t14 t11)) t4 t16)).bind λr4=>
 AM n (t1,t2,t3,t4,(t5.1,(t5.2.1,t5.2.2)),t11,t12,t13,t14,r4,w64 (t16+1))
 else
 AM n (t1,t2,t3,t4,(t5.1,(t5.2.1,t5.2.2)),t11,t12,t13,t14,false,w64 (t16+1))
 else none
 else
 AM n (t1,t2,t3,t4,(t5.1,(t5.2.1,t5.2.2)),t11,t12,t13,t14,false,w64 (t16+1))
 else none
 else none
 else none
 else none
 else none
 else none
 else none
 else
 some (t1,t2,t3,t4,(t5.1,(t5.2.1,t5.2.2)),t11,t12,t13,t14,t15)
 else
 some (t1,t2,t3,t4,(t5.1,(t5.2.1,t5.2.2)),t11,t12,t13,t14,t15)
def AQ:Nat->((List (List (List Bool)))×Int×Int×Int×(Int×Int×(List ((List Int)×Int×(List (List Int)))))×Int×(List ((List Int)×Int×(List (List Int))))×Bool×Int)->Option ((List (List (List Bool)))×Bool)
 |0,_=>none
 |n+1,(t1,t2,t3,t4,t5,t11,t12,t13,t14)=>
 if decide (t14<(w64 (t11*t11)))then
 if inb t2 t1 then
 if inb t3 (gd t1 t2 [])then
 if inb t14 (gd (gd t1 t2 []) t3 [])then
 if !(gd (gd (gd t1 t2 []) t3 []) t14 false)then
 AQ n (t1,t2,t3,t4,(t5.1,(t5.2.1,t5.2.2)),t11,t12,t13,w64 (t14+1))
 else
 (AM Aa (t1,t2,t3,t4,(t5.1,(t5.2.1,t5.2.2)),t11,t12,t13,t14,false,0)).bind λs2=>
 if !s2.2.2.2.2.2.2.2.2.2 then
 if inb s2.2.1 s2.1 then
 if inb s2.2.2.1 (gd s2.1 s2.2.1 [])then
 if inb s2.2.2.2.2.2.2.2.2.1 (gd (gd s2.1 s2.2.1 []) s2.2.2.1 [])then
 AQ n (stt s2.1 s2.2.1 (stt (gd s2.1 s2.2.1 []) s2.2.2.1 (stt (gd (gd s2.1 s2.2.1 []) s2.2.2.1 []) s2.2.2.2.2.2.2.2.2.1 false)),s2.2.1,s2.2.2.1,s2.2.2.2.1,(s2.2.2.2.2.1.1,(s2.2.2.2.2.1.2.1,s2.2.2.2.2.1.2.2)),s2.2.2.2.2.2.1,s2.2.2.2.2.2.2.1,true,w64 (s2.2.2.2.2.2.2.2.2.1+1))
 else none
 else none
 else none
 else
 AQ n (s2.1,s2.2.1,s2.2.2.1,s2.2.2.2.1,(s2.2.2.2.2.1.1,(s2.2.2.2.2.1.2.1,s2.2.2.2.2.1.2.2)),s2.2.2.2.2.2.1,s2.2.2.2.2.2.2.1,s2.2.2.2.2.2.2.2.1,w64 (s2.2.2.2.2.2.2.2.2.1+1))
 else none
 else none
 else none
 else
 some (t1,t13)
def EI (t0:Int×Int×(List ((List Int)×Int×(List (List Int))))) (t1:List (List (List Bool))) (t2:Int) (t3:Int) (t4:Int):Option ((List (List (List Bool)))×Bool):=
 (D9 (t0.1,(t0.2.1,t0.2.2)) [t2,t3,t4]).bind λr1=>
 (AQ Aa (t1,t2,t3,t4,(t0.1,(t0.2.1,t0.2.2)),t0.2.1,r1,false,0)).bind λs2=>
 some (s2.1,s2.2)
def BH:Nat->((Int×Int×(List ((List Int)×Int×(List (List Int)))))×Int×Int×(List (List (List Bool)))×Int×(List (List Bool))×Int×(List Bool)×(List ((List Int)×Int×(List (List Int))))×Int)->Option ((Int×Int×(List ((List Int)×Int×(List (List Int)))))×Int×Int×(List (List (List Bool)))×Int×(List (List Bool))×Int×(List Bool))
 |0,_=>none
 |n+1,(t1,t3,t4,t5,t6,t7,t8,t9,t10,t11)=>
 if decide (t11<(w64 (t4*t4)))then
 if decide (t6<t8)then
 if 0<=t3/\t3<=t3/\t3<=lim then
 if t4≠0 then
 if inb t6 (List.replicate (Int.toNat t3) (0:Int))then
 if t4≠0 then
 if inb t8 (stt (List.replicate (Int.toNat t3) (0:Int)) t6 (w64 (Int.tdiv t11 t4)))then
 (EB t10 (stt (stt (List.replicate (Int.toNat t3) (0:Int)) t6 (w64 (Int.tdiv t11 t4))) t8 (Int.tmod t11 t4))).bind λr2=>
 if inb t11 t9 then
 BH n ((t1.1,(t1.2.1,t1.2.2)),t3,t4,t5,t6,t7,t8,stt t9 t11 r2,t10,w64 (t11+1))
 else none
 else none
 else none
 else none
 else none
 else none
 else
 some ((t1.1,(t1.2.1,t1.2.2)),t3,t4,t5,t6,t7,t8,t9)
 else
 some ((t1.1,(t1.2.1,t1.2.2)),t3,t4,t5,t6,t7,t8,t9)
def Ct:Nat->((Int×Int×(List ((List Int)×Int×(List (List Int)))))×Int×Int×(List (List (List Bool)))×Int×(List (List Bool))×Int)->Option ((Int×Int×(List ((List Int)×Int×(List (List Int)))))×Int×Int×(List (List (List Bool)))×Int×(List (List Bool)))
 |0,_=>none
 |n+1,(t1,t3,t4,t5,t6,t7,t8)=>
 if decide (t8<t3)then
 if 0<=(w64 (t4*t4))/\(w64 (t4*t4))<=(w64 (t4*t4))/\(w64 (t4*t4))<=lim then
 (D9 (t1.1,(t1.2.1,t1.2.2)) [t6,t8]).bind λr1=>
 (BH Aa ((t1.1,(t1.2.1,t1.2.2)),t3,t4,t5,t6,t7,t8,List.replicate (Int.toNat (w64 (t4*t4))) (false:Bool),r1,0)).bind λs2=>
 if s2.2.2.2.2.2.1.length+ [s2.2.2.2.2.2.2.2].length<=lim then
 Ct n ((s2.1.1,(s2.1.2.1,s2.1.2.2)),s2.2.1,s2.2.2.1,s2.2.2.2.1,s2.2.2.2.2.1,s2.2.2.2.2.2.1++ [s2.2.2.2.2.2.2.2],w64 (s2.2.2.2.2.2.2.1+1))
 else none
 else none
 else
 some ((t1.1,(t1.2.1,t1.2.2)),t3,t4,t5,t6,t7)
def Cs:Nat->((Int×Int×(List ((List Int)×Int×(List (List Int)))))×Int×Int×(List (List (List Bool)))×Int)->Option ((Int×Int×(List ((List Int)×Int×(List (List Int)))))×Int×(List (List (List Bool))))
 |0,_=>none
 |n+1,(t1,t3,t4,t5,t6)=>
 if decide (t6<t3)then
 (Ct Aa ((t1.1,(t1.2.1,t1.2.2)),t3,t4,t5,t6,[],0)).bind λs1=>
 if s1.2.2.2.1.length+ [s1.2.2.2.2.2].length<=lim then
 Cs n ((s1.1.1,(s1.1.2.1,s1.1.2.2)),s1.2.1,s1.2.2.1,s1.2.2.2.1++ [s1.2.2.2.2.2],w64 (s1.2.2.2.2.1+1))
 else none
 else
 some ((t1.1,(t1.2.1,t1.2.2)),t3,t5)
def AK:Nat->((Int×Int×(List ((List Int)×Int×(List (List Int)))))×Int×(List (List (List Bool)))×Bool×Int×Int×Int)->Option ((Int×Int×(List ((List Int)×Int×(List (List Int)))))×Int×(List (List (List Bool)))×Bool×Int×Int)
 |0,_=>none
 |n+1,(t1,t3,t5,t13,t14,t15,t16)=>
 if decide (t16<t3)then
 if t16 !=t14 then
 if t16 !=t15 then
 (EI (t1.1,(t1.2.1,t1.2.2)) t5 t14 t15 t16).bind λr3=>
 if r3.2 then
 AK n ((t1.1,(t1.2.1,t1.2.2)),t3,r3.1,true,t14,t15,w64 (t16+1))
 else
 AK n ((t1.1,(t1.2.1,t1.2.2)),t3,r3.1,t13,t14,t15,w64 (t16+1))
 else
 AK n ((t1.1,(t1.2.1,t1.2.2)),t3,t5,t13,t14,t15,w64 (t16+1))
 else
 AK n ((t1.1,(t1.2.1,t1.2.2)),t3,t5,t13,t14,t15,w64 (t16+1))
 else
 some ((t1.1,(t1.2.1,t1.2.2)),t3,t5,t13,t14,t15)
def Cd:Nat->((Int×Int×(List ((List Int)×Int×(List (List Int)))))×Int×(List (List (List Bool)))×Bool×Int×Int)->Option ((Int×Int×(List ((List Int)×Int×(List (List Int)))))×Int×(List (List (List Bool)))×Bool×Int)
 |0,_=>none
 |n+1,(t1,t3,t5,t13,t14,t15)=>
 if decide (t15<t3)then
 (AK Aa ((t1.1,(t1.2.1,t1.2.2)),t3,t5,t13,t14,t15,0)).bind λs3=>
 Cd n ((s3.1.1,(s3.1.2.1,s3.1.2.2)),s3.2.1,s3.2.2.1,s3.2.2.2.1,s3.2.2.2.2.1,w64 (s3.2.2.2.2.2+1))
 else
 some ((t1.1,(t1.2.1,t1.2.2)),t3,t5,t13,t14)
def Cc:Nat->((Int×Int×(List ((List Int)×Int×(List (List Int)))))×Int×(List (List (List Bool)))×Bool×Int)->Option ((Int×Int×(List ((List Int)×Int×(List (List Int)))))×Int×(List (List (List Bool)))×Bool)
 |0,_=>none
 |n+1,(t1,t3,t5,t13,t14)=>
 if decide (t14<t3)then
 (Cd Aa ((t1.1,(t1.2.1,t1.2.2)),t3,t5,t13,t14,w64 (t14+1))).bind λs3=>
 Cc n ((s3.1.1,(s3.1.2.1,s3.1.2.2)),s3.2.1,s3.2.2.1,s3.2.2.2.1,w64 (s3.2.2.2.2+1))
 else
 some ((t1.1,(t1.2.1,t1.2.2)),t3,t5,t13)
def CN:Nat->((Int×Int×(List ((List Int)×Int×(List (List Int)))))×Int×(List (List (List Bool)))×Bool)->Option ((List (List (List Bool))))
 |0,_=>none
 |n+1,(t1,t3,t5,t13)=>
 if t13 then
 (Cc Aa ((t1.1,(t1.2.1,t1.2.2)),t3,t5,false,0)).bind λs3=>
 CN n ((s3.1.1,(s3.1.2.1,s3.1.2.2)),s3.2.1,s3.2.2.1,s3.2.2.2)
 else
 some t5
def Df (t0:Int×Int×(List ((List Int)×Int×(List (List Int))))):Option ((List (List (List Bool)))):=
 (Cs Aa ((t0.1,(t0.2.1,t0.2.2)),t0.1,t0.2.1,[],0)).bind λs1=>
 (CN Aa ((s1.1.1,(s1.1.2.1,s1.1.2.2)),s1.2.1,s1.2.2,true)).bind λs2=>
 some s2
def CF:Nat->((List Bool)×Int×(List (Int×Int))×Int)->Option ((List (Int×Int)))
 |0,_=>none
 |n+1,(cells,size,out,at_)=>
 if decide (at_<(cells.length:Int))then
 if inb at_ cells then
 if gd cells at_ false then
 if size≠0 then
 if size≠0 then
 if out.length+ [(w64 (Int.tdiv at_ size),Int.tmod at_ size)].length<=lim then
 CF n (cells,size,out++ [(w64 (Int.tdiv at_ size),Int.tmod at_ size)],w64 (at_+1))
 else none
 else none
 else none
 else
 CF n (cells,size,out,w64 (at_+1))
 else none
 else
 some out
def Fk (cells:List Bool) (size:Int):Option ((List (Int×Int))):=
 (CF Aa (cells,size,[],0)).bind λs1=>
 some s1
def Dm:Nat->(Int×(List Int)×Int×Int)->Option ((Unit)⊕(Bool))
 |0,_=>none
 |n+1,(x,t7,t8,t9)=>
 if decide (t9<t8)then
 if inb t9 t7 then
 if x==(gd t7 t9 0)then
 some (.inr false)
 else
 Dm n (x,t7,t8,w64 (t9+1))
 else none
 else
 some (.inl ())
def FG (list:List Int) (x:Int):Option (Bool):=
 (Dm Aa (x,list,(list.length:Int),0)).bind λs1=>
  match s1 with
  | .inl s2=>
   some true
  | .inr s3=>
   some s3
def Dp:Nat->((List Int)×(List Int)×Int×Int)->Option ((Unit)⊕(Bool))
 |0,_=>none
 |n+1,(y,t7,t8,t9)=>
 if decide (t9<t8)then
 if inb t9 t7 then
 (FG y (gd t7 t9 0)).bind λr1=>
 if r1 then
 some (.inr false)
 else
 Dp n (y,t7,t8,w64 (t9+1))
 else none
 else
 some (.inl ())
def FK (x:List Int) (y:List Int):Option (Bool):=
 (Dp Aa (y,x,(x.length:Int),0)).bind λs1=>
  match s1 with
  | .inl s2=>
   some true
  | .inr s3=>
   some s3
def CY:Nat->((List Int)×(List ((List Int)×Int×(List (List Int))))×(List ((List Int)×Int×(List (List Int))))×Int×Int)->Option ((List ((List Int)×Int×(List (List Int)))))
 |0,_=>none
 |n+1,(vars,list,t10,t11,t12)=>
 if decide (t12<t11)then
 if inb t12 t10 then
 (FK ((gd t10 t12 ([],(0,[]))).1) vars).bind λr1=>
 if r1 then
 if list.length+ [((gd t10 t12 ([],(0,[]))).1,(((gd t10 t12 ([],(0,[]))).2).1,((gd t10 t12 ([],(0,[]))).2).2))].length<=lim then
 CY n (vars,list++ [((gd t10 t12 ([],(0,[]))).1,(((gd t10 t12 ([],(0,[]))).2).1,((gd t10 t12 ([],(0,[]))).2).2))],t10,t11,w64 (t12+1))
 else none
 else
 CY n (vars,list,t10,t11,w64 (t12+1))
 else none
 else
 some list
def EP (net:Int×Int×(List ((List Int)×Int×(List (List Int))))) (vars:List Int):Option ((List ((List Int)×Int×(List (List Int))))):=
 (CY Aa (vars,[],net.2.2,(net.2.2.length:Int),0)).bind λs1=>
 some s1
def C7:Nat->((List Int)×(List Int)×(List Int)×Int×Int)->Option ((List Int))
 |0,_=>none
 |n+1,(g,h,t11,t12,t13)=>
 if decide (t13<t12)then
 if inb t13 t11 then
 if inb (gd t11 t13 0) g then
 if inb t13 h then
 C7 n (g,stt h t13 (gd g (gd t11 t13 0) 0),t11,t12,w64 (t13+1))
 else none
 else none
 else none
 else
 some h
def CH (f:List Int) (g:List Int):Option ((List Int)):=
 if 0<=(f.length:Int)/\(f.length:Int)<=(f.length:Int)/\(f.length:Int)<=lim then
 (C7 Aa (g,List.replicate (Int.toNat (f.length:Int)) (0:Int),f,(f.length:Int),0)).bind λs1=>
 some s1
 else none
def CV:Nat->((List Int)×(List Int)×Int×Int)->Option ((Unit)⊕(Bool))
 |0,_=>none
 |n+1,(b,t12,t13,t14)=>
 if decide (t14<t13)then
 if inb t14 t12 then
 if inb t14 b then
 if(gd b t14 0) !=(gd t12 t14 0)then
 some (.inr false)
 else
 CV n (b,t12,t13,w64 (t14+1))
 else none
 else none
 else
 some (.inl ())
def EV (a:List Int) (b:List Int):Option (Bool):=
 if(a.length:Int) !=(b.length:Int)then
  some false
 else
  (CV Aa (b,a,(a.length:Int),0)).bind λs1=>
   match s1 with
   | .inl s2=>
    some true
   | .inr s3=>
    some s3
def Dn:Nat->((List Int)×(List (List Int))×Int×Int)->Option ((Unit)⊕(Bool))
 |0,_=>none
 |n+1,(t,t8,t9,t10)=>
 if decide (t10<t9)then
 if inb t10 t8 then
 (EV t (gd t8 t10 [])).bind λr1=>
 if r1 then
 some (.inr true)
 else
 Dn n (t,t8,t9,w64 (t10+1))
 else none
 else
 some (.inl ())
def En (r:Int×(List (List Int))) (t:List Int):Option (Bool):=
 (Dn Aa (t,r.2,(r.2.length:Int),0)).bind λs1=>
  match s1 with
  | .inl s2=>
   some false
  | .inr s3=>
   some s3
def CK:Nat->((List Int)×(List ((List Int)×Int×(List (List Int))))×Int×Int)->Option ((Unit)⊕(Bool))
 |0,_=>none
 |n+1,(values,t7,t8,t9)=>
 if decide (t9<t8)then
 if inb t9 t7 then
 (CH ((gd t7 t9 ([],(0,[]))).1) values).bind λr1=>
 (En (((gd t7 t9 ([],(0,[]))).2).1,((gd t7 t9 ([],(0,[]))).2).2) r1).bind λr2=>
 if !r2 then
 some (.inr false)
 else
 CK n (values,t7,t8,w64 (t9+1))
 else none
 else
 some (.inl ())
def D6 (list:List ((List Int)×Int×(List (List Int)))) (values:List Int):Option (Bool):=
 (CK Aa (values,list,(list.length:Int),0)).bind λs1=>
  match s1 with
  | .inl s2=>
   some true
  | .inr s3=>
   some s3
def BI:Nat->((Int×Int×(List ((List Int)×Int×(List (List Int)))))×(List (List (List (List Bool))))×Int×Int×Int×Int×Int×Int×Int×Int)->Option ((Int×Int×(List ((List Int)×Int×(List (List Int)))))×(List (List (List (List Bool))))×Int×Int×Int×Int×Int)
 |0,_=>none
 |n+1,(t1,t3,t4,t5,t18,t19,t32,t33,t52,t53)=>
 if decide (t53<t52)then
 if inb t4 t3 then
 if inb t5 (gd t3 t4 [])then
 if 0<=t1.2.1/\t1.2.1<=t1.2.1/\t1.2.1<=lim then
 if inb t53 (gd (gd t3 t4 []) t5 [])then
 BI n ((t1.1,(t1.2.1,t1.2.2)),stt t3 t4 (stt (gd t3 t4 []) t5 (stt (gd (gd t3 t4 []) t5 []) t53 (List.replicate (Int.toNat t1.2.1) (false:Bool)))),t4,t5,t18,t19,t32,t33,t52,w64 (t53+1))
 else none
 else none
 else none
 else none
 else
 some ((t1.1,(t1.2.1,t1.2.2)),t3,t4,t18,t19,t32,t33)
def BS:Nat->((Int×Int×(List ((List Int)×Int×(List (List Int)))))×(List (List (List (List Bool))))×Int×Int×Int×Int×Int)->Option ((Int×Int×(List ((List Int)×Int×(List (List Int)))))×(List (List (List (List Bool))))×Int×Int)
 |0,_=>none
 |n+1,(t1,t3,t4,t18,t19,t32,t33)=>
 if decide (t33<t32)then
 if inb t4 t3 then
 if 0<=t1.2.1/\t1.2.1<=t1.2.1/\t1.2.1<=lim then
 if inb t33 (gd t3 t4 [])then
 if inb t4 (stt t3 t4 (stt (gd t3 t4 []) t33 (List.replicate (Int.toNat t1.2.1) ([]:List Bool))))then
 if inb t33 (gd (stt t3 t4 (stt (gd t3 t4 []) t33 (List.replicate (Int.toNat t1.2.1) ([]:List Bool)))) t4 [])then
 (BI Aa ((t1.1,(t1.2.1,t1.2.2)),stt t3 t4 (stt (gd t3 t4 []) t33 (List.replicate (Int.toNat t1.2.1) ([]:List Bool))),t4,t33,t18,t19,t32,t33,((gd (gd (stt t3 t4 (stt (gd t3 t4 []) t33 (List.replicate (Int.toNat t1.2.1) ([]:List Bool)))) t4 []) t33 []).length:Int),0)).bind λs1=>
 BS n ((s1.1.1,(s1.1.2.1,s1.1.2.2)),s1.2.1,s1.2.2.1,s1.2.2.2.1,s1.2.2.2.2.1,s1.2.2.2.2.2.1,w64 (s1.2.2.2.2.2.2+1))
 else none
 else none
 else none
 else none
 else none
 else
 some ((t1.1,(t1.2.1,t1.2.2)),t3,t18,t19)
def BR:Nat->((Int×Int×(List ((List Int)×Int×(List (List Int)))))×(List (List (List (List Bool))))×Int×Int)->Option ((Int×Int×(List ((List Int)×Int×(List (List Int)))))×(List (List (List (List Bool)))))
 |0,_=>none
 |n+1,(t1,t3,t18,t19)=>
 if decide (t19<t18)then
 if 0<=t1.1/\t1.1<=t1.1/\t1.1<=lim then
 if inb t19 t3 then
 if inb t19 (stt t3 t19 (List.replicate (Int.toNat t1.1) ([]:List (List Bool))))then
 (BS Aa ((t1.1,(t1.2.1,t1.2.2)),stt t3 t19 (List.replicate (Int.toNat t1.1) ([]:List (List Bool))),t19,t18,t19,((gd (stt t3 t19 (List.replicate (Int.toNat t1.1) ([]:List (List Bool)))) t19 []).length:Int),0)).bind λs1=>
 BR n ((s1.1.1,(s1.1.2.1,s1.1.2.2)),s1.2.1,s1.2.2.1,w64 (s1.2.2.2+1))
 else none
 else none
 else none
 else
 some ((t1.1,(t1.2.1,t1.2.2)),t3)
def BM:Nat->((Int×Int×(List ((List Int)×Int×(List (List Int)))))×(List (List (List (List Bool))))×(List Int)×Int×Int×(List ((List Int)×Int×(List (List Int))))×Int×Int×Int×Int)->Option ((Int×Int×(List ((List Int)×Int×(List (List Int)))))×(List (List (List (List Bool))))×(List Int)×Int×Int×(List ((List Int)×Int×(List (List Int))))×Int×Int×Int)
 |0,_=>none
 |n+1,(t1,t3,t7,t8,t9,t10,t11,t12,t75,t76)=>
 if decide (t12<t1.2.1)then
 if inb t8 t7 then
 if inb t9 (stt t7 t8 t11)then
 (D6 t10 (stt (stt t7 t8 t11) t9 t12)).bind λr4=>
 if inb t8 t3 then
 if inb t9 (gd t3 t8 [])then
 if inb t11 (gd (gd t3 t8 []) t9 [])then
 if inb t9 t3 then
 if inb t8 (gd t3 t9 [])then
 if inb t12 (gd (gd t3 t9 []) t8 [])then
 if inb t12 (gd (gd (gd t3 t8 []) t9 []) t11 [])then
 if inb t11 (gd (gd (gd (stt t3 t8 (stt (gd t3 t8 []) t9 (stt (gd (gd t3 t8 []) t9 []) t11 (stt (gd (gd (gd t3 t8 []) t9 []) t11 []) t12 r4)))) t9 []) t8 []) t12 [])then
 BM n ((t1.1,(t1.2.1,t1.2.2)),stt (stt t3 t8 (stt (gd t3 t8 []) t9 (stt (gd (gd t3 t8 []) t9 []) t11 (stt (gd (gd (gd t3 t8 []) t9 []) t11 []) t12 r4)))) t9 (stt (gd (stt t3 t8 (stt (gd t3 t8 []) t9 (stt (gd (gd t3 t8 []) t9 []) t11 (stt (gd (gd (gd t3 t8 []) t9 []) t11 []) t12 r4)))) t9 []) t8 (stt (gd (gd (stt t3 t8 (stt (gd t3 t8 []) t9 (stt (gd (gd t3 t8 []) t9 []) t11 (stt (gd (gd (gd t3 t8 []) t9 []) t11 []) t12 r4)))) t9 []) t8 []) t12 (stt (gd (gd (gd (stt t3 t8 (stt (gd t3 t8 []) t9 (stt (gd (gd t3 t8 []) t9 []) t11 (stt (gd (gd (gd t3 t8 []) t9 []) t11 []) t12 r4)))) t9 []) t8 []) t12 []) t11 r4))),stt (stt t7 t8 t11) t9 t12,t8,t9,t10,t11,w64 (t12+1),t75,t76)
 else none
 else none
 else none
 else none
 else none
 else none
 else none
 else none
 else none
 else none
 else
 some ((t1.1,(t1.2.1,t1.2.2)),t3,t7,t8,t9,t10,t11,t75,t76)
def BL:Nat->((Int×Int×(List ((List Int)×Int×(List (List Int)))))×(List (List (List (List Bool))))×(List Int)×Int×Int×(List ((List Int)×Int×(List (List Int))))×Int×Int×Int)->Option ((Int×Int×(List ((List Int)×Int×(List (List Int)))))×(List (List (List (List Bool))))×(List Int)×Int×Int×Int×Int)
 |0,_=>none
 |n+1,(t1,t3,t7,t8,t9,t10,t11,t75,t76)=>
 if decide (t11<t1.2.1)then
 (BM Aa ((t1.1,(t1.2.1,t1.2.2)),t3,t7,t8,t9,t10,t11,0,t75,t76)).bind λs4=>
 BL n ((s4.1.1,(s4.1.2.1,s4.1.2.2)),s4.2.1,s4.2.2.1,s4.2.2.2.1,s4.2.2.2.2.1,s4.2.2.2.2.2.1,w64 (s4.2.2.2.2.2.2.1+1),s4.2.2.2.2.2.2.2.1,s4.2.2.2.2.2.2.2.2)
 else
 some ((t1.1,(t1.2.1,t1.2.2)),t3,t7,t8,t9,t75,t76)
def BK:Nat->((Int×Int×(List ((List Int)×Int×(List (List Int)))))×(List (List (List (List Bool))))×(List Int)×Int×Int×Int×Int)->Option ((Int×Int×(List ((List Int)×Int×(List (List Int)))))×(List (List (List (List Bool))))×(List Int)×Int×Int)
 |0,_=>none
 |n+1,(t1,t3,t7,t8,t9,t75,t76)=>
 if decide (t9<t1.1)then
 (EP (t1.1,(t1.2.1,t1.2.2)) [t8,t9]).bind λr3=>
 (BL Aa ((t1.1,(t1.2.1,t1.2.2)),t3,t7,t8,t9,r3,0,t75,t76)).bind λs4=>
 BK n ((s4.1.1,(s4.1.2.1,s4.1.2.2)),s4.2.1,s4.2.2.1,s4.2.2.2.1,w64 (s4.2.2.2.2.1+1),s4.2.2.2.2.2.1,s4.2.2.2.2.2.2)
 else
 some ((t1.1,(t1.2.1,t1.2.2)),t3,t7,t75,t76)
def BJ:Nat->((Int×Int×(List ((List Int)×Int×(List (List Int)))))×(List (List (List (List Bool))))×(List Int)×Int×Int)->Option ((List (List (List (List Bool)))))
 |0,_=>none
 |n+1,(t1,t3,t7,t75,t76)=>
 if decide (t76<t75)then
 (BK Aa ((t1.1,(t1.2.1,t1.2.2)),t3,t7,t76,w64 (t76+1),t75,t76)).bind λs3=>
 BJ n ((s3.1.1,(s3.1.2.1,s3.1.2.2)),s3.2.1,s3.2.2.1,s3.2.2.2.1,w64 (s3.2.2.2.2+1))
 else
 some t3
def Eu (t0:Int×Int×(List ((List Int)×Int×(List (List Int))))):Option ((List (List (List (List Bool))))):=
 if 0<=t0.1/\t0.1<=t0.1/\t0.1<=lim then
 (BR Aa ((t0.1,(t0.2.1,t0.2.2)),List.replicate (Int.toNat t0.1) ([]:List (List (List Bool))),((List.replicate (Int.toNat t0.1) ([]:List (List (List Bool)))).length:Int),0)).bind λs1=>
 if 0<=s1.1.1/\s1.1.1<=s1.1.1/\s1.1.1<=lim then
 (BJ Aa ((s1.1.1,(s1.1.2.1,s1.1.2.2)),s1.2,List.replicate (Int.toNat s1.1.1) (0:Int),(s1.2.length:Int),0)).bind λs2=>
 some s2
 else none
 else none
def Ar:Nat->((List (List (List (List Bool))))×(List ((List Int)×Int×(List (List Int))))×(List Int)×Int×Int×Int×(Int×Int×(List ((List Int)×Int×(List (List Int)))))×Int)->Option (((List Int))⊕((List Int)×Bool))
 |0,_=>none
 |n+1,(t0,t2,t3,t4,t5,t6,t8,t15)=>
 if decide (t15<t8.2.1)then
 if inb t6 t3 then
 if inb t4 t0 then
 if inb t6 (gd t0 t4 [])then
 if inb t4 (stt t3 t6 t15)then
 if inb (gd (stt t3 t6 t15) t4 0) (gd (gd t0 t4 []) t6 [])then
 if inb t15 (gd (gd (gd t0 t4 []) t6 []) (gd (stt t3 t6 t15) t4 0) [])then
 if gd (gd (gd (gd t0 t4 []) t6 []) (gd (stt t3 t6 t15) t4 0) []) t15 false then
 if inb t5 t0 then
 if inb t6 (gd t0 t5 [])then
 if inb t5 (stt t3 t6 t15)then
 if inb (gd (stt t3 t6 t15) t5 0) (gd (gd t0 t5 []) t6 [])then
 if inb t15 (gd (gd (gd t0 t5 []) t6 []) (gd (stt t3 t6 t15) t5 0) [])then
 if gd (gd (gd (gd t0 t5 []) t6 []) (gd (stt t3 t6 t15) t5 0) []) t15 false then
 (D6 t2 (stt t3 t6 t15)).bind λr1=>
 if r1 then
 some (.inr (stt t3 t6 t15,true))
 else
 Ar n (t0,t2,stt t3 t6 t15,t4,t5,t6,(t8.1,(t8.2.1,t8.2.2)),w64 (t15+1))
 else
 Ar n (t0,t2,stt t3 t6 t15,t4,t5,t6,(t8.1,(t8.2.1,t8.2.2)),w64 (t15+1))
 else none
 else none
 else none
 else none
 else none
 else
 Ar n (t0,t2,stt t3 t6 t15,t4,t5,t6,(t8.1,(t8.2.1,t8.2.2)),w64 (t15+1))
 else none
 else none
 else none
 else none
 else none
 else none
 else
 some (.inl t3)
def Dr (t0:List (List (List (List Bool)))) (t1:Int×Int×(List ((List Int)×Int×(List (List Int))))) (t2:List ((List Int)×Int×(List (List Int)))) (t3:List Int) (t4:Int) (t5:Int) (t6:Int):Option ((List Int)×Bool):=
 (Ar Aa (t0,t2,t3,t4,t5,t6,(t1.1,(t1.2.1,t1.2.2)),0)).bind λs1=>
  match s1 with
  | .inl s2=>
   some (s2,false)
  | .inr s3=>
   some (s3.1,s3.2)
def Au:Nat->((Int×Int×(List ((List Int)×Int×(List (List Int)))))×(List (List (List (List Bool))))×(List Int)×Bool×Int×Int×Int×(List ((List Int)×Int×(List (List Int))))×Int×Int×Int×Int×Int)->Option ((Int×Int×(List ((List Int)×Int×(List (List Int)))))×(List (List (List (List Bool))))×(List Int)×Bool×Int×Int×Int×Int×Int×Int)
 |0,_=>none
 |n+1,(t1,t3,t4,t5,t6,t7,t8,t9,t10,t18,t19,t31,t32)=>
 if decide (t10<(w64 (t1.2.1*t1.2.1)))then
 if t1.2.1≠0 then
 if t1.2.1≠0 then
 if inb t6 t4 then
 if inb t7 (stt t4 t6 (w64 (Int.tdiv t10 t1.2.1)))then
 if inb t6 t3 then
 if inb t7 (gd t3 t6 [])then
 if inb t6 (stt (stt t4 t6 (w64 (Int.tdiv t10 t1.2.1))) t7 (Int.tmod t10 t1.2.1))then
 if inb (gd (stt (stt t4 t6 (w64 (Int.tdiv t10 t1.2.1))) t7 (Int.tmod t10 t1.2.1)) t6 0) (gd (gd t3 t6 []) t7 [])then
 if inb t7 (stt (stt t4 t6 (w64 (Int.tdiv t10 t1.2.1))) t7 (Int.tmod t10 t1.2.1))then
 if inb (gd (stt (stt t4 t6 (w64 (Int.tdiv t10 t1.2.1))) t7 (Int.tmod t10 t1.2.1)) t7 0) (gd (gd (gd t3 t6 []) t7 []) (gd (stt (stt t4 t6 (w64 (Int.tdiv t10 t1.2.1))) t7 (Int.tmod t10 t1.2.1)) t6 0) [])then
 if gd (gd (gd (gd t3 t6 []) t7 []) (gd (stt (stt t4 t6 (w64 (Int.tdiv t10 t1.2.1))) t7 (Int.tmod t10 t1.2.1)) t6 0) []) (gd (stt (stt t4 t6 (w64 (Int.tdiv t10 t1.2.1))) t7 (Int.tmod t10 t1.2.1)) t7 0) false then
 (Dr t3 (t1.1,(t1.2.1,t1.2.2)) t9 (stt (stt t4 t6 (w64 (Int.tdiv t10 t1.2.1))) t7 (Int.tmod t10 t1.2.1)) t6 t7 t8).bind λr3=>
 if !r3.2 then
 if inb t6 t3 then
 if inb t7 (gd t3 t6 [])then
 if inb t6 r3.1 then
 if inb (gd r3.1 t6 0) (gd (gd t3 t6 []) t7 [])then
 if inb t7 r3.1 then
 if inb (gd r3.1 t7 0) (gd (gd (gd t3 t6 []) t7 []) (gd r3.1 t6 0) [])then
 if inb t7 (stt t3 t6 (stt (gd t3 t6 []) t7 (stt (gd (gd t3 t6 []) t7 []) (gd r3.1 t6 0) (stt (gd (gd (gd t3 t6 []) t7 []) (gd r3.1 t6 0) []) (gd r3.1 t7 0) false))))then
 if inb t6 (gd (stt t3 t6 (stt (gd t3 t6 []) t7 (stt (gd (gd t3 t6 []) t7 []) (gd r3.1 t6 0) (stt (gd (gd (gd t3 t6 []) t7 []) (gd r3.1 t6 0) []) (gd r3.1 t7 0) false)))) t7 [])then
 if inb t7 r3.1 then
 if inb (gd r3.1 t7 0) (gd (gd (stt t3 t6 (stt (gd t3 t6 []) t7 (stt (gd (gd t3 t6 []) t7 []) (gd r3.1 t6 0) (stt (gd (gd (gd t3 t6 []) t7 []) (gd r3.1 t6 0) []) (gd r3.1 t7 0) false)))) t7 []) t6 [])then
 if inb t6 r3.1 then
 if inb (gd r3.1 t6 0) (gd (gd (gd (stt t3 t6 (stt (gd t3 t6 []) t7 (stt (gd (gd t3 t6 []) t7 []) (gd r3.1 t6 0) (stt (gd (gd (gd t3 t6 []) t7 []) (gd r3.1 t6 0) []) (gd r3.1 t7 0) false)))) t7 []) t6 []) (gd r3.1 t7 0) [])then
 Au n ((t1.1,(t1.2.1,t1.2.2)),stt (stt t3 t6 (stt (gd t3 t6 []) t7 (stt (gd (gd t3 t6 []) t7 []) (gd r3.1 t6 0) (stt (gd (gd (gd t3 t6 []) t7 []) (gd r3.1 t6 0) []) (gd r3.1 t7 0) false)))) t7 (stt (gd (stt t3 t6 (stt (gd t3 t6 []) t7 (stt (gd (gd t3 t6 []) t7 []) (gd r3.1 t6 0) (stt (gd (gd (gd t3 t6 []) t7 []) (gd r3.1 t6 0) []) (gd r3.1 t7 0) false)))) t7 []) t6 (stt (gd (gd (stt t3 t6 (stt (gd t3 t6 []) t7 (stt (gd (gd t3 t6 []) t7 []) (gd r3.1 t6 0) (stt (gd (gd (gd t3 t6 []) t7 []) (gd r3.1 t6 0) []) (gd r3.1 t7 0) false)))) t7 []) t6 []) (gd r3.1 t7 0) (stt (gd (gd (gd (stt t3 t6 (stt (gd t3 t6 []) t7 (stt (gd (gd t3 t6 []) t7 []) (gd r3.1 t6 0) (stt (gd (gd (gd t3 t6 []) t7 []) (gd r3.1 t6 0) []) (gd r3.1 t7 0) false)))) t7 []) t6 []) (gd r3.1 t7 0) []) (gd r3.1 t6 0) false))),r3.1,true,t6,t7,t8,t9,w64 (t10+1),t18,t19,t31,t32)
 else none
 else none
 else none
 else none
 else none
 else none
 else none
 else none
 else none
 else none
 else none
 else none
 else
 Au n ((t1.1,(t1.2.1,t1.2.2)),t3,r3.1,t5,t6,t7,t8,t9,w64 (t10+1),t18,t19,t31,t32)
 else
 Au n ((t1.1,(t1.2.1,t1.2.2)),t3,stt (stt t4 t6 (w64 (Int.tdiv t10 t1.2.1))) t7 (Int.tmod t10 t1.2.1),t5,t6,t7,t8,t9,w64 (t10+1),t18,t19,t31,t32)
 else none
 else none
 else none
 else none
 else none
 else none
 else none
 else none
 else none
 else none
 else
 some ((t1.1,(t1.2.1,t1.2.2)),t3,t4,t5,t6,t7,t18,t19,t31,t32)
def As:Nat->((Int×Int×(List ((List Int)×Int×(List (List Int)))))×(List (List (List (List Bool))))×(List Int)×Bool×Int×Int×Int×Int×Int×Int)->Option ((Int×Int×(List ((List Int)×Int×(List (List Int)))))×(List (List (List (List Bool))))×(List Int)×Bool×Int×Int×Int×Int)
 |0,_=>none
 |n+1,(t1,t3,t4,t5,t6,t7,t18,t19,t31,t32)=>
 if decide (t32<t31)then
 if t32==t6 then
 As n ((t1.1,(t1.2.1,t1.2.2)),t3,t4,t5,t6,t7,t18,t19,t31,w64 (t32+1))
 else
 if t32==t7 then
 As n ((t1.1,(t1.2.1,t1.2.2)),t3,t4,t5,t6,t7,t18,t19,t31,w64 (t32+1))
 else
 (EP (t1.1,(t1.2.1,t1.2.2)) [t6,t7,t32]).bind λr2=>
 (Au Aa ((t1.1,(t1.2.1,t1.2.2)),t3,t4,t5,t6,t7,t32,r2,0,t18,t19,t31,t32)).bind λs3=>
 As n ((s3.1.1,(s3.1.2.1,s3.1.2.2)),s3.2.1,s3.2.2.1,s3.2.2.2.1,s3.2.2.2.2.1,s3.2.2.2.2.2.1,s3.2.2.2.2.2.2.1,s3.2.2.2.2.2.2.2.1,s3.2.2.2.2.2.2.2.2.1,w64 (s3.2.2.2.2.2.2.2.2.2+1))
 else
 some ((t1.1,(t1.2.1,t1.2.2)),t3,t4,t5,t6,t7,t18,t19)
def Bq:Nat->((Int×Int×(List ((List Int)×Int×(List (List Int)))))×(List (List (List (List Bool))))×(List Int)×Bool×Int×Int×Int×Int)->Option ((Int×Int×(List ((List Int)×Int×(List (List Int)))))×(List (List (List (List Bool))))×(List Int)×Bool×Int×Int)
 |0,_=>none
 |n+1,(t1,t3,t4,t5,t6,t7,t18,t19)=>
 if decide (t7<t1.1)then
 (As Aa ((t1.1,(t1.2.1,t1.2.2)),t3,t4,t5,t6,t7,t18,t19,(t3.length:Int),0)).bind λs2=>
 Bq n ((s2.1.1,(s2.1.2.1,s2.1.2.2)),s2.2.1,s2.2.2.1,s2.2.2.2.1,s2.2.2.2.2.1,w64 (s2.2.2.2.2.2.1+1),s2.2.2.2.2.2.2.1,s2.2.2.2.2.2.2.2)
 else
 some ((t1.1,(t1.2.1,t1.2.2)),t3,t4,t5,t18,t19)
def By:Nat->((Int×Int×(List ((List Int)×Int×(List (List Int)))))×(List (List (List (List Bool))))×(List Int)×Bool×Int×Int)->Option ((Int×Int×(List ((List Int)×Int×(List (List Int)))))×(List (List (List (List Bool))))×(List Int)×Bool)
 |0,_=>none
 |n+1,(t1,t3,t4,t5,t18,t19)=>
 if decide (t19<t18)then
 (Bq Aa ((t1.1,(t1.2.1,t1.2.2)),t3,t4,t5,t19,w64 (t19+1),t18,t19)).bind λs2=>
 By n ((s2.1.1,(s2.1.2.1,s2.1.2.2)),s2.2.1,s2.2.2.1,s2.2.2.2.1,s2.2.2.2.2.1,w64 (s2.2.2.2.2.2+1))
 else
 some ((t1.1,(t1.2.1,t1.2.2)),t3,t4,t5)
def B3:Nat->((Int×Int×(List ((List Int)×Int×(List (List Int)))))×(List (List (List (List Bool))))×(List Int)×Bool)->Option ((List (List (List (List Bool)))))
 |0,_=>none
 |n+1,(t1,t3,t4,t5)=>
 if t5 then
 (By Aa ((t1.1,(t1.2.1,t1.2.2)),t3,t4,false,(t3.length:Int),0)).bind λs2=>
 B3 n ((s2.1.1,(s2.1.2.1,s2.1.2.2)),s2.2.1,s2.2.2.1,s2.2.2.2)
 else
 some t3
def BF (t0:Int×Int×(List ((List Int)×Int×(List (List Int))))):Option ((List (List (List (List Bool))))):=
 (Eu (t0.1,(t0.2.1,t0.2.2))).bind λr1=>
 if 0<=t0.1/\t0.1<=t0.1/\t0.1<=lim then
 (B3 Aa ((t0.1,(t0.2.1,t0.2.2)),r1,List.replicate (Int.toNat t0.1) (0:Int),true)).bind λs2=>
 some s2
 else none
def Bw:Nat->((Int×Int×(List ((List Int)×Int×(List (List Int)))))×(List (List (List (List Bool))))×(List (List (Int×Int)))×Int×Int×(List (Int×Int))×Int×Int×Int×(List (List Bool))×Int×Int×(List Bool)×Int×Int)->Option ((Int×Int×(List ((List Int)×Int×(List (List Int)))))×(List (List (List (List Bool))))×(List (List (Int×Int)))×Int×Int×(List (Int×Int))×Int×Int×(List (List Bool))×Int×Int)
 |0,_=>none
 |n+1,(net,t,lists,i,j,list,x,t16,t17,t35,t36,t37,t42,t43,t44)=>
 if decide (t44<t43)then
 if inb t44 t42 then
 if gd t42 t44 false then
 if list.length+ [(x,t44)].length<=lim then
 Bw n ((net.1,(net.2.1,net.2.2)),t,lists,i,j,list++ [(x,t44)],x,t16,t17,t35,t36,t37,t42,t43,w64 (t44+1))
 else none
 else
 Bw n ((net.1,(net.2.1,net.2.2)),t,lists,i,j,list,x,t16,t17,t35,t36,t37,t42,t43,w64 (t44+1))
 else none
 else
 some ((net.1,(net.2.1,net.2.2)),t,lists,i,j,list,t16,t17,t35,t36,t37)
def BU:Nat->((Int×Int×(List ((List Int)×Int×(List (List Int)))))×(List (List (List (List Bool))))×(List (List (Int×Int)))×Int×Int×(List (Int×Int))×Int×Int×(List (List Bool))×Int×Int)->Option ((Int×Int×(List ((List Int)×Int×(List (List Int)))))×(List (List (List (List Bool))))×(List (List (Int×Int)))×Int×Int×(List (Int×Int))×Int×Int)
 |0,_=>none
 |n+1,(net,t,lists,i,j,list,t16,t17,t35,t36,t37)=>
 if decide (t37<t36)then
 if inb t37 t35 then
 (Bw Aa ((net.1,(net.2.1,net.2.2)),t,lists,i,j,list,t37,t16,t17,t35,t36,t37,gd t35 t37 [],((gd t35 t37 []).length:Int),0)).bind λs2=>
 BU n ((s2.1.1,(s2.1.2.1,s2.1.2.2)),s2.2.1,s2.2.2.1,s2.2.2.2.1,s2.2.2.2.2.1,s2.2.2.2.2.2.1,s2.2.2.2.2.2.2.1,s2.2.2.2.2.2.2.2.1,s2.2.2.2.2.2.2.2.2.1,s2.2.2.2.2.2.2.2.2.2.1,w64 (s2.2.2.2.2.2.2.2.2.2.2+1))
 else none
 else
 some ((net.1,(net.2.1,net.2.2)),t,lists,i,j,list,t16,t17)
def B6:Nat->((Int×Int×(List ((List Int)×Int×(List (List Int)))))×(List (List (List (List Bool))))×(List (List (Int×Int)))×Int×Int×Int×Int)->Option ((Int×Int×(List ((List Int)×Int×(List (List Int)))))×(List (List (List (List Bool))))×(List (List (Int×Int)))×Int×Int)
 |0,_=>none
 |n+1,(net,t,lists,i,j,t16,t17)=>
 if decide (j<net.1)then
 if inb i t then
 if inb j (gd t i [])then
 (BU Aa ((net.1,(net.2.1,net.2.2)),t,lists,i,j,[],t16,t17,gd (gd t i []) j [],((gd (gd t i []) j []).length:Int),0)).bind λs2=>
 if s2.2.2.1.length+ [s2.2.2.2.2.2.1].length<=lim then
 B6 n ((s2.1.1,(s2.1.2.1,s2.1.2.2)),s2.2.1,s2.2.2.1++ [s2.2.2.2.2.2.1],s2.2.2.2.1,w64 (s2.2.2.2.2.1+1),s2.2.2.2.2.2.2.1,s2.2.2.2.2.2.2.2)
 else none
 else none
 else none
 else
 some ((net.1,(net.2.1,net.2.2)),t,lists,t16,t17)
def CJ:Nat->((Int×Int×(List ((List Int)×Int×(List (List Int)))))×(List (List (List (List Bool))))×(List (List (Int×Int)))×Int×Int)->Option ((List (List (Int×Int))))
 |0,_=>none
 |n+1,(net,t,lists,t16,t17)=>
 if decide (t17<t16)then
 (B6 Aa ((net.1,(net.2.1,net.2.2)),t,lists,t17,w64 (t17+1),t16,t17)).bind λs2=>
 CJ n ((s2.1.1,(s2.1.2.1,s2.1.2.2)),s2.2.1,s2.2.2.1,s2.2.2.2.1,w64 (s2.2.2.2.2+1))
 else
 some lists
def D5 (net:Int×Int×(List ((List Int)×Int×(List (List Int))))):Option ((List (List (Int×Int)))):=
 (BF (net.1,(net.2.1,net.2.2))).bind λr1=>
 (CJ Aa ((net.1,(net.2.1,net.2.2)),r1,[],(r1.length:Int),0)).bind λs2=>
 some s2
def Ch:Nat->((List (List (Int×Int)))×Int×Int)->Option ((Unit)⊕(Bool×Bool))
 |0,_=>none
 |n+1,(t15,t16,t17)=>
 if decide (t17<t16)then
 if inb t17 t15 then
 if((gd t15 t17 []).length:Int)==0 then
 some (.inr (true,true))
 else
 Ch n (t15,t16,w64 (t17+1))
 else none
 else
 some (.inl ())
def Ee (net:Int×Int×(List ((List Int)×Int×(List (List Int))))):Option (Bool×Bool):=
 (B2 (net.1,(net.2.1,net.2.2))).bind λr1=>
  if !r1 then
   some (false,false)
  else
   if decide (net.1<2)then
    some (false,false)
   else
    (D5 (net.1,(net.2.1,net.2.2))).bind λr2=>
     (Ch Aa (r2,(r2.length:Int),0)).bind λs3=>
      match s3 with
      | .inl s4=>
       some (false,true)
      | .inr s5=>
       some (s5.1,s5.2)
def AU:Nat->((Int×Int×(List ((List Int)×Int×(List (List Int)))))×(List (List (List Bool)))×(List Int)×Int×Int×Int×Bool×Int)->Option ((Int×Int×(List ((List Int)×Int×(List (List Int)))))×(List (List (List Bool)))×(List Int)×Int×Int×Int×Bool)
 |0,_=>none
 |n+1,(t1,t4,t5,t6,t7,t8,t9,t10)=>
 if decide (t10<t6)then
 if t9 then
 if inb t10 t5 then
 (EH t4 t1.2.1 t10 (gd t5 t10 0) t6 t8).bind λr3=>
 AU n ((t1.1,(t1.2.1,t1.2.2)),t4,t5,t6,t7,t8,r3,w64 (t10+1))
 else none
 else
 AU n ((t1.1,(t1.2.1,t1.2.2)),t4,t5,t6,t7,t8,false,w64 (t10+1))
 else
 some ((t1.1,(t1.2.1,t1.2.2)),t4,t5,t6,t7,t8,t9)
def AW:Nat->((Int×Int×(List ((List Int)×Int×(List (List Int)))))×(List (List (List Bool)))×(List Int)×Int×Int×Int×Bool×Int)->Option ((Int×Int×(List ((List Int)×Int×(List (List Int)))))×(List (List (List Bool)))×(List Int)×Int×Int×Int×Bool)
 |0,_=>none
 |n+1,(t1,t4,t5,t6,t7,t8,t9,t11)=>
 if decide (t11<t1.2.1)then
 if t9 then
 AW n ((t1.1,(t1.2.1,t1.2.2)),t4,t5,t6,t7,t8,true,w64 (t11+1))
 else
 if inb 0 t4 then
 if inb 1 (gd t4 0 [])then
 if inb (w64 ((w64 (t8*t1.2.1))+t11)) (gd (gd t4 0 []) 1 [])then
 AW n ((t1.1,(t1.2.1,t1.2.2)),t4,t5,t6,t7,t8,gd (gd (gd t4 0 []) 1 []) (w64 ((w64 (t8*t1.2.1))+t11)) false,w64 (t11+1))
 else none
 else none
 else none
 else
 some ((t1.1,(t1.2.1,t1.2.2)),t4,t5,t6,t7,t8,t9)
def AJ:Nat->((Int×Int×(List ((List Int)×Int×(List (List Int)))))×(List (List (List Bool)))×(List Int)×Int×Int×Int)->Option ((Int×Int×(List ((List Int)×Int×(List (List Int)))))×(List (List (List Bool)))×(List Int)×Int×Int)
 |0,_=>none
 |n+1,(t1,t4,t5,t6,t7,t8)=>
 if decide (t8≥0)then
 (AU Aa ((t1.1,(t1.2.1,t1.2.2)),t4,t5,t6,t7,t8,true,0)).bind λs3=>
 if s3.2.2.2.1==0 then
 (AW Aa ((s3.1.1,(s3.1.2.1,s3.1.2.2)),s3.2.1,s3.2.2.1,s3.2.2.2.1,s3.2.2.2.2.1,s3.2.2.2.2.2.1,false,0)).bind λs4=>
 if s4.2.2.2.2.2.2 then
 AJ n ((s4.1.1,(s4.1.2.1,s4.1.2.2)),s4.2.1,s4.2.2.1,s4.2.2.2.1,s4.2.2.2.2.2.1,w64 (s4.2.2.2.2.2.1-1))
 else
 AJ n ((s4.1.1,(s4.1.2.1,s4.1.2.2)),s4.2.1,s4.2.2.1,s4.2.2.2.1,s4.2.2.2.2.1,w64 (s4.2.2.2.2.2.1-1))
 else
 if s3.2.2.2.2.2.2 then
 AJ n ((s3.1.1,(s3.1.2.1,s3.1.2.2)),s3.2.1,s3.2.2.1,s3.2.2.2.1,s3.2.2.2.2.2.1,w64 (s3.2.2.2.2.2.1-1))
 else
 AJ n ((s3.1.1,(s3.1.2.1,s3.1.2.2)),s3.2.1,s3.2.2.1,s3.2.2.2.1,s3.2.2.2.2.1,w64 (s3.2.2.2.2.2.1-1))
 else
 some ((t1.1,(t1.2.1,t1.2.2)),t4,t5,t6,t7)
def Bt:Nat->((Int×Int×(List ((List Int)×Int×(List (List Int)))))×(List (List (List Bool)))×(List Int)×Int)->Option (((List Int))⊕((List Int)×Bool))
 |0,_=>none
 |n+1,(t1,t4,t5,t6)=>
 if decide (t6<t1.1)then
 (AJ Aa ((t1.1,(t1.2.1,t1.2.2)),t4,t5,t6,(-1),w64 (t1.2.1-1))).bind λs3=>
 if decide (s3.2.2.2.2<0)then
 some (.inr ([],false))
 else
 if s3.2.2.1.length+ [s3.2.2.2.2].length<=lim then
 Bt n ((s3.1.1,(s3.1.2.1,s3.1.2.2)),s3.2.1,s3.2.2.1++ [s3.2.2.2.2],w64 (s3.2.2.2.1+1))
 else none
 else
 some (.inl t5)
def C5 (t0:Int×Int×(List ((List Int)×Int×(List (List Int))))):Option ((List Int)×Bool):=
 (C6 (t0.1,(t0.2.1,t0.2.2))).bind λr1=>
  if !r1 then
   some ([],false)
  else
   if decide (t0.1<2)then
    some ([],false)
   else
    (Df (t0.1,(t0.2.1,t0.2.2))).bind λr2=>
     (Bt Aa ((t0.1,(t0.2.1,t0.2.2)),r2,[],0)).bind λs3=>
      match s3 with
      | .inl s4=>
       some (s4,true)
      | .inr s5=>
       some (s5.1,s5.2)
def BC:Nat->((Int×Int×(List ((List Int)×Int×(List (List Int)))))×(List (List (Int×Int)))×(List (List (List Bool)))×Int×Int)->Option ((Int×Int×(List ((List Int)×Int×(List (List Int)))))×(List (List (Int×Int)))×(List (List (List Bool)))×Int)
 |0,_=>none
 |n+1,(net,out,there,i,j)=>
 if decide (j<net.1)then
 if inb i there then
 if inb j (gd there i [])then
 (Fk (gd (gd there i []) j []) net.2.1).bind λr3=>
 if out.length+ [r3].length<=lim then
 BC n ((net.1,(net.2.1,net.2.2)),out++ [r3],there,i,w64 (j+1))
 else none
 else none
 else none
 else
 some ((net.1,(net.2.1,net.2.2)),out,there,i)
def BB:Nat->((Int×Int×(List ((List Int)×Int×(List (List Int)))))×(List (List (Int×Int)))×(List (List (List Bool)))×Int)->Option ((List (List (Int×Int))))
 |0,_=>none
 |n+1,(net,out,there,i)=>
 if decide (i<net.1)then
 (BC Aa ((net.1,(net.2.1,net.2.2)),out,there,i,w64 (i+1))).bind λs3=>
 BB n ((s3.1.1,(s3.1.2.1,s3.1.2.2)),s3.2.1,s3.2.2.1,w64 (s3.2.2.2+1))
 else
 some out
def Dj (net:Int×Int×(List ((List Int)×Int×(List (List Int))))):Option ((List (List (Int×Int)))×Bool):=
 (C6 (net.1,(net.2.1,net.2.2))).bind λr1=>
 if !r1 then
 some ([],false)
 else
 if decide (net.1<2)then
 some ([],false)
 else
 (Df (net.1,(net.2.1,net.2.2))).bind λr2=>
 (BB Aa ((net.1,(net.2.1,net.2.2)),[],r2,0)).bind λs3=>
 some (s3,true)
def Bn (net:Int×Int×(List ((List Int)×Int×(List (List Int))))):Option ((List (List (Int×Int)))×Bool):=
 (B2 (net.1,(net.2.1,net.2.2))).bind λr1=>
 if !r1 then
 some ([],false)
 else
 if decide (net.1<2)then
 some ([],false)
 else
 (D5 (net.1,(net.2.1,net.2.2))).bind λr2=>
 some (r2,true)
end T
open Go Go.Va
namespace T
def Aq (vs:List Int) (v:Int):Int:=vs.getD v.toNat 0
def Ck (vs:List Int) (c:Con):Bool:=decide (c.1.map (Aq vs)∈c.2.2)
def E8 (l:List Con) (vs:List Int):Bool:=l.all (Ck vs)
def Fy (vars:List Int) (c:Con):Bool:=c.1.all λv=>decide (v∈vars)
def Cv (a:Net) (vars:List Int):List Con:=a.2.2.filter (Fy vars)
theorem Hj {l:List Int} {x:Int} (h:l.length<=1048576):FG l x=some (!decide (x∈l)):=by
 unfold FG
 rw[Fa l (λn i=>Dm n (x,l,(l.length:Int),i)) (λy=>!decide (x=y)) (.inr false) (.inl ()) ?_ ?_ (by unfold Aa;omega)]
 ·by_cases hx:x∈l
  ·rw[if_neg]
   ·simp[hx]
   ·rw[List.all_eq_true];intro h;have:=h x hx;simp at this
  ·rw[if_pos]
   ·simp[hx]
   ·rw[List.all_eq_true];intro y hy;have:x≠y:=λe=>hx (e▸hy)
    simp[this]
 ·intro n k hk
  simp only[Dm,Ac,Ai hk,Ab (show k<4611686018427387904 by omega)]
  by_cases e:x=l[k]<;>simp[hk,e]
 ·intro n;simp[Dm]
theorem Hk {l vars:List Int} (h:l.length<=1048576) (hv:vars.length<=1048576):FK l vars=some (l.all λv=>decide (v∈vars)):=by
 unfold FK
 rw[Fa l (λn i=>Dp n (vars,l,(l.length:Int),i)) (λy=>decide (y∈vars)) (.inr false) (.inl ()) ?_ ?_ (by unfold Aa;omega)]
 ·cases l.all λv=>decide (v∈vars)<;>simp
 ·intro n k hk
  simp only[Dp,Ac,Ai hk,Ab (show k<4611686018427387904 by omega),Hj hv,Option.bind_some]
  by_cases e:l[k]∈vars<;>simp[hk,e]
 ·intro n;simp[Dp]
section
variable {a:Net}
theorem FM (hN:NetOk a) {vars:List Int} (hv:vars.length<=1048576):EP (a.1,(a.2.1,a.2.2)) vars=some (Cv a vars):=by
 unfold EP
 have hc:=hN.hc
 have:=CO a.2.2.length (λn (o:List Con) i=>CY n (vars,o,a.2.2,(a.2.2.length:Int),i)) (λk=>(a.2.2.take k).filter (Fy vars)) (r:=some (Cv a vars)) (λn k hk=>?_) (λn=>?_) (n:=Aa) (by unfold Aa;omega)
 ·simp only[List.take_zero,List.filter_nil]at this
  simp only[this,Option.bind_some]
 ·have hlen:((a.2.2.take k).filter (Fy vars)).length<=k:=Nat.le_trans (List.length_filter_le _ _) (by simp;omega)
  have hcon:=hN.con _ (List.getElem_mem hk)
  have hsl:(a.2.2[k]).1.length<=1048576:=by have:=hcon.sl;have:=hcon.ar;omega
  simp only[CY,Ac,Ai hk,Ab (show k<4611686018427387904 by omega),Hk hsl hv,Option.bind_some]
  rw[List.take_succ_eq_append_getElem hk,List.filter_append]
  have e0:((a.2.2[k]).1.all λv=>decide (v∈vars))=Fy vars a.2.2[k]:=rfl
  rw[e0]
  cases e:Fy vars a.2.2[k]with
  |false=>simp[hk,e]
  |true=>
   have:((a.2.2.take k).filter (Fy vars)).length+1<=lim:=by unfold lim;omega
   simp[hk,e,this]
 ·simp only[CY,List.take_length]
  rw[if_neg (by simp)];rfl
theorem Hw {c:Con} {vars:List Int} (hs:c.1.length<=1048576) (hv:vars.length<=1048576) {i:Nat} (hi:i<a.2.2.length) (hc:a.2.2[i]=c) (out:List Con):
  BG Aa (vars,(a.1,(a.2.1,a.2.2)),out,(i:Int),true,0)=some (vars,(a.1,(a.2.1,a.2.2)),out,(i:Int),Fy vars c):=by
 have:=LS c.1.length (λn b k=>BG n (vars,(a.1,(a.2.1,a.2.2)),out,(i:Int),b,k)) (λk=>decide (g0 c.1 k∈vars)) (λb=>some (vars,(a.1,(a.2.1,a.2.2)),out,(i:Int),b)) (λn b k hk=>?_) (λn b=>?_) (n:=Aa) (by unfold Aa;omega) true
 ·rw[this]
  congr 1
  have:(true&&(List.range c.1.length).all λk=>decide (g0 c.1 k∈vars))=Fy vars c:=by
   rw[Bool.true_and,Bool.eq_iff_iff]
   unfold Fy
   rw[List.all_eq_true,List.all_eq_true]
   constructor
   ·intro h v hv
    obtain⟨j,hj,rfl⟩:=List.mem_iff_getElem.1 hv
    rw[KB hj];exact h j (List.mem_range.2 hj)
   ·intro h j hj
    have hj:=List.mem_range.1 hj
    rw[←KB hj];exact h _ (List.getElem_mem hj)
  rw[this]
 ·have hk':k<(a.2.2[i]).1.length:=by rw[hc];exact hk
  simp only[BG,Ac,Ai hi,Ab (show k<4611686018427387904 by omega),hc,Ai hk,KB hk,HH hv,Option.bind_some]
  cases b<;>simp[hi,hk]
 ·simp only[BG,Ac,Ai hi,hc]
  simp[hi]
theorem ER (hN:NetOk a) {vars:List Int} (hv:vars.length<=1048576):D9 (a.1,(a.2.1,a.2.2)) vars=some (Cv a vars):=by
 unfold D9
 have hc:=hN.hc
 have:=CO a.2.2.length (λn (o:List Con) i=>Cb n (vars,(a.1,(a.2.1,a.2.2)),o,i)) (λk=>(a.2.2.take k).filter (Fy vars)) (r:=some (Cv a vars)) (λn k hk=>?_) (λn=>?_) (n:=Aa) (by unfold Aa;omega)
 ·simp only[List.take_zero,List.filter_nil]at this
  simp only[this,Option.bind_some]
 ·have hlen:((a.2.2.take k).filter (Fy vars)).length<=k:=Nat.le_trans (List.length_filter_le _ _) (by simp;omega)
  have hcon:=hN.con _ (List.getElem_mem hk)
  have hsl:(a.2.2[k]).1.length<=1048576:=by have:=hcon.sl;have:=hcon.ar;omega
  simp only[Cb,Ac,Hw hsl hv hk rfl,Ai hk,Ab (show k<4611686018427387904 by omega),Option.bind_some]
  rw[List.take_succ_eq_append_getElem hk,List.filter_append]
  cases e:Fy vars a.2.2[k]with
  |false=>simp[hk,e]
  |true=>
   have:((a.2.2.take k).filter (Fy vars)).length+1<=lim:=by unfold lim;omega
   simp[hk,e,this]
 ·simp only[Cb,List.take_length]
  rw[if_neg (by simp)];rfl
theorem DI {f g:List Int} (hf:f.length<=1048576) (hg: ∀v∈f,0<=v/\v<g.length):CH f g=some (f.map (Aq g)):=by
 unfold CH
 rw[if_pos (by unfold lim;omega)]
 have:=Ks f (λn o i=>C7 n (g,o,f,(f.length:Int),i)) (Aq g) some (λn o k hk hlo=>?_) (λn o hlo=>?_) (n:=Aa) (out:=List.replicate (Int.toNat (f.length:Int)) (0:Int)) (by simp) (by unfold Aa;omega)
 ·simp only[this,Option.bind_some]
 ·have hko:k<o.length:=by omega
  have hv:=hg _ (List.getElem_mem hk)
  have e:gd g f[k] 0=Aq g f[k]:=rfl
  simp only[C7,Ac,Ai hk,BD,Ab (show k<4611686018427387904 by omega),e]
  rw[if_pos (by simp;omega),if_pos hk,if_pos (show inb f[k] g from hv),if_pos hko]
 ·simp[C7]
theorem GJ {x y:List Int} (h:x.length<=1048576):EV x y=some (decide (x=y)):=by
 unfold EV
 by_cases hl:x.length=y.length
 ·rw[if_neg (by simp[hl])]
  rw[eqX x y hl (λn i=>CV n (y,x,(x.length:Int),i)) (λn k h1 h2=>?_) (λn=>?_) (n:=Aa) (by unfold Aa;omega)]
  ·by_cases e:x=y<;>simp[e]
  ·simp only[CV,Ac,Ai h1,Ai h2,Ab (show k<4611686018427387904 by omega)]
   by_cases e:x[k]=y[k]
   ·simp[h1,h2,e]
   ·have e':y[k]≠x[k]:=λh=>e h.symm
    simp[h1,h2,e,e']
  ·simp[CV]
 ·have:x≠y:=λe=>hl (by rw[e])
  rw[if_pos (by simp;omega)];simp[this]
theorem FH {r:Int×List (List Int)} {t:List Int} (ht:t.length<=1048576) (hr:r.2.length<=1048576):En r t=some (decide (t∈r.2)):=by
 unfold En
 rw[Fa r.2 (λn i=>Dn n (t,r.2,(r.2.length:Int),i)) (λy=>!decide (t=y)) (.inr true) (.inl ()) ?_ ?_ (by unfold Aa;omega)]
 ·by_cases hx:t∈r.2
  ·rw[if_neg]
   ·simp[hx]
   ·rw[List.all_eq_true];intro h;have:=h t hx;simp at this
  ·rw[if_pos]
   ·simp[hx]
   ·rw[List.all_eq_true];intro y hy;have:t≠y:=λe=>hx (e▸hy)
    simp[this]
 ·intro n k hk
  simp only[Dn,Ac,Ai hk,Ab (show k<4611686018427387904 by omega),GJ ht,Option.bind_some]
  by_cases e:t=(r.2)[k]<;>simp[hk,e]
 ·intro n;simp[Dn]
theorem EO (hN:NetOk a) {l:List Con} (hl:l.length<=40) (hs: ∀c∈l,c∈a.2.2) {vs:List Int} (hv:(vs.length:Int)=a.1):D6 l vs=some (E8 l vs):=by
 unfold D6
 rw[Fa l (λn i=>CK n (vs,l,(l.length:Int),i)) (Ck vs) (.inr false) (.inl ()) ?_ ?_ (by unfold Aa;omega)]
 ·unfold E8;cases l.all (Ck vs)<;>simp
 ·intro n k hk
  have hcon:=hN.con _ (hs _ (List.getElem_mem hk))
  have hsl:=hcon.sl
  have har:=hcon.ar
  have hm:=hcon.many
  have e:=DI (f:=(l[k]).1) (g:=vs) (by omega) (λv hvv=>by
   obtain⟨j,hj,rfl⟩:=List.mem_iff_getElem.1 hvv
   have:=hcon.sv j hj;omega)
  have e2:=FH (r:=((l[k]).2.1,(l[k]).2.2)) (t:=(l[k]).1.map (Aq vs)) (by rw[List.length_map];omega) (show(l[k]).2.2.length<=1048576 by omega)
  simp only[CK,Ac,Ai hk,Ab (show k<4611686018427387904 by omega),e,e2,Option.bind_some]
  have e3:decide ((l[k]).1.map (Aq vs)∈(l[k]).2.2)=Ck vs l[k]:=rfl
  rw[e3]
  cases Ck vs l[k]<;>simp[hk]
 ·intro n;simp[CK]
theorem Dt {v n:Int} {c:Con} (h:ConOk v n c) {vs:List Int} (hv:(vs.length:Int)=v):CL c vs=some (Ck vs c):=by
 unfold CL
 have hsl:=h.sl
 have har:=h.ar
 have hm:=h.many
 have:=CO c.1.length (λn (o:List Int) i=>B4 n (vs,(c.1,(c.2.1,c.2.2)),o,i)) (λk=>(c.1.take k).map (Aq vs)) (r:=some ((c.1,(c.2.1,c.2.2)),c.1.map (Aq vs))) (λn k hk=>?_) (λn=>?_) (n:=Aa) (by unfold Aa;omega)
 ·simp only[List.take_zero,List.map_nil]at this
  simp only[this,Option.bind_some]
  unfold DZ
  have hl:((c.1.map (Aq vs)).length:Int)=c.2.1:=by rw[List.length_map];exact hsl
  rw[if_neg (by simpa using hsl)]
  obtain⟨q,e,_⟩:=EJ (list:=c.2.2) (t:=c.1.map (Aq vs)) (k:=c.1.length) (by omega) (by omega) h.tl (by simp) h.inc
  simp only[e,Option.bind_some];rfl
 ·have hvk:=h.sv k hk
  have e:gd vs c.1[k] 0=Aq vs c.1[k]:=rfl
  have hi:inb c.1[k] vs:=by unfold inb;omega
  simp only[B4,Ac,Ai hk,e,Ab (show k<4611686018427387904 by omega)]
  rw[List.take_succ_eq_append_getElem hk,List.map_append]
  rw[if_pos (by simp;omega),if_pos hk,if_pos hi,if_pos (by unfold lim;simp;omega)];rfl
 ·simp only[B4,List.take_length]
  rw[if_neg (by simp)]
theorem Fu (hN:NetOk a) {l:List Con} (hl:l.length<=40) (hs: ∀c∈l,c∈a.2.2) {vs:List Int} (hv:(vs.length:Int)=a.1):EB l vs=some (E8 l vs):=by
 unfold EB
 rw[Fa l (λn i=>Db n (l,vs,i)) (Ck vs) (.inr false) (.inl ()) ?_ ?_ (by unfold Aa;omega)]
 ·unfold E8;cases l.all (Ck vs)<;>simp
 ·intro n k hk
  have hcon:=hN.con _ (hs _ (List.getElem_mem hk))
  simp only[Db,Ac,Ai hk,Ab (show k<4611686018427387904 by omega),Dt hcon hv,Option.bind_some]
  cases Ck vs l[k]<;>simp[hk]
 ·intro n;simp[Db]
theorem G5 {vars:List Int}: ∀c∈Cv a vars,c∈a.2.2:=λ_ h=>(List.mem_filter.1 h).1
theorem Gv (hN:NetOk a) {vars:List Int}:(Cv a vars).length<=40:=Nat.le_trans (List.length_filter_le _ _) hN.hc
theorem Hv {vars vs ws:List Int} (h: ∀v∈vars,Aq vs v=Aq ws v):E8 (Cv a vars) vs=E8 (Cv a vars) ws:=by
 unfold E8
 rw[Bool.eq_iff_iff,List.all_eq_true,List.all_eq_true]
 have key: ∀c∈Cv a vars,Ck vs c=Ck ws c:=λc hc=>by
  have hc:=(List.mem_filter.1 hc).2
  unfold Fy at hc
  rw[List.all_eq_true]at hc
  unfold Ck
  have:c.1.map (Aq vs)=c.1.map (Aq ws):=List.map_congr_left λv hv=>h v (by simpa using hc v hv)
  rw[this]
 exact⟨λh c hc=>(key c hc)▸h c hc,λh c hc=>(key c hc)▸h c hc⟩
end
end T
open Go Go.Va
namespace T
theorem Ig {σ β:Type} (N:Nat) (L:Nat->σ->Int->Option β) (I:Nat->σ->Prop) (f:σ->Option β)
  (hs: ∀k s,k<N->I k s-> ∃s',I (k+1) s'/\ ∀n,L (n+1) s k=L n s' ((k+1:Nat):Int)) (he: ∀n s,I N s->L (n+1) s (N:Nat)=f s):
  ∀(d k n:Nat) (s:σ),k+d=N->d<n->I k s-> ∃s',I N s'/\L n s k=f s':=by
 intro d
 induction d with
 |zero=>
  intro k n s hk hn hi
  obtain⟨n,rfl⟩: ∃m,n=m+1:=⟨n-1,by omega⟩
  have:k=N:=by omega
  subst this
  exact⟨s,hi,he n s hi⟩
 |succ d ih=>
  intro k n s hk hn hi
  obtain⟨n,rfl⟩: ∃m,n=m+1:=⟨n-1,by omega⟩
  obtain⟨s',h1,h2⟩:=hs k s (by omega) hi
  rw[h2 n]
  exact ih (k+1) n s' (by omega) (by omega) h1
theorem Lj {σ τ β γ:Type} (N:Nat) (L:Nat->σ->Int->Option β) (M:Nat->τ->Int->Option γ) (I:Nat->σ->τ->Prop) (f:σ->Option β) (g:τ->Option γ)
  (hs: ∀k s t,k<N->I k s t-> ∃s' t',I (k+1) s' t'/\(∀n,L (n+1) s k=L n s' ((k+1:Nat):Int))/\ ∀n,M (n+1) t k=M n t' ((k+1:Nat):Int))
  (he: ∀n s t,I N s t->L (n+1) s (N:Nat)=f s) (he': ∀n s t,I N s t->M (n+1) t (N:Nat)=g t):
  ∀(d k n m:Nat) (s:σ) (t:τ),k+d=N->d<n->d<m->I k s t-> ∃s' t',I N s' t'/\L n s k=f s'/\M m t k=g t':=by
 intro d
 induction d with
 |zero=>
  intro k n m s t hk hn hm hi
  obtain⟨n,rfl⟩: ∃m,n=m+1:=⟨n-1,by omega⟩
  obtain⟨m,rfl⟩: ∃k,m=k+1:=⟨m-1,by omega⟩
  have:k=N:=by omega
  subst this
  exact⟨s,t,hi,he n s t hi,he' m s t hi⟩
 |succ d ih=>
  intro k n m s t hk hn hm hi
  obtain⟨n,rfl⟩: ∃m,n=m+1:=⟨n-1,by omega⟩
  obtain⟨m,rfl⟩: ∃k,m=k+1:=⟨m-1,by omega⟩
  obtain⟨s',t',h1,h2,h3⟩:=hs k s t (by omega) hi
  rw[h2 n,h3 m]
  exact ih (k+1) n m s' t' (by omega) (by omega) (by omega) h1
theorem Ea {α:Type} {k:Nat} {xs:List α} {d:α}:gd xs (k:Int) d=xs.getD k d:=rfl
abbrev T3:=List (List (List Bool))
abbrev T4:=List (List (List (List Bool)))
def LI (s:Nat) (c:List (List Bool)):Prop:=c.length=s/\ ∀x,x<s->(c.getD x []).length=s
def MA (n s:Nat) (r:T3):Prop:=r.length=n/\ ∀j,j<n->LI s (r.getD j [])
def Ok4 (n s:Nat) (t:T4):Prop:=t.length=n/\ ∀i,i<n->MA n s (t.getD i [])
def r4 (t:T4) (i j x y:Nat):Bool:=(((t.getD i []).getD j []).getD x []).getD y false
def s4 (t:T4) (i j x y:Nat) (b:Bool):T4:=t.set i ((t.getD i []).set j (((t.getD i []).getD j []).set x ((((t.getD i []).getD j []).getD x []).set y b)))
def Ok3 (n m:Nat) (u:T3):Prop:=u.length=n/\ ∀i,i<n->(u.getD i []).length=n/\ ∀j,j<n->((u.getD i []).getD j []).length=m
def r3 (u:T3) (i j p:Nat):Bool:=((u.getD i []).getD j []).getD p false
def s3 (u:T3) (i j p:Nat) (b:Bool):T3:=u.set i ((u.getD i []).set j (((u.getD i []).getD j []).set p b))
def mu3 (u:T3):Nat:=(u.map mu).sum
section
variable {n s m:Nat} {t:T4} {u:T3}
theorem Ok4.at (h:Ok4 n s t) {i j x:Nat} (hi:i<n) (hj:j<n) (hx:x<s):i<t.length/\j<(t.getD i []).length/\x<((t.getD i []).getD j []).length/\(((t.getD i []).getD j []).getD x []).length=s:=
 ⟨by rw[h.1];exact hi,by rw[(h.2 i hi).1];exact hj,by rw[((h.2 i hi).2 j hj).1];exact hx,((h.2 i hi).2 j hj).2 x hx⟩
theorem Ok3.at (h:Ok3 n m u) {i j:Nat} (hi:i<n) (hj:j<n):i<u.length/\j<(u.getD i []).length/\((u.getD i []).getD j []).length=m:=
 ⟨by rw[h.1];exact hi,by rw[(h.2 i hi).1];exact hj,(h.2 i hi).2 j hj⟩
theorem E7 (h:Ok4 n s t) {i j x y:Nat} {b:Bool}:Ok4 n s (s4 t i j x y b):=by
 unfold s4
 refine⟨by rw[List.length_set];exact h.1,λi' hi'=>?_⟩
 rw[Ap]
 split
 ·rename_i hc
  obtain⟨rfl,_⟩:=hc
  have hr:=h.2 i hi'
  refine⟨by rw[List.length_set];exact hr.1,λj' hj'=>?_⟩
  rw[Ap]
  split
  ·rename_i hc
   obtain⟨rfl,_⟩:=hc
   have hcl:=hr.2 j hj'
   refine⟨by rw[List.length_set];exact hcl.1,λx' hx'=>?_⟩
   rw[Ap]
   split
   ·rename_i hc
    obtain⟨rfl,_⟩:=hc
    rw[List.length_set];exact hcl.2 x hx'
   ·exact hcl.2 x' hx'
  ·exact hr.2 j' hj'
 ·exact h.2 i' hi'
theorem MP (h:Ok3 n m u) {i j p:Nat} {b:Bool}:Ok3 n m (s3 u i j p b):=by
 unfold s3
 refine⟨by rw[List.length_set];exact h.1,λi' hi'=>?_⟩
 rw[Ap]
 split
 ·rename_i hc
  obtain⟨rfl,_⟩:=hc
  have hr:=h.2 i hi'
  refine⟨by rw[List.length_set];exact hr.1,λj' hj'=>?_⟩
  rw[Ap]
  split
  ·rename_i hc
   obtain⟨rfl,_⟩:=hc
   rw[List.length_set];exact hr.2 j hj'
  ·exact hr.2 j' hj'
 ·exact h.2 i' hi'
theorem Fq (h:Ok4 n s t) {i j x y:Nat} {b:Bool} (hi:i<n) (hj:j<n) (hx:x<s) (hy:y<s) (i' j' x' y':Nat):
  r4 (s4 t i j x y b) i' j' x' y'=if i=i'/\j=j'/\x=x'/\y=y' then b else r4 t i' j' x' y':=by
 obtain⟨h1,h2,h3,h4⟩:=h.at hi hj hx
 unfold r4 s4
 rw[Ap]
 by_cases e1:i=i'
 ·subst e1
  rw[if_pos ⟨rfl,h1⟩,Ap]
  by_cases e2:j=j'
  ·subst e2
   rw[if_pos ⟨rfl,h2⟩,Ap]
   by_cases e3:x=x'
   ·subst e3
    rw[if_pos ⟨rfl,h3⟩,Ap]
    by_cases e4:y=y'
    ·subst e4;rw[if_pos ⟨rfl,by omega⟩,if_pos ⟨rfl,rfl,rfl,rfl⟩]
    ·rw[if_neg (by omega),if_neg (by omega)]
   ·rw[if_neg (by omega),if_neg (by omega)]
  ·rw[if_neg (by omega),if_neg (by omega)]
 ·rw[if_neg (by omega),if_neg (by omega)]
theorem MO (h:Ok3 n m u) {i j p:Nat} {b:Bool} (hi:i<n) (hj:j<n) (hp:p<m) (i' j' p':Nat):
  r3 (s3 u i j p b) i' j' p'=if i=i'/\j=j'/\p=p' then b else r3 u i' j' p':=by
 obtain⟨h1,h2,h3⟩:=h.at hi hj
 unfold r3 s3
 rw[Ap]
 by_cases e1:i=i'
 ·subst e1
  rw[if_pos ⟨rfl,h1⟩,Ap]
  by_cases e2:j=j'
  ·subst e2
   rw[if_pos ⟨rfl,h2⟩,Ap]
   by_cases e3:p=p'
   ·subst e3;rw[if_pos ⟨rfl,by omega⟩,if_pos ⟨rfl,rfl,rfl⟩]
   ·rw[if_neg (by omega),if_neg (by omega)]
  ·rw[if_neg (by omega),if_neg (by omega)]
 ·rw[if_neg (by omega),if_neg (by omega)]
theorem Ls {i j p:Nat} (h:r3 u i j p=true):mu3 (s3 u i j p false)+1=mu3 u:=by
 rcases Nat.lt_or_ge i u.length with hi|hi
 ·have h1:=Io mu u i (K2 (u.getD i []) j p) hi
  have h2:mu (K2 (u.getD i []) j p)+1=mu (u.getD i []):=Lt h
  rw[Ah hi]at h1 h2
  have e:s3 u i j p false=u.set i (K2 (u.getD i []) j p):=rfl
  unfold mu3
  rw[e,Ah hi]
  omega
 ·unfold r3 at h
  rw[List.getD_eq_getElem?_getD (l:=u),List.getElem?_eq_none hi]at h;simp at h
theorem Jg {α:Type} (f:α->Nat) (K:Nat): ∀(l:List α),(∀x∈l,f x<=K)->(l.map f).sum<=l.length*K
 | [],_=>by simp
 |x::l,h=>by
  have h1:=h x (by simp)
  have h2:=Jg f K l λy hy=>h y (List.mem_cons_of_mem _ hy)
  simp only[List.map_cons,List.sum_cons,List.length_cons,Nat.succ_mul];omega
theorem L8 (h:Ok3 n m u):mu3 u<=n*(n*m):=by
 unfold mu3
 rw[←h.1]
 refine Jg mu _ u λr hr=>?_
 obtain⟨i,hi,rfl⟩:=List.mem_iff_getElem.1 hr
 have hi':i<n:=by rw[←h.1];exact hi
 have hrow:=h.2 i hi'
 rw[Ah hi]at hrow
 unfold mu
 rw[h.1,←hrow.1]
 refine Jg _ _ _ λc hc=>?_
 obtain⟨j,hj,rfl⟩:=List.mem_iff_getElem.1 hc
 have:=hrow.2 j (by rw[←hrow.1];exact hj)
 rw[Ah hj]at this
 rw[←this];exact List.countP_le_length
end
structure Rel34 (n s:Nat) (t:T4) (u:T3):Prop where
 o4:Ok4 n s t
 o3:Ok3 n (s*s) u
 eq: ∀i j x y,i<j->j<n->x<s->y<s->r4 t i j x y=r3 u i j (x*s+y)/\r4 t j i y x=r3 u i j (x*s+y)
theorem Eh {s x y:Nat} (hx:x<s) (hy:y<s):x*s+y<s*s:=by
 have:(x+1)*s<=s*s:=Nat.mul_le_mul_right _ hx
 rw[Nat.succ_mul]at this;omega
theorem Kk {s x y x' y':Nat} (hy:y<s) (hy':y'<s) (h:x*s+y=x'*s+y'):x=x'/\y=y':=by
 have h1:(x*s+y)/s=x:=by rw[Nat.mul_comm,Nat.mul_add_div (by omega),Nat.div_eq_of_lt hy];omega
 have h2:(x'*s+y')/s=x':=by rw[Nat.mul_comm,Nat.mul_add_div (by omega),Nat.div_eq_of_lt hy'];omega
 have:x=x':=by rw[←h1,←h2,h]
 subst this
 exact⟨rfl,by omega⟩
theorem Rel34.drop {n s:Nat} {t:T4} {u:T3} (h:Rel34 n s t u) {i j x y:Nat} (hij:i<j) (hj:j<n) (hx:x<s) (hy:y<s):
  Rel34 n s (s4 (s4 t i j x y false) j i y x false) (s3 u i j (x*s+y) false):=by
 refine⟨E7 (E7 h.o4),MP h.o3,λi' j' x' y' h1 h2 h3 h4=>?_⟩
 have hi:i<n:=by omega
 rw[Fq (E7 h.o4) hj hi hy hx,Fq h.o4 hi hj hx hy,Fq (E7 h.o4) hj hi hy hx,Fq h.o4 hi hj hx hy,MO h.o3 hi hj (Eh hx hy)]
 obtain⟨e1,e2⟩:=h.eq i' j' x' y' h1 h2 h3 h4
 by_cases e:i=i'/\j=j'/\x=x'/\y=y'
 ·obtain⟨rfl,rfl,rfl,rfl⟩:=e
  simp
 ·have e3: ¬(i=i'/\j=j'/\x*s+y=x'*s+y'):=λ⟨q1,q2,q3⟩=>by
   have:=Kk hy h4 q3
   exact e ⟨q1,q2,this.1,this.2⟩
  have e4: ¬(j=i'/\i=j'/\y=x'/\x=y'):=by omega
  have e5: ¬(i=j'/\j=i'/\x=y'/\y=x'):=by omega
  have e6: ¬(j=j'/\i=i'/\y=y'/\x=x'):=by omega
  simp only[if_neg e,if_neg e3,if_neg e4,if_neg e5,if_neg e6]
  exact⟨e1,e2⟩
end T
open Go Go.Va
namespace T
theorem Aw {l:List Int} {i w:Nat} {x:Int} (hi:i<l.length):Aq (l.set i x) (w:Int)=if i=w then x else Aq l (w:Int):=by
 unfold Aq
 rw[Int.toNat_natCast,Ap]
 by_cases e:i=w
 ·subst e;simp[hi]
 ·simp[e]
def V3 (n i j k x y z:Nat):List Int:=(((List.replicate n (0:Int)).set i (x:Int)).set j (y:Int)).set k (z:Int)
section
variable {a:Net} {n s:Nat} {t:T4} {u:T3}
def hP (a:Net) (n:Nat) (t:T4) (i j k x y z:Nat):Bool:=r4 t i k x z&&r4 t j k y z&&E8 (Cv a [(i:Int),(j:Int),(k:Int)]) (V3 n i j k x y z)
theorem KC (hN:NetOk a) (ha:a.1=(n:Int)) (hb:a.2.1=(s:Int)) (h4:Ok4 n s t) {i j k x y:Nat} (hi:i<n) (hj:j<n) (hk:k<n) (hx:x<s) (hy:y<s) (hij:i≠j) (hik:i≠k) (hjk:j≠k):
  ∀(d z:Nat) (vs:List Int),z+d=s->vs.length=n->Aq vs (i:Int)=(x:Int)->Aq vs (j:Int)=(y:Int)-> ∀m,d<m->
   ∃vs',vs'.length=n/\(∀w:Nat,w≠k->Aq vs' (w:Int)=Aq vs (w:Int))/\
    Ar m (t,Cv a [(i:Int),(j:Int),(k:Int)],vs,(i:Int),(j:Int),(k:Int),(a.1,(a.2.1,a.2.2)),(z:Int))=some (if(List.range' z d).any (hP a n t i j k x y)then .inr (vs',true)else .inl vs'):=by
 have hs4:s<=4:=by have:=hN.hn;omega
 intro d
 induction d with
 |zero=>
  intro z vs hz hl _ _ m hm
  obtain⟨m,rfl⟩: ∃q,m=q+1:=⟨m-1,by omega⟩
  refine⟨vs,hl,λ_ _=>rfl,?_⟩
  simp only[Ar,hb]
  rw[if_neg (by simp;omega)];rfl
 |succ d ih=>
  intro z vs hz hl hvi hvj m hm
  obtain⟨m,rfl⟩: ∃q,m=q+1:=⟨m-1,by omega⟩
  have hzs:z<s:=by omega
  have hkl:k<vs.length:=by omega
  have hl':(vs.set k (z:Int)).length=n:=by rw[List.length_set];exact hl
  have wi:Aq (vs.set k (z:Int)) (i:Int)=(x:Int):=by rw[Aw hkl,if_neg (by omega)];exact hvi
  have wj:Aq (vs.set k (z:Int)) (j:Int)=(y:Int):=by rw[Aw hkl,if_neg (by omega)];exact hvj
  have wk:Aq (vs.set k (z:Int)) (k:Int)=(z:Int):=by rw[Aw hkl,if_pos rfl]
  have g1:(vs.set k (z:Int)).getD i 0=(x:Int):=wi
  have g2:(vs.set k (z:Int)).getD j 0=(y:Int):=wj
  obtain⟨a1,a2,a3,a4⟩:=h4.at hi hk hx
  obtain⟨b1,b2,b3,b4⟩:=h4.at hj hk hy
  have c1:z<((((t.getD i []).getD k []).getD x [])).length:=by omega
  have c2:z<((((t.getD j []).getD k []).getD y [])).length:=by omega
  have d1:i<(vs.set k (z:Int)).length:=by omega
  have d2:j<(vs.set k (z:Int)).length:=by omega
  have e1:(((t.getD i []).getD k []).getD x []).getD z false=r4 t i k x z:=rfl
  have e2:(((t.getD j []).getD k []).getD y []).getD z false=r4 t j k y z:=rfl
  have hsat:=EO hN (l:=Cv a [(i:Int),(j:Int),(k:Int)]) (Gv hN) G5 (vs:=vs.set k (z:Int)) (by rw[hl',ha])
  have hcong:E8 (Cv a [(i:Int),(j:Int),(k:Int)]) (vs.set k (z:Int))=E8 (Cv a [(i:Int),(j:Int),(k:Int)]) (V3 n i j k x y z):=by
   refine Hv λv hv=>?_
   have q1:i<(List.replicate n (0:Int)).length:=by simpa using hi
   have q2:j<((List.replicate n (0:Int)).set i (x:Int)).length:=by simpa using hj
   have q3:k<(((List.replicate n (0:Int)).set i (x:Int)).set j (y:Int)).length:=by simpa using hk
   simp only[List.mem_cons,List.not_mem_nil,or_false]at hv
   unfold V3
   rcases hv with rfl|rfl|rfl
   ·rw[wi,Aw q3,if_neg (by omega),Aw q2,if_neg (by omega),Aw q1,if_pos rfl]
   ·rw[wj,Aw q3,if_neg (by omega),Aw q2,if_pos rfl]
   ·rw[wk,Aw q3,if_pos rfl]
  rw[hcong]at hsat
  obtain⟨vs',h1,h2,h3⟩:=ih (z+1) (vs.set k (z:Int)) (by omega) hl' wi wj m (by omega)
  rw[List.range'_succ,List.any_cons]
  have hkeep: ∀w:Nat,w≠k->Aq (vs.set k (z:Int)) (w:Int)=Aq vs (w:Int):=λw hw=>by rw[Aw hkl,if_neg (by omega)]
  simp only[Ar,hb,Ac,Ea,BD,g1,g2,hkl,a1,a2,a3,b1,b2,b3,c1,c2,d1,d2,e1,e2,hsat,if_true,Option.bind_some,Ab (show z<4611686018427387904 by omega),decide_eq_true (show(z:Int)<(s:Int) by omega)]
  rw[hb]at h3
  have hrec: ∃vs',vs'.length=n/\(∀w:Nat,w≠k->Aq vs' (w:Int)=Aq vs (w:Int))/\
    Ar m (t,Cv a [(i:Int),(j:Int),(k:Int)],vs.set k (z:Int),(i:Int),(j:Int),(k:Int),(a.1,((s:Int),a.2.2)),((z+1:Nat):Int))=some (if(List.range' (z+1) d).any (hP a n t i j k x y)then .inr (vs',true)else .inl vs'):=
   ⟨vs',h1,λw hw=>(h2 w hw).trans (hkeep w hw),h3⟩
  have hPz:hP a n t i j k x y z=(r4 t i k x z&&r4 t j k y z&&E8 (Cv a [(i:Int),(j:Int),(k:Int)]) (V3 n i j k x y z)):=rfl
  rw[hPz]
  generalize (List.range' (z+1) d).any (hP a n t i j k x y)=W at hrec⊢
  cases r4 t i k x z with
  |false=>exact hrec
  |true=>
   cases r4 t j k y z with
   |false=>exact hrec
   |true=>
    cases E8 (Cv a [(i:Int),(j:Int),(k:Int)]) (V3 n i j k x y z)with
    |false=>exact hrec
    |true=>exact⟨vs.set k (z:Int),hl',hkeep,rfl⟩
theorem HE (hN:NetOk a) (ha:a.1=(n:Int)) (hb:a.2.1=(s:Int)) (h4:Ok4 n s t) {i j k x y:Nat} (hi:i<n) (hj:j<n) (hk:k<n) (hx:x<s) (hy:y<s) (hij:i≠j) (hik:i≠k) (hjk:j≠k)
  {vs:List Int} (hl:vs.length=n) (hvi:Aq vs (i:Int)=(x:Int)) (hvj:Aq vs (j:Int)=(y:Int)):
  ∃vs',vs'.length=n/\(∀w:Nat,w≠k->Aq vs' (w:Int)=Aq vs (w:Int))/\
   Dr t (a.1,(a.2.1,a.2.2)) (Cv a [(i:Int),(j:Int),(k:Int)]) vs (i:Int) (j:Int) (k:Int)=some (vs',(List.range' 0 s).any (hP a n t i j k x y)):=by
 have hs4:s<=4:=by have:=hN.hn;omega
 obtain⟨vs',h1,h2,h3⟩:=KC hN ha hb h4 hi hj hk hx hy hij hik hjk s 0 vs (by omega) hl hvi hvj Aa (by unfold Aa;omega)
 refine⟨vs',h1,h2,?_⟩
 unfold Dr
 have h3:Ar Aa (t,Cv a [(i:Int),(j:Int),(k:Int)],vs,(i:Int),(j:Int),(k:Int),(a.1,(a.2.1,a.2.2)),0)=_:=h3
 rw[h3]
 cases (List.range' 0 s).any (hP a n t i j k x y)<;>simp
theorem Hc {s x y:Nat} (hs:s<=4) (hx:x<s) (hy:y<s):w64 (w64 ((x:Int)*(s:Int))+(y:Int))=((x*s+y:Nat):Int):=by
 have h1:=Eh hx hy
 have h2:s*s<=4*4:=Nat.mul_le_mul hs hs
 have e:(x:Int)*(s:Int)=((x*s:Nat):Int):=by push_cast;rfl
 rw[e,AL (x:=((x*s:Nat):Int)) (by omega) (by omega),AL (by omega) (by omega)]
 push_cast;rfl
theorem Hb {s x y:Nat} (hs:s<=4) (hx:x<s) (hy:y<s):w64 (Int.tdiv ((x*s+y:Nat):Int) (s:Int))=(x:Int)/\Int.tmod ((x*s+y:Nat):Int) (s:Int)=(y:Int):=by
 have h1:(x*s+y)/s=x:=by rw[Nat.mul_comm,Nat.mul_add_div (by omega),Nat.div_eq_of_lt hy];omega
 have h2:(x*s+y)%s=y:=by rw[Nat.mul_comm,Nat.mul_add_mod,Nat.mod_eq_of_lt hy]
 constructor
 ·rw[Int.tdiv_eq_ediv_of_nonneg (by omega)]
  have:((x*s+y:Nat):Int)/(s:Int)=(x:Int):=by rw[←Int.natCast_ediv,h1]
  rw[this,AL (by omega) (by omega)]
 ·rw[Int.tmod_eq_emod_of_nonneg (by omega),←Int.natCast_emod,h2]
theorem EZ (hs:s<=4) (hR:Rel34 n s t u) {i k x z:Nat} (hi:i<n) (hk:k<n) (hx:x<s) (hz:z<s) (hik:i≠k):EH u (s:Int) (i:Int) (x:Int) (k:Int) (z:Int)=some (r4 t i k x z):=by
 unfold EH
 by_cases h:i<k
 ·obtain⟨h1,h2,h3⟩:=hR.o3.at hi hk
  have hc:=Eh hx hz
  have h4:x*s+z<((u.getD i []).getD k []).length:=by omega
  rw[if_pos (by simpa using h),Hc hs hx hz]
  simp only[Ac,Ea,h1,h2,h4,if_true]
  rw[(hR.eq i k x z h hk hx hz).1];rfl
 ·have h:k<i:=by omega
  obtain⟨h1,h2,h3⟩:=hR.o3.at hk hi
  have hc:=Eh hz hx
  have h4:z*s+x<((u.getD k []).getD i []).length:=by omega
  rw[if_neg (by simp;omega),Hc hs hz hx]
  simp only[Ac,Ea,h1,h2,h4,if_true]
  rw[(hR.eq k i z x h hi hz hx).2];rfl
theorem Jd (hN:NetOk a) (ha:a.1=(n:Int)) (hb:a.2.1=(s:Int)) (hR:Rel34 n s t u) {i j k x y:Nat} (hi:i<n) (hj:j<n) (hk:k<n) (hx:x<s) (hy:y<s) (hij:i≠j) (hik:i≠k) (hjk:j≠k) (sm:Bool):
  ∀(d z:Nat),z+d=s-> ∀m,d<m->
   AM m (u,(i:Int),(j:Int),(k:Int),(a.1,(a.2.1,a.2.2)),(s:Int),Cv a [(i:Int),(j:Int),(k:Int)],sm,((x*s+y:Nat):Int),false,(z:Int))=
    some (u,(i:Int),(j:Int),(k:Int),(a.1,(a.2.1,a.2.2)),(s:Int),Cv a [(i:Int),(j:Int),(k:Int)],sm,((x*s+y:Nat):Int),(List.range' z d).any (hP a n t i j k x y)):=by
 have hs4:s<=4:=by have:=hN.hn;omega
 have hn9:n<=9:=by have:=hN.hv;omega
 intro d
 induction d with
 |zero=>
  intro z hz m hm
  obtain⟨m,rfl⟩: ∃q,m=q+1:=⟨m-1,by omega⟩
  simp only[AM]
  rw[if_neg (by simp;omega)];rfl
 |succ d ih=>
  intro z hz m hm
  obtain⟨m,rfl⟩: ∃q,m=q+1:=⟨m-1,by omega⟩
  have hzs:z<s:=by omega
  have q1:i<(List.replicate n (0:Int)).length:=by simpa using hi
  have q2:j<((List.replicate n (0:Int)).set i (x:Int)).length:=by simpa using hj
  have q3:k<(((List.replicate n (0:Int)).set i (x:Int)).set j (y:Int)).length:=by simpa using hk
  have q4:i<(V3 n i j k x y z).length:=by unfold V3;simpa using hi
  have q5:j<(V3 n i j k x y z).length:=by unfold V3;simpa using hj
  have g1:(V3 n i j k x y z).getD i 0=(x:Int):=by
   have:Aq (V3 n i j k x y z) (i:Int)=(x:Int):=by unfold V3;rw[Aw q3,if_neg (by omega),Aw q2,if_neg (by omega),Aw q1,if_pos rfl]
   exact this
  have g2:(V3 n i j k x y z).getD j 0=(y:Int):=by
   have:Aq (V3 n i j k x y z) (j:Int)=(y:Int):=by unfold V3;rw[Aw q3,if_neg (by omega),Aw q2,if_pos rfl]
   exact this
  have hV:(((List.replicate n (0:Int)).set i (x:Int)).set j (y:Int)).set k (z:Int)=V3 n i j k x y z:=rfl
  obtain⟨c1,c2⟩:=Hb hs4 hx hy
  have hat1:=EZ hs4 hR hi hk hx hzs hik
  have hat2:=EZ hs4 hR hj hk hy hzs hjk
  have hhold:=Fu hN (l:=Cv a [(i:Int),(j:Int),(k:Int)]) (Gv hN) G5 (vs:=V3 n i j k x y z) (by unfold V3;simp[ha])
  have hsn: ¬((s:Int)=0):=by omega
  have hlim:0<=(n:Int)/\(n:Int)<=(n:Int)/\(n:Int)<=(lim:Int):=by unfold lim;omega
  have ihz:=ih (z+1) (by omega) m (by omega)
  rw[List.range'_succ,List.any_cons]
  rw[ha]at ihz⊢
  simp only[AM,decide_eq_true (show(z:Int)<(s:Int) by omega),if_true,Bool.not_false,hlim,and_self,ne_eq,hsn,not_false_eq_true,Int.toNat_natCast,Ac,q1,c1,c2,BD,q2,q3,hV,q4,q5,Ea,g1,g2,hat1,hat2,hhold,Option.bind_some,Ab (show z<4611686018427387904 by omega)]
  have hend: ∀(q:Nat),AM m (u,(i:Int),(j:Int),(k:Int),((n:Int),(a.2.1,a.2.2)),(s:Int),Cv a [(i:Int),(j:Int),(k:Int)],sm,((x*s+y:Nat):Int),true,(q:Int))=
    some (u,(i:Int),(j:Int),(k:Int),((n:Int),(a.2.1,a.2.2)),(s:Int),Cv a [(i:Int),(j:Int),(k:Int)],sm,((x*s+y:Nat):Int),true):=λq=>by
   obtain⟨m,rfl⟩: ∃q,m=q+1:=⟨m-1,by omega⟩
   simp only[AM]
   cases decide ((q:Int)<(s:Int))<;>simp
  have hPz:hP a n t i j k x y z=(r4 t i k x z&&r4 t j k y z&&E8 (Cv a [(i:Int),(j:Int),(k:Int)]) (V3 n i j k x y z)):=rfl
  rw[hPz]
  generalize (List.range' (z+1) d).any (hP a n t i j k x y)=W at ihz⊢
  cases r4 t i k x z with
  |false=>exact ihz
  |true=>
   cases r4 t j k y z with
   |false=>exact ihz
   |true=>
    cases E8 (Cv a [(i:Int),(j:Int),(k:Int)]) (V3 n i j k x y z)with
    |false=>exact ihz
    |true=>exact hend (z+1)
end
end T
open Go Go.Va
namespace T
section
variable {a:Net} {n s:Nat} {t:T4} {u:T3}
def LQ (n s mu0:Nat) (c0:Bool) (q:T4×List Int×Bool) (r:T3×Bool):Prop:=
 Rel34 n s q.1 r.1/\q.2.1.length=n/\q.2.2=(c0||r.2)/\r.2=decide (mu3 r.1<mu0)/\mu3 r.1<=mu0
def El (a:Net) (n s i j k:Nat) (q:T4×Bool) (p:Nat):T4×Bool:=
 if r4 q.1 i j (p/s) (p%s)&&!(List.range' 0 s).any (hP a n q.1 i j k (p/s) (p%s))then(s4 (s4 q.1 i j (p/s) (p%s) false) j i (p%s) (p/s) false,true)else q
theorem F4 {s x y:Nat} (hy:y<s):(x*s+y)/s=x/\(x*s+y)%s=y:=by
 have hs:0<s:=by omega
 exact⟨by rw[Nat.mul_comm,Nat.mul_add_div hs,Nat.div_eq_of_lt hy];omega,by rw[Nat.mul_comm,Nat.mul_add_mod,Nat.mod_eq_of_lt hy]⟩
theorem Ib {s p:Nat} (hp:p<s*s): ∃x y,p=x*s+y/\x<s/\y<s:=by
 have hs:0<s:=Nat.pos_of_ne_zero λe=>by subst e;simp at hp
 exact⟨p/s,p%s,by rw[Nat.mul_comm];exact(Nat.div_add_mod p s).symm,Nat.div_lt_of_lt_mul hp,Nat.mod_lt _ hs⟩
theorem Je (hN:NetOk a) (ha:a.1=(n:Int)) (hb:a.2.1=(s:Int)) {i j k:Nat} (hij:i<j) (hj:j<n) (hk:k<n) (hik:i≠k) (hjk:j≠k) (t18 t19 t31 t32:Int) {mu0:Nat} {c0:Bool} {q:T4×List Int×Bool} {r:T3×Bool} (h:LQ n s mu0 c0 q r):
  ∃q' r',(LQ n s mu0 c0 q' r'/\(q'.1,q'.2.2)=(List.range (s*s)).foldl (El a n s i j k) (q.1,q.2.2))/\
   Au Aa ((a.1,(a.2.1,a.2.2)),q.1,q.2.1,q.2.2,(i:Int),(j:Int),(k:Int),Cv a [(i:Int),(j:Int),(k:Int)],0,t18,t19,t31,t32)=some ((a.1,(a.2.1,a.2.2)),q'.1,q'.2.1,q'.2.2,(i:Int),(j:Int),t18,t19,t31,t32)/\
   AQ Aa (r.1,(i:Int),(j:Int),(k:Int),(a.1,(a.2.1,a.2.2)),(s:Int),Cv a [(i:Int),(j:Int),(k:Int)],r.2,0)=some (r'.1,r'.2):=by
 have hs4:s<=4:=by have:=hN.hn;omega
 have hs0:0<s:=by have:=hN.hn;omega
 have hss:s*s<=4*4:=Nat.mul_le_mul hs4 hs4
 have hi:i<n:=by omega
 have ess:w64 ((s:Int)*(s:Int))=((s*s:Nat):Int):=by
  have e:(s:Int)*(s:Int)=((s*s:Nat):Int):=by push_cast;rfl
  rw[e,AL (by omega) (by omega)]
 have hsn: ¬((s:Int)=0):=by omega
 refine Lj (s*s) (λm (q:T4×List Int×Bool) p=>Au m ((a.1,(a.2.1,a.2.2)),q.1,q.2.1,q.2.2,(i:Int),(j:Int),(k:Int),Cv a [(i:Int),(j:Int),(k:Int)],p,t18,t19,t31,t32))
  (λm (r:T3×Bool) p=>AQ m (r.1,(i:Int),(j:Int),(k:Int),(a.1,(a.2.1,a.2.2)),(s:Int),Cv a [(i:Int),(j:Int),(k:Int)],r.2,p))
  (λp q1 r1=>LQ n s mu0 c0 q1 r1/\(q1.1,q1.2.2)=(List.range p).foldl (El a n s i j k) (q.1,q.2.2)) (λq'=>some ((a.1,(a.2.1,a.2.2)),q'.1,q'.2.1,q'.2.2,(i:Int),(j:Int),t18,t19,t31,t32)) (λr'=>some (r'.1,r'.2))
  ?_ ?_ ?_ (s*s) 0 Aa Aa q r (by omega) (by unfold Aa;omega) (by unfold Aa;omega) ⟨h,rfl⟩
 ·rintro p ⟨t,vs,c⟩ ⟨u,sm⟩ hp ⟨⟨hR,hl,hc,hsm,hmu⟩,hF⟩
  dsimp only at hR hl hc hsm hmu hF⊢
  obtain⟨x,y,rfl,hx,hy⟩:=Ib hp
  obtain⟨dm1,dm2⟩:=F4 (x:=x) hy
  have hF1:(List.range (x*s+y+1)).foldl (El a n s i j k) (q.1,q.2.2)=El a n s i j k (t,c) (x*s+y):=by
   rw[List.range_succ,List.foldl_append,←hF];rfl
  rw[hF1]
  unfold El
  dsimp only
  rw[dm1,dm2]
  obtain⟨w1,w2⟩:=Hb hs4 hx hy
  obtain⟨a1,a2,a3,a4⟩:=hR.o4.at hi hj hx
  obtain⟨b1,b2,b3⟩:=hR.o3.at hi hj
  obtain⟨e1,e2⟩:=hR.eq i j x y hij hj hx hy
  have d1:i<vs.length:=by omega
  have d2:j<(vs.set i (x:Int)).length:=by simp;omega
  have hl2:((vs.set i (x:Int)).set j (y:Int)).length=n:=by simpa using hl
  have v1:Aq ((vs.set i (x:Int)).set j (y:Int)) (i:Int)=(x:Int):=by rw[Aw d2,if_neg (by omega),Aw d1,if_pos rfl]
  have v2:Aq ((vs.set i (x:Int)).set j (y:Int)) (j:Int)=(y:Int):=by rw[Aw d2,if_pos rfl]
  have g1:((vs.set i (x:Int)).set j (y:Int)).getD i 0=(x:Int):=v1
  have g2:((vs.set i (x:Int)).set j (y:Int)).getD j 0=(y:Int):=v2
  have d3:i<((vs.set i (x:Int)).set j (y:Int)).length:=by omega
  have d4:j<((vs.set i (x:Int)).set j (y:Int)).length:=by omega
  have a5:y<(((t.getD i []).getD j []).getD x []).length:=by omega
  have b4:x*s+y<((u.getD i []).getD j []).length:=by omega
  have f1:(((t.getD i []).getD j []).getD x []).getD y false=r4 t i j x y:=rfl
  have f2:((u.getD i []).getD j []).getD (x*s+y) false=r3 u i j (x*s+y):=rfl
  obtain⟨vs',l1,l2,l3⟩:=HE hN ha hb hR.o4 hi hj hk hx hy (by omega) hik hjk hl2 v1 v2
  have l10:=λm hm=>Jd hN ha hb hR hi hj hk hx hy (by omega) hik hjk sm s 0 (by omega) m hm
  have l10:=l10 Aa (by unfold Aa;omega)
  have l10:AM Aa (u,(i:Int),(j:Int),(k:Int),(a.1,(a.2.1,a.2.2)),(s:Int),Cv a [(i:Int),(j:Int),(k:Int)],sm,((x*s+y:Nat):Int),false,0)=_:=l10
  have k1:vs'.getD i 0=(x:Int):=(l2 i hik).trans v1
  have k2:vs'.getD j 0=(y:Int):=(l2 j hjk).trans v2
  have k3:i<vs'.length:=by omega
  have k4:j<vs'.length:=by omega
  have hp':((x*s+y:Nat):Int)<((s*s:Nat):Int):=by omega
  have hq:x*s+y<4611686018427387904:=by omega
  rw[hb]at l3 l10
  cases hcell:r4 t i j x y with
  |false=>
   refine⟨(t,(vs.set i (x:Int)).set j (y:Int),c),(u,sm),⟨⟨hR,hl2,hc,hsm,hmu⟩,by simp⟩,λm=>?_,λm=>?_⟩
   ·simp only[Au,hb,ess,decide_eq_true hp',ne_eq,hsn,not_false_eq_true,if_true,w1,w2,Ac,Ea,BD,d1,d2,d3,d4,g1,g2,a1,a2,a3,a5,f1,hcell,Bool.false_eq_true,if_false,Ab hq]
   ·have e1':r3 u i j (x*s+y)=false:=by rw[←e1];exact hcell
    simp only[AQ,ess,decide_eq_true hp',if_true,Ac,Ea,b1,b2,b4,f2,e1',Bool.not_false,Ab hq]
  |true=>
   have e1':r3 u i j (x*s+y)=true:=by rw[←e1];exact hcell
   cases hP:(List.range' 0 s).any (hP a n t i j k x y)with
   |true=>
    rw[hP]at l3 l10
    refine⟨(t,vs',c),(u,sm),⟨⟨hR,l1,hc,hsm,hmu⟩,by simp⟩,λm=>?_,λm=>?_⟩
    ·simp only[Au,hb,ess,decide_eq_true hp',ne_eq,hsn,not_false_eq_true,if_true,w1,w2,Ac,Ea,BD,d1,d2,d3,d4,g1,g2,a1,a2,a3,a5,f1,hcell,l3,Option.bind_some,Bool.not_true,Bool.false_eq_true,if_false,Ab hq]
    ·simp only[AQ,hb,ess,decide_eq_true hp',if_true,Ac,Ea,b1,b2,b4,f2,e1',Bool.not_true,Bool.false_eq_true,if_false,l10,Option.bind_some,Ab hq]
   |false=>
    rw[hP]at l3 l10
    have hR':=hR.drop hij hj hx hy
    have hmu':=Ls e1'
    refine⟨(s4 (s4 t i j x y false) j i y x false,vs',true),(s3 u i j (x*s+y) false,true),⟨⟨hR',l1,by simp,?_,by dsimp only;omega⟩,by simp⟩,λm=>?_,λm=>?_⟩
    ·dsimp only;rw[decide_eq_true (by omega)]
    ·have hs4':=E7 hR.o4 (i:=i) (j:=j) (x:=x) (y:=y) (b:=false)
     obtain⟨m1,m2,m3,m4⟩:=hs4'.at hj hi hy
     have m5:x<((((s4 t i j x y false).getD j []).getD i []).getD y []).length:=by omega
     have es:t.set i ((t.getD i []).set j (((t.getD i []).getD j []).set x ((((t.getD i []).getD j []).getD x []).set y false)))=s4 t i j x y false:=rfl
     have es2:(s4 t i j x y false).set j (((s4 t i j x y false).getD j []).set i ((((s4 t i j x y false).getD j []).getD i []).set y (((((s4 t i j x y false).getD j []).getD i []).getD y []).set x false)))=s4 (s4 t i j x y false) j i y x false:=rfl
     simp only[Au,hb,ess,decide_eq_true hp',ne_eq,hsn,not_false_eq_true,if_true,w1,w2,Ac,Ea,BD,d1,d2,d3,d4,g1,g2,a1,a2,a3,a5,f1,hcell,l3,Option.bind_some,Bool.not_false,k1,k2,k3,k4,es,m1,m2,m3,m5,es2,Ab hq]
    ·have es3:u.set i ((u.getD i []).set j (((u.getD i []).getD j []).set (x*s+y) false))=s3 u i j (x*s+y) false:=rfl
     simp only[AQ,hb,ess,decide_eq_true hp',if_true,Ac,Ea,b1,b2,b4,f2,e1',Bool.not_true,Bool.false_eq_true,if_false,l10,Option.bind_some,Bool.not_false,BD,es3,Ab hq]
 ·rintro m ⟨t,vs,c⟩ ⟨u,sm⟩ _
  simp only[Au,hb,ess]
  rw[if_neg (by simp)]
 ·rintro m ⟨t,vs,c⟩ ⟨u,sm⟩ _
  simp only[AQ,ess]
  rw[if_neg (by simp)]
end
end T
open Go Go.Va
namespace T
section
variable {a:Net} {n s:Nat} {t:T4} {u:T3}
def H9 (n s mu0:Nat) (q:T4×List Int×Bool) (r:T3×Bool):Prop:=
 Rel34 n s q.1 r.1/\q.2.1.length=n/\q.2.2=r.2/\r.2=decide (mu3 r.1<mu0)/\mu3 r.1<=mu0
def kS (a:Net) (n s i j:Nat) (q:T4×Bool) (k:Nat):T4×Bool:=if k=i∨k=j then q else(List.range (s*s)).foldl (El a n s i j k) q
def jS (a:Net) (n s i:Nat) (q:T4×Bool) (j:Nat):T4×Bool:=(List.range n).foldl (kS a n s i j) q
def iS (a:Net) (n s:Nat) (q:T4×Bool) (i:Nat):T4×Bool:=(List.range' (i+1) (n-(i+1))).foldl (jS a n s i) q
def Gb (a:Net) (n s:Nat) (q:T4×Bool):T4×Bool:=(List.range n).foldl (iS a n s) q
theorem Kc (hN:NetOk a) (ha:a.1=(n:Int)) (hb:a.2.1=(s:Int)) {i j:Nat} (hij:i<j) (hj:j<n) (t18 t19:Int) {mu0:Nat} {q:T4×List Int×Bool} {r:T3×Bool} (h:H9 n s mu0 q r):
  ∃q' r',(H9 n s mu0 q' r'/\(q'.1,q'.2.2)=jS a n s i (q.1,q.2.2) j)/\
   As Aa ((a.1,(a.2.1,a.2.2)),q.1,q.2.1,q.2.2,(i:Int),(j:Int),t18,t19,(n:Int),0)=some ((a.1,(a.2.1,a.2.2)),q'.1,q'.2.1,q'.2.2,(i:Int),(j:Int),t18,t19)/\
   AK Aa ((a.1,(a.2.1,a.2.2)),(n:Int),r.1,r.2,(i:Int),(j:Int),0)=some ((a.1,(a.2.1,a.2.2)),(n:Int),r'.1,r'.2,(i:Int),(j:Int)):=by
 have hn9:n<=9:=by have:=hN.hv;omega
 refine Lj n (λm (q:T4×List Int×Bool) p=>As m ((a.1,(a.2.1,a.2.2)),q.1,q.2.1,q.2.2,(i:Int),(j:Int),t18,t19,(n:Int),p))
  (λm (r:T3×Bool) p=>AK m ((a.1,(a.2.1,a.2.2)),(n:Int),r.1,r.2,(i:Int),(j:Int),p))
  (λk q1 r1=>H9 n s mu0 q1 r1/\(q1.1,q1.2.2)=(List.range k).foldl (kS a n s i j) (q.1,q.2.2)) (λq'=>some ((a.1,(a.2.1,a.2.2)),q'.1,q'.2.1,q'.2.2,(i:Int),(j:Int),t18,t19)) (λr'=>some ((a.1,(a.2.1,a.2.2)),(n:Int),r'.1,r'.2,(i:Int),(j:Int)))
  ?_ ?_ ?_ n 0 Aa Aa q r (by omega) (by unfold Aa;omega) (by unfold Aa;omega) ⟨h,rfl⟩
 ·rintro k ⟨t,vs,c⟩ ⟨u,g⟩ hk ⟨⟨hR,hl,hc,hg,hmu⟩,hF⟩
  dsimp only at hR hl hc hg hmu hF⊢
  have hF1:(List.range (k+1)).foldl (kS a n s i j) (q.1,q.2.2)=kS a n s i j (t,c) k:=by
   rw[List.range_succ,List.foldl_append,←hF];rfl
  rw[hF1]
  have hk':(k:Int)<(n:Int):=by omega
  have hq:k<4611686018427387904:=by omega
  by_cases e1:k=i
  ·refine⟨(t,vs,c),(u,g),⟨⟨hR,hl,hc,hg,hmu⟩,by simp[kS,e1]⟩,λm=>?_,λm=>?_⟩
   ·simp only[As,decide_eq_true hk',if_true,Ab hq,show((k:Int)==(i:Int))=true by simp[e1]]
   ·simp only[AK,decide_eq_true hk',if_true,Ab hq,show((k:Int) !=(i:Int))=false by simp[e1],Bool.false_eq_true,if_false]
  by_cases e2:k=j
  ·refine⟨(t,vs,c),(u,g),⟨⟨hR,hl,hc,hg,hmu⟩,by simp[kS,e2]⟩,λm=>?_,λm=>?_⟩
   ·simp only[As,decide_eq_true hk',if_true,Ab hq,show((k:Int)==(i:Int))=false by simp;omega,show((k:Int)==(j:Int))=true by simp[e2],Bool.false_eq_true,if_false]
   ·simp only[AK,decide_eq_true hk',if_true,Ab hq,show((k:Int) !=(i:Int))=true by simp;omega,show((k:Int) !=(j:Int))=false by simp[e2],Bool.false_eq_true,if_false]
  ·
   obtain⟨⟨t',vs',c'⟩,⟨u',sm⟩,⟨⟨hR',hl',hc',hsm,hmu'⟩,hF2⟩,h1,h2⟩:=Je hN ha hb hij hj hk (by omega) (by omega) t18 t19 (n:Int) (k:Int) (mu0:=mu3 u) (c0:=c) (q:=(t,vs,c)) (r:=(u,false)) ⟨hR,hl,by simp,by simp,Nat.le_refl _⟩
   dsimp only at hR' hl' hc' hsm hmu' h1 h2 hF2
   have hk2:kS a n s i j (t,c) k=(List.range (s*s)).foldl (El a n s i j k) (t,c):=if_neg (by omega)
   have hw:=FM hN (vars:= [(i:Int),(j:Int),(k:Int)]) (by simp)
   have hw2:=ER hN (vars:= [(i:Int),(j:Int),(k:Int)]) (by simp)
   have hshr:EI (a.1,(a.2.1,a.2.2)) u (i:Int) (j:Int) (k:Int)=some (u',sm):=by
    unfold EI
    dsimp only
    rw[hw2,Option.bind_some]
    rw[←hb]at h2
    rw[h2];rfl
   have hgg:(if sm=true then true else g)=decide (mu3 u'<mu0):=by
    cases sm with
    |true=>have:=of_decide_eq_true hsm.symm;rw[if_pos rfl,decide_eq_true (by omega)]
    |false=>
     have:=of_decide_eq_false hsm.symm
     have e:mu3 u'=mu3 u:=by omega
     rw[if_neg (by simp),hg,e]
   refine⟨(t',vs',c'),(u',if sm=true then true else g),⟨⟨hR',hl',?_,hgg,by dsimp only;omega⟩,by rw[hk2];exact hF2⟩,λm=>?_,λm=>?_⟩
   ·dsimp only;rw[hc',hc];cases sm<;>simp
   ·simp only[As,decide_eq_true hk',if_true,Ab hq,show((k:Int)==(i:Int))=false by simp;omega,show((k:Int)==(j:Int))=false by simp;omega,Bool.false_eq_true,if_false,hw,h1,Option.bind_some]
   ·simp only[AK,decide_eq_true hk',if_true,Ab hq,show((k:Int) !=(i:Int))=true by simp;omega,show((k:Int) !=(j:Int))=true by simp;omega,hshr,Option.bind_some]
    cases sm<;>simp
 ·rintro m ⟨t,vs,c⟩ ⟨u,g⟩ _
  simp only[As]
  rw[if_neg (by simp)]
 ·rintro m ⟨t,vs,c⟩ ⟨u,g⟩ _
  simp only[AK]
  rw[if_neg (by simp)]
theorem Jc (hN:NetOk a) (ha:a.1=(n:Int)) (hb:a.2.1=(s:Int)) {i:Nat} (hi:i<n) (t18 t19:Int) {mu0:Nat} {q:T4×List Int×Bool} {r:T3×Bool} (h:H9 n s mu0 q r):
  ∃q' r',(H9 n s mu0 q' r'/\(q'.1,q'.2.2)=iS a n s (q.1,q.2.2) i)/\
   Bq Aa ((a.1,(a.2.1,a.2.2)),q.1,q.2.1,q.2.2,(i:Int),((i+1:Nat):Int),t18,t19)=some ((a.1,(a.2.1,a.2.2)),q'.1,q'.2.1,q'.2.2,t18,t19)/\
   Cd Aa ((a.1,(a.2.1,a.2.2)),(n:Int),r.1,r.2,(i:Int),((i+1:Nat):Int))=some ((a.1,(a.2.1,a.2.2)),(n:Int),r'.1,r'.2,(i:Int)):=by
 have hn9:n<=9:=by have:=hN.hv;omega
 have key:=Lj n (λm (q:T4×List Int×Bool) p=>Bq m ((a.1,(a.2.1,a.2.2)),q.1,q.2.1,q.2.2,(i:Int),p,t18,t19))
  (λm (r:T3×Bool) p=>Cd m ((a.1,(a.2.1,a.2.2)),(n:Int),r.1,r.2,(i:Int),p))
  (λk q1 r1=>i<k/\H9 n s mu0 q1 r1/\(q1.1,q1.2.2)=(List.range' (i+1) (k-(i+1))).foldl (jS a n s i) (q.1,q.2.2)) (λq'=>some ((a.1,(a.2.1,a.2.2)),q'.1,q'.2.1,q'.2.2,t18,t19)) (λr'=>some ((a.1,(a.2.1,a.2.2)),(n:Int),r'.1,r'.2,(i:Int)))
  ?_ ?_ ?_ (n-(i+1)) (i+1) Aa Aa q r (by omega) (by unfold Aa;omega) (by unfold Aa;omega) ⟨by omega,h,by simp⟩
 ·obtain⟨q',r',hI,h1,h2⟩:=key
  exact⟨q',r',hI.2,h1,h2⟩
 ·rintro j ⟨t,vs,c⟩ ⟨u,g⟩ hj ⟨hij,hD,hF⟩
  obtain⟨q',r',⟨hD',hF2⟩,h1,h2⟩:=Kc hN ha hb hij hj t18 t19 hD
  have hF1:(List.range' (i+1) (j+1-(i+1))).foldl (jS a n s i) (q.1,q.2.2)=jS a n s i (t,c) j:=by
   rw[show j+1-(i+1)=(j-(i+1))+1 by omega,List.range'_1_concat,List.foldl_append,←hF,show i+1+(j-(i+1))=j by omega];rfl
  have hlen:((t.length:Nat):Int)=(n:Int):=by have:=hD.1.o4.1;dsimp only at this;omega
  have hj':(j:Int)<(n:Int):=by omega
  have hq:j<4611686018427387904:=by omega
  refine⟨q',r',⟨by omega,hD',by rw[hF1];exact hF2⟩,λm=>?_,λm=>?_⟩
  ·dsimp only at h1⊢
   simp only[Bq,ha,decide_eq_true hj',if_true,hlen]
   rw[ha]at h1
   rw[h1]
   simp only[Option.bind_some,Ab hq]
  ·dsimp only at h2⊢
   simp only[Cd,decide_eq_true hj',if_true,h2,Option.bind_some,Ab hq]
 ·rintro m ⟨t,vs,c⟩ ⟨u,g⟩ _
  simp only[Bq,ha]
  rw[if_neg (by simp)]
 ·rintro m ⟨t,vs,c⟩ ⟨u,g⟩ _
  simp only[Cd]
  rw[if_neg (by simp)]
theorem JM (hN:NetOk a) (ha:a.1=(n:Int)) (hb:a.2.1=(s:Int)) {mu0:Nat} {q:T4×List Int×Bool} {r:T3×Bool} (h:H9 n s mu0 q r):
  ∃q' r',(H9 n s mu0 q' r'/\(q'.1,q'.2.2)=Gb a n s (q.1,q.2.2))/\
   By Aa ((a.1,(a.2.1,a.2.2)),q.1,q.2.1,q.2.2,(n:Int),0)=some ((a.1,(a.2.1,a.2.2)),q'.1,q'.2.1,q'.2.2)/\
   Cc Aa ((a.1,(a.2.1,a.2.2)),(n:Int),r.1,r.2,0)=some ((a.1,(a.2.1,a.2.2)),(n:Int),r'.1,r'.2):=by
 have hn9:n<=9:=by have:=hN.hv;omega
 refine Lj n (λm (q:T4×List Int×Bool) p=>By m ((a.1,(a.2.1,a.2.2)),q.1,q.2.1,q.2.2,(n:Int),p))
  (λm (r:T3×Bool) p=>Cc m ((a.1,(a.2.1,a.2.2)),(n:Int),r.1,r.2,p))
  (λk q1 r1=>H9 n s mu0 q1 r1/\(q1.1,q1.2.2)=(List.range k).foldl (iS a n s) (q.1,q.2.2)) (λq'=>some ((a.1,(a.2.1,a.2.2)),q'.1,q'.2.1,q'.2.2)) (λr'=>some ((a.1,(a.2.1,a.2.2)),(n:Int),r'.1,r'.2))
  ?_ ?_ ?_ n 0 Aa Aa q r (by omega) (by unfold Aa;omega) (by unfold Aa;omega) ⟨h,rfl⟩
 ·rintro i ⟨t,vs,c⟩ ⟨u,g⟩ hi ⟨hD,hF⟩
  obtain⟨q',r',⟨hD',hF2⟩,h1,h2⟩:=Jc hN ha hb hi (n:Int) (i:Int) hD
  have hF1:(List.range (i+1)).foldl (iS a n s) (q.1,q.2.2)=iS a n s (t,c) i:=by
   rw[List.range_succ,List.foldl_append,←hF];rfl
  have hi':(i:Int)<(n:Int):=by omega
  have hq:i<4611686018427387904:=by omega
  refine⟨q',r',⟨hD',by rw[hF1];exact hF2⟩,λm=>?_,λm=>?_⟩
  ·dsimp only at h1⊢
   simp only[By,decide_eq_true hi',if_true,Ab hq,h1,Option.bind_some]
  ·dsimp only at h2⊢
   simp only[Cc,decide_eq_true hi',if_true,Ab hq,h2,Option.bind_some]
 ·rintro m ⟨t,vs,c⟩ ⟨u,g⟩ _
  simp only[By]
  rw[if_neg (by simp)]
 ·rintro m ⟨t,vs,c⟩ ⟨u,g⟩ _
  simp only[Cc]
  rw[if_neg (by simp)]
theorem DU {α:Type} {f:T4×Bool->α->T4×Bool} (hf: ∀q x,(f q x).2=false->f q x=q): ∀(l:List α) (q:T4×Bool),(l.foldl f q).2=false->l.foldl f q=q/\ ∀x∈l,f q x=q
 | [],q,_=>⟨rfl,λx h=>by simp at h⟩
 |x::l,q,h=>by
  rw[List.foldl_cons]at h⊢
  have h1:=DU hf l (f q x) h
  have h2:(f q x).2=false:=by rw[←h1.1];exact h
  have h3:=hf q x h2
  rw[h3]at h1⊢
  exact⟨h1.1,λy hy=>by
   rcases List.mem_cons.1 hy with rfl|hy
   ·exact h3
   ·exact h1.2 y hy⟩
theorem Ha {i j k:Nat} (q:T4×Bool) (p:Nat) (h:(El a n s i j k q p).2=false):El a n s i j k q p=q:=by
 unfold El at h⊢
 split at h
 ·cases h
 ·rename_i hc;rw[if_neg hc]
theorem Jv {i j:Nat} (q:T4×Bool) (k:Nat) (h:(kS a n s i j q k).2=false):kS a n s i j q k=q:=by
 unfold kS at h⊢
 split at h
 ·rename_i hc;rw[if_pos hc]
 ·rename_i hc;rw[if_neg hc];exact(DU (λq x hx=>Ha q x hx) _ _ h).1
theorem Ju {i:Nat} (q:T4×Bool) (j:Nat) (h:(jS a n s i q j).2=false):jS a n s i q j=q:=(DU (λq x hx=>Jv q x hx) _ _ h).1
theorem Lm (q:T4×Bool) (i:Nat) (h:(iS a n s q i).2=false):iS a n s q i=q:=(DU (λq x hx=>Ju q x hx) _ _ h).1
theorem Hs (q:T4×Bool) (h:(Gb a n s q).2=false):Gb a n s q=q/\ ∀i,i<n-> ∀j,i<j->j<n-> ∀k,k<n->k≠i->k≠j-> ∀p,p<s*s->El a n s i j k q p=q:=by
 obtain⟨h1,h2⟩:=DU (λq x hx=>Lm q x hx) _ _ h
 have hq:q.2=false:=by have h:=h;rw[show Gb a n s q=q from h1]at h;exact h
 refine⟨h1,λi hi j hij hj k hk hki hkj p hp=>?_⟩
 have e1:=h2 i (List.mem_range.2 hi)
 have e2:=(DU (λq x hx=>Ju q x hx) (List.range' (i+1) (n-(i+1))) q (by have:iS a n s q i=_:=e1;unfold iS at this;rw[this];exact hq)).2 j (by rw[List.mem_range'_1];omega)
 have e3:=(DU (λq x hx=>Jv q x hx) (List.range n) q (by have:jS a n s i q j=_:=e2;unfold jS at this;rw[this];exact hq)).2 k (List.mem_range.2 hk)
 have e4:kS a n s i j q k=(List.range (s*s)).foldl (El a n s i j k) q:=if_neg (by omega)
 rw[e4]at e3
 exact(DU (λq x hx=>Ha q x hx) _ q (by rw[e3];exact hq)).2 p (List.mem_range.2 hp)
theorem JG (hN:NetOk a) (ha:a.1=(n:Int)) (hb:a.2.1=(s:Int)): ∀(K:Nat) (t:T4) (vs:List Int) (u:T3),Rel34 n s t u->vs.length=n->mu3 u<K-> ∀m m',K<m->K<m'->
  ∃t' u',(Rel34 n s t' u'/\(Gb a n s (t',false)).2=false/\ ∀P:T4->Prop,(∀q,P q.1->P (Gb a n s q).1)->P t->P t')/\B3 m ((a.1,(a.2.1,a.2.2)),t,vs,true)=some t'/\CN m' ((a.1,(a.2.1,a.2.2)),(n:Int),u,true)=some u':=by
 intro K
 induction K with
 |zero=>intro t vs u _ _ h;omega
 |succ K ih=>
  intro t vs u hR hl hmu m m' hm hm'
  obtain⟨m,rfl⟩: ∃q,m=q+1:=⟨m-1,by omega⟩
  obtain⟨m',rfl⟩: ∃q,m'=q+1:=⟨m'-1,by omega⟩
  obtain⟨⟨t',vs',c'⟩,⟨u',g⟩,⟨⟨hR',hl',hc,hg,hmu'⟩,hF⟩,h1,h2⟩:=JM hN ha hb (mu0:=mu3 u) (q:=(t,vs,false)) (r:=(u,false)) ⟨hR,hl,rfl,by simp,Nat.le_refl _⟩
  dsimp only at hR' hl' hc hg hmu' h1 h2 hF
  have hlen:((t.length:Nat):Int)=(n:Int):=by have:=hR.o4.1;omega
  subst hc
  simp only[B3,CN,if_true,hlen,h1,h2,Option.bind_some]
  cases c' with
  |true=>
   have:=of_decide_eq_true hg.symm
   obtain⟨t2,u2,⟨q1,q2,q3⟩,q4⟩:=ih t' vs' u' hR' hl' (by omega) m m' (by omega) (by omega)
   exact⟨t2,u2,⟨q1,q2,λP hP ht=>q3 P hP (by have:=hP (t,false) ht;rw[←hF]at this;exact this)⟩,q4⟩
  |false=>
   obtain⟨m,rfl⟩: ∃q,m=q+1:=⟨m-1,by omega⟩
   obtain⟨m',rfl⟩: ∃q,m'=q+1:=⟨m'-1,by omega⟩
   have hfix:=(Hs (a:=a) (n:=n) (s:=s) (t,false) (by rw[←hF])).1
   have htt:t'=t:=by rw[hfix]at hF;exact(Prod.mk.inj hF).1
   exact⟨t',u',⟨hR',by rw[htt,hfix],λP _ ht=>by rw[htt];exact ht⟩,by simp[B3],by simp[CN]⟩
end
end T
open Go Go.Va
namespace T
section
variable {a:Net} {n s:Nat} {t:T4} {u:T3}
def V2 (n i j x y:Nat):List Int:=((List.replicate n (0:Int)).set i (x:Int)).set j (y:Int)
def fB (a:Net) (n i j x y:Nat):Bool:=E8 (Cv a [(i:Int),(j:Int)]) (V2 n i j x y)
def Dg (a:Net) (n s i j:Nat):List Bool:=(List.range (s*s)).map λp=>decide (i<j)&&fB a n i j (p/s) (p%s)
def EC (a:Net) (n s:Nat):T3:=(List.range n).map λi=>(List.range n).map (Dg a n s i)
theorem Jo {s p:Nat} (hs:s<=4) (hp:p<s*s):w64 (Int.tdiv (p:Int) (s:Int))=((p/s:Nat):Int)/\Int.tmod (p:Int) (s:Int)=((p%s:Nat):Int):=by
 obtain⟨x,y,rfl,hx,hy⟩:=Ib hp
 obtain⟨h1,h2⟩:=Hb hs hx hy
 rw[h1,h2]
 have e1:(x*s+y)/s=x:=by rw[Nat.mul_comm,Nat.mul_add_div (by omega),Nat.div_eq_of_lt hy];omega
 have e2:(x*s+y)%s=y:=by rw[Nat.mul_comm,Nat.mul_add_mod,Nat.mod_eq_of_lt hy]
 rw[e1,e2];exact⟨rfl,rfl⟩
theorem JH (hN:NetOk a) (ha:a.1=(n:Int)) (hb:a.2.1=(s:Int)) {i j:Nat} (hi:i<n) (hj:j<n) (there row:List (List (List Bool))) (row':List (List Bool)):
  BH Aa ((a.1,(a.2.1,a.2.2)),(n:Int),(s:Int),there,(i:Int),row',(j:Int),List.replicate (Int.toNat (w64 ((s:Int)*(s:Int)))) (false:Bool),Cv a [(i:Int),(j:Int)],0)=
   some ((a.1,(a.2.1,a.2.2)),(n:Int),(s:Int),there,(i:Int),row',(j:Int),Dg a n s i j):=by
 have hn9:n<=9:=by have:=hN.hv;omega
 have hs4:s<=4:=by have:=hN.hn;omega
 have hs0:0<s:=by have:=hN.hn;omega
 have hss:s*s<=4*4:=Nat.mul_le_mul hs4 hs4
 have ess:w64 ((s:Int)*(s:Int))=((s*s:Nat):Int):=by
  have e:(s:Int)*(s:Int)=((s*s:Nat):Int):=by push_cast;rfl
  rw[e,AL (by omega) (by omega)]
 have hsn: ¬((s:Int)=0):=by omega
 rw[ess,Int.toNat_natCast]
 by_cases hij:i<j
 ·have:=Ks (List.range (s*s)) (λm o p=>BH m ((a.1,(a.2.1,a.2.2)),(n:Int),(s:Int),there,(i:Int),row',(j:Int),o,Cv a [(i:Int),(j:Int)],p))
   (λp=>fB a n i j (p/s) (p%s)) (λo=>some ((a.1,(a.2.1,a.2.2)),(n:Int),(s:Int),there,(i:Int),row',(j:Int),o)) (λm o p hp hlo=>?_) (λm o hlo=>?_) (n:=Aa) (out:=List.replicate (s*s) false) (by simp) (by unfold Aa;simp;omega)
  ·have e:Dg a n s i j=(List.range (s*s)).map λp=>fB a n i j (p/s) (p%s):=by
    unfold Dg;simp[hij]
   rw[e];exact this
  ·rw[List.length_range]at hp hlo
   have hpo:p<o.length:=by omega
   have hij':(i:Int)<(j:Int):=by omega
   have hp':(p:Int)<((s*s:Nat):Int):=by omega
   obtain⟨w1,w2⟩:=Jo hs4 hp
   have hlim:0<=(n:Int)/\(n:Int)<=(n:Int)/\(n:Int)<=(lim:Int):=by unfold lim;omega
   have q1:i<(List.replicate n (0:Int)).length:=by simpa using hi
   have q2:j<((List.replicate n (0:Int)).set i ((p/s:Nat):Int)).length:=by simpa using hj
   have hV:((List.replicate n (0:Int)).set i ((p/s:Nat):Int)).set j ((p%s:Nat):Int)=V2 n i j (p/s) (p%s):=rfl
   have hh:=Fu hN (l:=Cv a [(i:Int),(j:Int)]) (Gv hN) G5 (vs:=V2 n i j (p/s) (p%s)) (by unfold V2;simp[ha])
   have e0:E8 (Cv a [(i:Int),(j:Int)]) (V2 n i j (p/s) (p%s))=fB a n i j (p/s) (p%s):=rfl
   simp only[BH,ess,decide_eq_true hp',decide_eq_true hij',if_true,hlim,and_self,ne_eq,hsn,not_false_eq_true,Int.toNat_natCast,Ac,q1,w1,w2,BD,q2,hV,hh,e0,Option.bind_some,hpo,List.getElem_range,Ab (show p<4611686018427387904 by omega)]
  ·simp only[BH,ess,List.length_range]
   rw[if_neg (by simp)]
 ·have hij': ¬(i:Int)<(j:Int):=by omega
  have e:List.replicate (s*s) false=Dg a n s i j:=by
   unfold Dg
   simp only[decide_eq_false hij,Bool.false_and]
   rw[List.map_const',List.length_range]
  obtain⟨f,hf⟩: ∃f,Aa=f+1:=⟨Aa-1,rfl⟩
  rw[hf]
  simp only[BH,ess,decide_eq_false hij',Bool.false_eq_true,if_false,e]
  cases decide ((0:Int)<((s*s:Nat):Int))<;>simp
theorem Ky (hN:NetOk a) (ha:a.1=(n:Int)) (hb:a.2.1=(s:Int)) {i:Nat} (hi:i<n) (there:T3):
  Ct Aa ((a.1,(a.2.1,a.2.2)),(n:Int),(s:Int),there,(i:Int),[],0)=some ((a.1,(a.2.1,a.2.2)),(n:Int),(s:Int),there,(i:Int),(List.range n).map (Dg a n s i)):=by
 have hn9:n<=9:=by have:=hN.hv;omega
 have hs4:s<=4:=by have:=hN.hn;omega
 have hss:s*s<=4*4:=Nat.mul_le_mul hs4 hs4
 have ess:w64 ((s:Int)*(s:Int))=((s*s:Nat):Int):=by
  have e:(s:Int)*(s:Int)=((s*s:Nat):Int):=by push_cast;rfl
  rw[e,AL (by omega) (by omega)]
 have:=CO n (λm o p=>Ct m ((a.1,(a.2.1,a.2.2)),(n:Int),(s:Int),there,(i:Int),o,p)) (λk=>(List.range k).map (Dg a n s i))
  (r:=some ((a.1,(a.2.1,a.2.2)),(n:Int),(s:Int),there,(i:Int),(List.range n).map (Dg a n s i))) (λm j hj=>?_) (λm=>?_) (n:=Aa) (by unfold Aa;omega)
 ·exact this
 ·have key:=JH hN ha hb hi hj there [] ((List.range j).map (Dg a n s i))
  have hw:=ER hN (vars:= [(i:Int),(j:Int)]) (by simp)
  have hj':(j:Int)<(n:Int):=by omega
  have hlim:0<=w64 ((s:Int)*(s:Int))/\w64 ((s:Int)*(s:Int))<=w64 ((s:Int)*(s:Int))/\w64 ((s:Int)*(s:Int))<=(lim:Int):=by rw[ess];unfold lim;omega
  rw[List.range_succ,List.map_append]
  simp only[Ct,decide_eq_true hj',if_true,hlim,and_self,hw,key,Option.bind_some,Ab (show j<4611686018427387904 by omega)]
  rw[if_pos (by unfold lim;simp;omega)];rfl
 ·simp only[Ct]
  rw[if_neg (by simp)]
theorem Kx (hN:NetOk a) (ha:a.1=(n:Int)) (hb:a.2.1=(s:Int)):
  Cs Aa ((a.1,(a.2.1,a.2.2)),(n:Int),(s:Int),[],0)=some ((a.1,(a.2.1,a.2.2)),(n:Int),EC a n s):=by
 have hn9:n<=9:=by have:=hN.hv;omega
 have:=CO n (λm o p=>Cs m ((a.1,(a.2.1,a.2.2)),(n:Int),(s:Int),o,p)) (λk=>(List.range k).map λi=>(List.range n).map (Dg a n s i))
  (r:=some ((a.1,(a.2.1,a.2.2)),(n:Int),EC a n s)) (λm i hi=>?_) (λm=>?_) (n:=Aa) (by unfold Aa;omega)
 ·exact this
 ·have hi':(i:Int)<(n:Int):=by omega
  rw[List.range_succ,List.map_append]
  simp only[Cs,decide_eq_true hi',if_true,Ky hN ha hb hi,Option.bind_some,Ab (show i<4611686018427387904 by omega)]
  rw[if_pos (by unfold lim;simp;omega)];rfl
 ·simp only[Cs]
  rw[if_neg (by simp)];rfl
theorem HP:Ok3 n (s*s) (EC a n s):=by
 unfold EC
 refine⟨by simp,λi hi=>?_⟩
 rw[Ah (by simpa using hi)]
 simp only[List.getElem_map,List.getElem_range]
 refine⟨by simp,λj hj=>?_⟩
 rw[Ah (by simpa using hj)]
 simp[Dg]
theorem F5 {i j x y:Nat} (hij:i<j) (hj:j<n) (hx:x<s) (hy:y<s):r3 (EC a n s) i j (x*s+y)=fB a n i j x y:=by
 have hi:i<n:=by omega
 have hp:=Eh hx hy
 have e1:(x*s+y)/s=x:=by rw[Nat.mul_comm,Nat.mul_add_div (by omega),Nat.div_eq_of_lt hy];omega
 have e2:(x*s+y)%s=y:=by rw[Nat.mul_comm,Nat.mul_add_mod,Nat.mod_eq_of_lt hy]
 have f1:(EC a n s).getD i []=(List.range n).map (Dg a n s i):=by
  unfold EC;rw[Ah (by simpa using hi)];simp
 have f2:((List.range n).map (Dg a n s i)).getD j []=Dg a n s i j:=by
  rw[Ah (by simpa using hj)];simp
 have f3:(Dg a n s i j).getD (x*s+y) false=fB a n i j x y:=by
  rw[Ah (by unfold Dg;simpa using hp)]
  simp[Dg,hij,e1,e2]
 unfold r3
 rw[f1,f2,f3]
end
end T
open Go Go.Va
namespace T
section
variable {a:Net} {n s:Nat} {t:T4} {u:T3}
def PA (n s i:Nat) (t:T4):Prop:=t.length=n/\ ∀i',i'<i->MA n s (t.getD i' [])
def PB (n s i j:Nat) (t:T4):Prop:=PA n s i t/\(t.getD i []).length=n/\ ∀j',j'<j->LI s ((t.getD i []).getD j' [])
def PC (n s i j x:Nat) (t:T4):Prop:=PB n s i j t/\((t.getD i []).getD j []).length=s/\ ∀x',x'<x->(((t.getD i []).getD j []).getD x' []).length=s
theorem PA.set {i:Nat} (h:PA n s i t) (r:T3):PA n s i (t.set i r):=by
 refine⟨by rw[List.length_set];exact h.1,λi' hi'=>?_⟩
 rw[Ap,if_neg (by omega)];exact h.2 i' hi'
theorem PB.set {i j:Nat} (h:PB n s i j t) (hi:i<n) (c:List (List Bool)):PB n s i j (t.set i ((t.getD i []).set j c)):=by
 have hl:=h.1.1
 refine⟨h.1.set _,?_,λj' hj'=>?_⟩
 ·rw[Ap,if_pos ⟨rfl,by omega⟩,List.length_set];exact h.2.1
 ·rw[Ap,if_pos ⟨rfl,by omega⟩,Ap,if_neg (by omega)];exact h.2.2 j' hj'
theorem JK (hN:NetOk a) (ha:a.1=(n:Int)) (hb:a.2.1=(s:Int)) {i j:Nat} (hi:i<n) (hj:j<n) (t18 t19 t32 t33:Int) (h:PC n s i j 0 t):
  ∃t',PC n s i j s t'/\BI Aa ((a.1,(a.2.1,a.2.2)),t,(i:Int),(j:Int),t18,t19,t32,t33,(s:Int),0)=some ((a.1,(a.2.1,a.2.2)),t',(i:Int),t18,t19,t32,t33):=by
 have hs4:s<=4:=by have:=hN.hn;omega
 refine Ig s (λm t p=>BI m ((a.1,(a.2.1,a.2.2)),t,(i:Int),(j:Int),t18,t19,t32,t33,(s:Int),p)) (λx t=>PC n s i j x t)
  (λt'=>some ((a.1,(a.2.1,a.2.2)),t',(i:Int),t18,t19,t32,t33)) ?_ ?_ s 0 Aa t (by omega) (by unfold Aa;omega) h
 ·intro x t hx h
  obtain⟨hB,hl,hr⟩:=h
  have l1:i<t.length:=by rw[hB.1.1];exact hi
  have l2:j<(t.getD i []).length:=by rw[hB.2.1];exact hj
  have l3:x<((t.getD i []).getD j []).length:=by omega
  have hx':(x:Int)<(s:Int):=by omega
  have hlim:0<=(s:Int)/\(s:Int)<=(s:Int)/\(s:Int)<=(lim:Int):=by unfold lim;omega
  refine⟨t.set i ((t.getD i []).set j (((t.getD i []).getD j []).set x (List.replicate s false))),⟨hB.set hi _,?_,λx' hx''=>?_⟩,λm=>?_⟩
  ·rw[Ap,if_pos ⟨rfl,l1⟩,Ap,if_pos ⟨rfl,l2⟩,List.length_set];exact hl
  ·rw[Ap,if_pos ⟨rfl,l1⟩,Ap,if_pos ⟨rfl,l2⟩,Ap]
   split
   ·simp
   ·exact hr x' (by omega)
  ·simp only[BI,hb,decide_eq_true hx',if_true,Ac,Ea,l1,l2,l3,hlim,and_self,Int.toNat_natCast,BD,Ab (show x<4611686018427387904 by omega)]
 ·intro m t _
  simp only[BI]
  rw[if_neg (by simp)]
theorem Kp (hN:NetOk a) (ha:a.1=(n:Int)) (hb:a.2.1=(s:Int)) {i:Nat} (hi:i<n) (t18 t19:Int) (h:PB n s i 0 t):
  ∃t',PB n s i n t'/\BS Aa ((a.1,(a.2.1,a.2.2)),t,(i:Int),t18,t19,(n:Int),0)=some ((a.1,(a.2.1,a.2.2)),t',t18,t19):=by
 have hs4:s<=4:=by have:=hN.hn;omega
 have hn9:n<=9:=by have:=hN.hv;omega
 refine Ig n (λm t p=>BS m ((a.1,(a.2.1,a.2.2)),t,(i:Int),t18,t19,(n:Int),p)) (λj t=>PB n s i j t)
  (λt'=>some ((a.1,(a.2.1,a.2.2)),t',t18,t19)) ?_ ?_ n 0 Aa t (by omega) (by unfold Aa;omega) h
 ·intro j t hj h
  have l1:i<t.length:=by rw[h.1.1];exact hi
  have l2:j<(t.getD i []).length:=by rw[h.2.1];exact hj
  have hj':(j:Int)<(n:Int):=by omega
  have hlim:0<=(s:Int)/\(s:Int)<=(s:Int)/\(s:Int)<=(lim:Int):=by unfold lim;omega
  have hset:=h.set hi (List.replicate s [])
  have k1:i<(t.set i ((t.getD i []).set j (List.replicate s ([]:List Bool)))).length:=by rw[List.length_set];exact l1
  have k2:j<((t.set i ((t.getD i []).set j (List.replicate s ([]:List Bool)))).getD i []).length:=by rw[hset.2.1];exact hj
  have hl:(((t.set i ((t.getD i []).set j (List.replicate s ([]:List Bool)))).getD i []).getD j []).length=s:=by
   rw[Ap,if_pos ⟨rfl,l1⟩,Ap,if_pos ⟨rfl,l2⟩];simp
  obtain⟨t',hC,e⟩:=JK hN ha hb hi hj t18 t19 (n:Int) (j:Int) (t:=t.set i ((t.getD i []).set j (List.replicate s ([]:List Bool)))) ⟨hset,hl,λx' h=>by omega⟩
  refine⟨t',⟨hC.1.1,hC.1.2.1,λj' hj''=>?_⟩,λm=>?_⟩
  ·rcases Nat.lt_or_ge j' j with h'|h'
   ·exact hC.1.2.2 j' h'
   ·have:j'=j:=by omega
    subst this;exact⟨hC.2.1,hC.2.2⟩
  ·rw[hb]at e
   simp only[BS,hb,decide_eq_true hj',if_true,Ac,Ea,l1,l2,hlim,and_self,Int.toNat_natCast,BD,k1,k2,hl,e,Option.bind_some,Ab (show j<4611686018427387904 by omega)]
 ·intro m t _
  simp only[BS]
  rw[if_neg (by simp)]
theorem Ko (hN:NetOk a) (ha:a.1=(n:Int)) (hb:a.2.1=(s:Int)) (h:PA n s 0 t):
  ∃t',Ok4 n s t'/\BR Aa ((a.1,(a.2.1,a.2.2)),t,(n:Int),0)=some ((a.1,(a.2.1,a.2.2)),t'):=by
 have hn9:n<=9:=by have:=hN.hv;omega
 refine Ig n (λm t p=>BR m ((a.1,(a.2.1,a.2.2)),t,(n:Int),p)) (λi t=>PA n s i t)
  (λt'=>some ((a.1,(a.2.1,a.2.2)),t')) ?_ ?_ n 0 Aa t (by omega) (by unfold Aa;omega) h
 ·intro i t hi h
  have l1:i<t.length:=by rw[h.1];exact hi
  have hi':(i:Int)<(n:Int):=by omega
  have hlim:0<=(n:Int)/\(n:Int)<=(n:Int)/\(n:Int)<=(lim:Int):=by unfold lim;omega
  have k1:i<(t.set i (List.replicate n ([]:List (List Bool)))).length:=by rw[List.length_set];exact l1
  have hl:((t.set i (List.replicate n ([]:List (List Bool)))).getD i []).length=n:=by
   rw[Ap,if_pos ⟨rfl,l1⟩];simp
  obtain⟨t',hB,e⟩:=Kp hN ha hb hi (n:Int) (i:Int) (t:=t.set i (List.replicate n ([]:List (List Bool)))) ⟨h.set _,hl,λj' h=>by omega⟩
  refine⟨t',⟨hB.1.1,λi' hi''=>?_⟩,λm=>?_⟩
  ·rcases Nat.lt_or_ge i' i with h'|h'
   ·exact hB.1.2 i' h'
   ·have:i'=i:=by omega
    subst this;exact⟨hB.2.1,hB.2.2⟩
  ·rw[ha]at e
   simp only[BR,ha,decide_eq_true hi',if_true,Ac,Ea,l1,hlim,and_self,Int.toNat_natCast,BD,k1,hl,e,Option.bind_some,Ab (show i<4611686018427387904 by omega)]
 ·intro m t _
  simp only[BR]
  rw[if_neg (by simp)]
def Lt4 (i' j' x' y' i j x y:Nat):Prop:=i'<i∨(i'=i/\(j'<j∨(j'=j/\(x'<x∨(x'=x/\y'<y)))))
theorem KQ {i' j' x' y' i j x y:Nat} (h:Lt4 i' j' x' y' i j x (y+1)) (e: ¬(i=i'/\j=j'/\x=x'/\y=y')):Lt4 i' j' x' y' i j x y:=by
 unfold Lt4 at h⊢
 rcases h with h|⟨h1,h|⟨h2,h|⟨h3,h⟩⟩⟩
 ·exact .inl h
 ·exact .inr ⟨h1,.inl h⟩
 ·exact .inr ⟨h1,.inr ⟨h2,.inl h⟩⟩
 ·exact .inr ⟨h1,.inr ⟨h2,.inr ⟨h3,by omega⟩⟩⟩
def ZD (a:Net) (n s:Nat) (i j x y:Nat) (q:T4×List Int):Prop:=Ok4 n s q.1/\q.2.length=n/\
 ∀i' j' x' y',i'<j'->j'<n->x'<s->y'<s->Lt4 i' j' x' y' i j x y->r4 q.1 i' j' x' y'=fB a n i' j' x' y'/\r4 q.1 j' i' y' x'=fB a n i' j' x' y'
theorem Kw (hN:NetOk a) (ha:a.1=(n:Int)) (hb:a.2.1=(s:Int)) {i j x:Nat} (hij:i<j) (hj:j<n) (hx:x<s) (t75 t76:Int) {q:T4×List Int} (h:ZD a n s i j x 0 q):
  ∃q',ZD a n s i j (x+1) 0 q'/\BM Aa ((a.1,(a.2.1,a.2.2)),q.1,q.2,(i:Int),(j:Int),Cv a [(i:Int),(j:Int)],(x:Int),0,t75,t76)=
   some ((a.1,(a.2.1,a.2.2)),q'.1,q'.2,(i:Int),(j:Int),Cv a [(i:Int),(j:Int)],(x:Int),t75,t76):=by
 have hs4:s<=4:=by have:=hN.hn;omega
 have hi:i<n:=by omega
 have key:=Ig s (λm (q:T4×List Int) p=>BM m ((a.1,(a.2.1,a.2.2)),q.1,q.2,(i:Int),(j:Int),Cv a [(i:Int),(j:Int)],(x:Int),p,t75,t76)) (λy q=>ZD a n s i j x y q)
  (λq'=>some ((a.1,(a.2.1,a.2.2)),q'.1,q'.2,(i:Int),(j:Int),Cv a [(i:Int),(j:Int)],(x:Int),t75,t76)) ?_ ?_ s 0 Aa q (by omega) (by unfold Aa;omega) h
 ·obtain⟨q',⟨h1,h2,h3⟩,e⟩:=key
  refine⟨q',⟨h1,h2,λi' j' x' y' g1 g2 g3 g4 g5=>h3 i' j' x' y' g1 g2 g3 g4 ?_⟩,e⟩
  unfold Lt4 at g5⊢;omega
 ·rintro y ⟨t,vs⟩ hy ⟨h4,hl,hd⟩
  dsimp only at h4 hl hd⊢
  obtain⟨a1,a2,a3,a4⟩:=h4.at hi hj hx
  obtain⟨b1,b2,b3,b4⟩:=h4.at hj hi hy
  have a5:y<(((t.getD i []).getD j []).getD x []).length:=by omega
  have d1:i<vs.length:=by omega
  have d2:j<(vs.set i (x:Int)).length:=by simp;omega
  have hl2:((vs.set i (x:Int)).set j (y:Int)).length=n:=by simpa using hl
  have v1:Aq ((vs.set i (x:Int)).set j (y:Int)) (i:Int)=(x:Int):=by rw[Aw d2,if_neg (by omega),Aw d1,if_pos rfl]
  have v2:Aq ((vs.set i (x:Int)).set j (y:Int)) (j:Int)=(y:Int):=by rw[Aw d2,if_pos rfl]
  have hsat:=EO hN (l:=Cv a [(i:Int),(j:Int)]) (Gv hN) G5 (vs:=(vs.set i (x:Int)).set j (y:Int)) (by rw[hl2,ha])
  have hcong:E8 (Cv a [(i:Int),(j:Int)]) ((vs.set i (x:Int)).set j (y:Int))=fB a n i j x y:=by
   refine Hv λv hv=>?_
   have q1:i<(List.replicate n (0:Int)).length:=by simpa using hi
   have q2:j<((List.replicate n (0:Int)).set i (x:Int)).length:=by simpa using hj
   simp only[List.mem_cons,List.not_mem_nil,or_false]at hv
   unfold V2
   rcases hv with rfl|rfl
   ·rw[v1,Aw q2,if_neg (by omega),Aw q1,if_pos rfl]
   ·rw[v2,Aw q2,if_pos rfl]
  rw[hcong]at hsat
  have h5:=E7 h4 (i:=i) (j:=j) (x:=x) (y:=y) (b:=fB a n i j x y)
  obtain⟨m1,m2,m3,m4⟩:=h5.at hj hi hy
  have m5:x<((((s4 t i j x y (fB a n i j x y)).getD j []).getD i []).getD y []).length:=by omega
  have es:t.set i ((t.getD i []).set j (((t.getD i []).getD j []).set x ((((t.getD i []).getD j []).getD x []).set y (fB a n i j x y))))=s4 t i j x y (fB a n i j x y):=rfl
  have es2:(s4 t i j x y (fB a n i j x y)).set j (((s4 t i j x y (fB a n i j x y)).getD j []).set i ((((s4 t i j x y (fB a n i j x y)).getD j []).getD i []).set y (((((s4 t i j x y (fB a n i j x y)).getD j []).getD i []).getD y []).set x (fB a n i j x y))))=s4 (s4 t i j x y (fB a n i j x y)) j i y x (fB a n i j x y):=rfl
  have hy':(y:Int)<(s:Int):=by omega
  refine⟨(s4 (s4 t i j x y (fB a n i j x y)) j i y x (fB a n i j x y),(vs.set i (x:Int)).set j (y:Int)),⟨E7 h5,hl2,λi' j' x' y' g1 g2 g3 g4 g5=>?_⟩,λm=>?_⟩
  ·dsimp only
   rw[Fq h5 hj hi hy hx,Fq h4 hi hj hx hy,Fq h5 hj hi hy hx,Fq h4 hi hj hx hy]
   by_cases e:i=i'/\j=j'/\x=x'/\y=y'
   ·obtain⟨rfl,rfl,rfl,rfl⟩:=e;simp
   ·have e4: ¬(j=i'/\i=j'/\y=x'/\x=y'):=by omega
    have e5: ¬(i=j'/\j=i'/\x=y'/\y=x'):=by omega
    have e6: ¬(j=j'/\i=i'/\y=y'/\x=x'):=by omega
    simp only[if_neg e,if_neg e4,if_neg e5,if_neg e6]
    exact hd i' j' x' y' g1 g2 g3 g4 (KQ g5 e)
  ·simp only[BM,hb,decide_eq_true hy',if_true,Ac,Ea,BD,d1,d2,hsat,Option.bind_some,a1,a2,a3,b1,b2,b3,a5,es,m5,es2,Ab (show y<4611686018427387904 by omega)]
 ·rintro m ⟨t,vs⟩ _
  simp only[BM,hb]
  rw[if_neg (by simp)]
theorem Kv (hN:NetOk a) (ha:a.1=(n:Int)) (hb:a.2.1=(s:Int)) {i j:Nat} (hij:i<j) (hj:j<n) (t75 t76:Int) {q:T4×List Int} (h:ZD a n s i j 0 0 q):
  ∃q',ZD a n s i (j+1) 0 0 q'/\BL Aa ((a.1,(a.2.1,a.2.2)),q.1,q.2,(i:Int),(j:Int),Cv a [(i:Int),(j:Int)],0,t75,t76)=
   some ((a.1,(a.2.1,a.2.2)),q'.1,q'.2,(i:Int),(j:Int),t75,t76):=by
 have hs4:s<=4:=by have:=hN.hn;omega
 have key:=Ig s (λm (q:T4×List Int) p=>BL m ((a.1,(a.2.1,a.2.2)),q.1,q.2,(i:Int),(j:Int),Cv a [(i:Int),(j:Int)],p,t75,t76)) (λx q=>ZD a n s i j x 0 q)
  (λq'=>some ((a.1,(a.2.1,a.2.2)),q'.1,q'.2,(i:Int),(j:Int),t75,t76)) ?_ ?_ s 0 Aa q (by omega) (by unfold Aa;omega) h
 ·obtain⟨q',⟨h1,h2,h3⟩,e⟩:=key
  refine⟨q',⟨h1,h2,λi' j' x' y' g1 g2 g3 g4 g5=>h3 i' j' x' y' g1 g2 g3 g4 ?_⟩,e⟩
  unfold Lt4 at g5⊢;omega
 ·rintro x ⟨t,vs⟩ hx h
  obtain⟨q',h1,e⟩:=Kw hN ha hb hij hj hx t75 t76 h
  have hx':(x:Int)<(s:Int):=by omega
  refine⟨q',h1,λm=>?_⟩
  dsimp only at e⊢
  rw[hb]at e
  simp only[BL,hb,decide_eq_true hx',if_true,e,Option.bind_some,Ab (show x<4611686018427387904 by omega)]
 ·rintro m ⟨t,vs⟩ _
  simp only[BL,hb]
  rw[if_neg (by simp)]
theorem Ku (hN:NetOk a) (ha:a.1=(n:Int)) (hb:a.2.1=(s:Int)) {i:Nat} (hi:i<n) (t75 t76:Int) {q:T4×List Int} (h:ZD a n s i 0 0 0 q):
  ∃q',ZD a n s (i+1) 0 0 0 q'/\BK Aa ((a.1,(a.2.1,a.2.2)),q.1,q.2,(i:Int),((i+1:Nat):Int),t75,t76)=
   some ((a.1,(a.2.1,a.2.2)),q'.1,q'.2,t75,t76):=by
 have hn9:n<=9:=by have:=hN.hv;omega
 have key:=Ig n (λm (q:T4×List Int) p=>BK m ((a.1,(a.2.1,a.2.2)),q.1,q.2,(i:Int),p,t75,t76)) (λj q=>i<j/\ZD a n s i j 0 0 q)
  (λq'=>some ((a.1,(a.2.1,a.2.2)),q'.1,q'.2,t75,t76)) ?_ ?_ (n-(i+1)) (i+1) Aa q (by omega) (by unfold Aa;omega) ⟨by omega,h.1,h.2.1,λi' j' x' y' g1 g2 g3 g4 g5=>h.2.2 i' j' x' y' g1 g2 g3 g4 (by unfold Lt4 at g5⊢;omega)⟩
 ·obtain⟨q',⟨_,h1,h2,h3⟩,e⟩:=key
  refine⟨q',⟨h1,h2,λi' j' x' y' g1 g2 g3 g4 g5=>h3 i' j' x' y' g1 g2 g3 g4 ?_⟩,e⟩
  unfold Lt4 at g5⊢;omega
 ·rintro j ⟨t,vs⟩ hj ⟨hij,h⟩
  obtain⟨q',h1,e⟩:=Kv hN ha hb hij hj t75 t76 h
  have hw:=FM hN (vars:= [(i:Int),(j:Int)]) (by simp)
  have hj':(j:Int)<(n:Int):=by omega
  refine⟨q',⟨by omega,h1⟩,λm=>?_⟩
  dsimp only at e⊢
  rw[ha]at e hw
  simp only[BK,ha,decide_eq_true hj',if_true,hw,e,Option.bind_some,Ab (show j<4611686018427387904 by omega)]
 ·rintro m ⟨t,vs⟩ _
  simp only[BK,ha]
  rw[if_neg (by simp)]
theorem Kt (hN:NetOk a) (ha:a.1=(n:Int)) (hb:a.2.1=(s:Int)) {q:T4×List Int} (h:ZD a n s 0 0 0 0 q):
  ∃q',ZD a n s n 0 0 0 q'/\BJ Aa ((a.1,(a.2.1,a.2.2)),q.1,q.2,(n:Int),0)=some q'.1:=by
 have hn9:n<=9:=by have:=hN.hv;omega
 refine Ig n (λm (q:T4×List Int) p=>BJ m ((a.1,(a.2.1,a.2.2)),q.1,q.2,(n:Int),p)) (λi q=>ZD a n s i 0 0 0 q)
  (λq'=>some q'.1) ?_ ?_ n 0 Aa q (by omega) (by unfold Aa;omega) h
 ·rintro i ⟨t,vs⟩ hi h
  obtain⟨q',h1,e⟩:=Ku hN ha hb hi (n:Int) (i:Int) h
  have hi':(i:Int)<(n:Int):=by omega
  refine⟨q',h1,λm=>?_⟩
  dsimp only at e⊢
  simp only[BJ,decide_eq_true hi',if_true,e,Option.bind_some,Ab (show i<4611686018427387904 by omega)]
 ·rintro m ⟨t,vs⟩ _
  simp only[BJ]
  rw[if_neg (by simp)]
theorem Gk (hN:NetOk a) (ha:a.1=(n:Int)) (hb:a.2.1=(s:Int)): ∃t,Rel34 n s t (EC a n s)/\Eu (a.1,(a.2.1,a.2.2))=some t:=by
 have hlim:0<=(n:Int)/\(n:Int)<=(n:Int)/\(n:Int)<=(lim:Int):=by have:=hN.hv;unfold lim;omega
 obtain⟨t1,h1,e1⟩:=Ko hN ha hb (t:=List.replicate n ([]:T3)) ⟨by simp,λi' h=>by omega⟩
 obtain⟨⟨t2,vs⟩,h2,e2⟩:=Kt hN ha hb (q:=(t1,List.replicate n (0:Int))) ⟨h1,by simp,λi' j' x' y' _ _ _ _ g=>by unfold Lt4 at g;omega⟩
 refine⟨t2,⟨h2.1,HP,λi j x y hij hj hx hy=>?_⟩,?_⟩
 ·rw[F5 hij hj hx hy]
  exact h2.2.2 i j x y hij hj hx hy (by unfold Lt4;omega)
 ·have hl1:((t1.length:Nat):Int)=(n:Int):=by rw[h1.1]
  rw[ha]at e1 e2
  dsimp only at e2
  unfold Eu
  simp only[ha,hlim,and_self,if_true,Int.toNat_natCast,List.length_replicate,e1,Option.bind_some,hl1,e2]
theorem HY (hN:NetOk a) (ha:a.1=(n:Int)) (hb:a.2.1=(s:Int)): ∃t u,(Rel34 n s t u/\(Gb a n s (t,false)).2=false/\ ∀P:T4->Prop,(∀q,P q.1->P (Gb a n s q).1)->(∀t1,Rel34 n s t1 (EC a n s)->P t1)->P t)/\BF (a.1,(a.2.1,a.2.2))=some t/\Df (a.1,(a.2.1,a.2.2))=some u:=by
 have hn9:n<=9:=by have:=hN.hv;omega
 have hs4:s<=4:=by have:=hN.hn;omega
 have hlim:0<=(n:Int)/\(n:Int)<=(n:Int)/\(n:Int)<=(lim:Int):=by unfold lim;omega
 obtain⟨t1,hR,e1⟩:=Gk hN ha hb
 have hmu:mu3 (EC a n s)<=n*(n*(s*s)):=L8 HP
 have hss:s*s<=4*4:=Nat.mul_le_mul hs4 hs4
 have hb1:n*(n*(s*s))<=9*(9*(4*4)):=Nat.mul_le_mul hn9 (Nat.mul_le_mul hn9 hss)
 obtain⟨t2,u2,⟨h1,h2,h3⟩,e2,e3⟩:=JG hN ha hb 2000 t1 (List.replicate n (0:Int)) (EC a n s) hR (by simp) (by omega) Aa Aa (by unfold Aa;omega) (by unfold Aa;omega)
 have e4:=Kx hN ha hb
 refine⟨t2,u2,⟨h1,h2,λP hP h0=>h3 P hP (h0 t1 hR)⟩,?_,?_⟩
 ·rw[ha]at e1 e2
  unfold BF
  simp only[ha,e1,Option.bind_some,hlim,and_self,if_true,Int.toNat_natCast,e2]
 ·rw[ha,hb]at e3 e4
  unfold Df
  simp only[ha,hb,e4,Option.bind_some,e3]
theorem IH (hN:NetOk a) (ha:a.1=(n:Int)) (hb:a.2.1=(s:Int)): ∃t u,Rel34 n s t u/\BF (a.1,(a.2.1,a.2.2))=some t/\Df (a.1,(a.2.1,a.2.2))=some u:=by
 obtain⟨t,u,⟨h,_⟩,e1,e2⟩:=HY hN ha hb
 exact⟨t,u,h,e1,e2⟩
end
end T
open Go Go.Va
namespace T
abbrev Pr:=Int×Int
def prP (s p:Nat):Pr:=(((p/s:Nat):Int),((p%s:Nat):Int))
def fL (u:T3) (s i j k:Nat):List Pr:=((List.range k).filter (r3 u i j)).map (prP s)
def EK (u:T3) (s i k:Nat):List (List Pr):=(List.range' (i+1) (k-(i+1))).map λj=>fL u s i j (s*s)
def Ydm (u:T3) (n s k:Nat):List (List Pr):=(List.range k).flatMap λi=>EK u s i n
section
variable {a:Net} {n s:Nat} {t:T4} {u:T3}
theorem Jp {i j k:Nat}:fL u s i j (k+1)=if r3 u i j k then fL u s i j k++ [prP s k]else fL u s i j k:=by
 unfold fL
 rw[List.range_succ,List.filter_append,List.map_append]
 cases h:r3 u i j k<;>simp[h]
theorem IY {i j k:Nat}:(fL u s i j k).length<=k:=by
 unfold fL
 rw[List.length_map]
 exact Nat.le_trans (List.length_filter_le _ _) (by simp)
theorem H5 {i k:Nat} (h:i<k):EK u s i (k+1)=EK u s i k++ [fL u s i k (s*s)]:=by
 unfold EK
 rw[show k+1-(i+1)=(k-(i+1))+1 by omega,List.range'_1_concat,List.map_append,show i+1+(k-(i+1))=k by omega];rfl
theorem Hu {i k:Nat}:(EK u s i k).length<=k:=by unfold EK;simp
theorem H6 {i:Nat}:EK u s i (i+1)= []:=by unfold EK;simp
theorem E0 {k:Nat}:Ydm u n s (k+1)=Ydm u n s k++EK u s k n:=by
 unfold Ydm;rw[List.range_succ,List.flatMap_append];simp
theorem FB: ∀ {k:Nat},(Ydm u n s k).length<=k*n
 |0=>by simp[Ydm]
 |k+1=>by
  rw[E0,List.length_append,Nat.succ_mul]
  exact Nat.add_le_add FB Hu
theorem Kf {l:List Pr} (h:l∈Ydm u n s n):l.length<=s*s:=by
 unfold Ydm EK at h
 rw[List.mem_flatMap]at h
 obtain⟨i,_,h⟩:=h
 rw[List.mem_map]at h
 obtain⟨j,_,rfl⟩:=h
 exact IY
theorem G0 (hs:0<s) (hs4:s<=4) (hO:Ok3 n (s*s) u) {i j:Nat} (hi:i<n) (hj:j<n):Fk ((u.getD i []).getD j []) (s:Int)=some (fL u s i j (s*s)):=by
 have hss:s*s<=4*4:=Nat.mul_le_mul hs4 hs4
 obtain⟨_,_,hl⟩:=hO.at hi hj
 have hsn: ¬((s:Int)=0):=by omega
 unfold Fk
 obtain⟨c,hc⟩: ∃c,(u.getD i []).getD j []=c:=⟨_,rfl⟩
 have hr: ∀p,r3 u i j p=c.getD p false:=λp=>by unfold r3;rw[hc]
 rw[hc]at hl⊢
 have:=CO (s*s) (λm o p=>CF m (c,(s:Int),o,p)) (λk=>fL u s i j k) (r:=some (fL u s i j (s*s))) (λm p hp=>?_) (λm=>?_) (n:=Aa) (by unfold Aa;omega)
 ·have e:fL u s i j 0= []:=rfl
  rw[e]at this
  simp only[this,Option.bind_some]
 ·have hpl:p<c.length:=by omega
  have hlen:=IY (u:=u) (s:=s) (i:=i) (j:=j) (k:=p)
  obtain⟨w1,w2⟩:=Jo hs4 hp
  have hlim:(fL u s i j p).length+ [(((p/s:Nat):Int),((p%s:Nat):Int))].length<=lim:=by unfold lim;simp;omega
  have hp':(p:Int)<(c.length:Int):=by omega
  rw[Jp]
  simp only[CF,decide_eq_true hp',if_true,Ac,hpl,Ea,←hr,ne_eq,hsn,not_false_eq_true,w1,w2,hlim,Ab (show p<4611686018427387904 by omega)]
  cases r3 u i j p<;>rfl
 ·simp only[CF,hl]
  rw[if_neg (by simp)]
theorem JW (hs4:s<=4) (hR:Rel34 n s t u) {i j x:Nat} (hij:i<j) (hj:j<n) (hx:x<s) (lists:List (List Pr)) (t16 t17 t36:Int) (t35:List (List Bool)):
  Bw Aa ((a.1,(a.2.1,a.2.2)),t,lists,(i:Int),(j:Int),fL u s i j (x*s),(x:Int),t16,t17,t35,t36,(x:Int),(((t.getD i []).getD j []).getD x []),(s:Int),0)=
   some ((a.1,(a.2.1,a.2.2)),t,lists,(i:Int),(j:Int),fL u s i j ((x+1)*s),t16,t17,t35,t36,(x:Int)):=by
 have hi:i<n:=by omega
 have hss:s*s<=4*4:=Nat.mul_le_mul hs4 hs4
 obtain⟨_,_,_,hl⟩:=hR.o4.at hi hj hx
 obtain⟨c,hc⟩: ∃c,((t.getD i []).getD j []).getD x []=c:=⟨_,rfl⟩
 have hr: ∀y,y<s->c.getD y false=r3 u i j (x*s+y):=λy hy=>by rw[←hc];exact(hR.eq i j x y hij hj hx hy).1
 rw[hc]at hl⊢
 have:=CO s (λm o p=>Bw m ((a.1,(a.2.1,a.2.2)),t,lists,(i:Int),(j:Int),o,(x:Int),t16,t17,t35,t36,(x:Int),c,(s:Int),p)) (λk=>fL u s i j (x*s+k))
  (r:=some ((a.1,(a.2.1,a.2.2)),t,lists,(i:Int),(j:Int),fL u s i j ((x+1)*s),t16,t17,t35,t36,(x:Int))) (λm y hy=>?_) (λm=>?_) (n:=Aa) (by unfold Aa;omega)
 ·exact this
 ·have hyl:y<c.length:=by omega
  have hp:=Eh hx hy
  have hlen:=IY (u:=u) (s:=s) (i:=i) (j:=j) (k:=x*s+y)
  have hlim:(fL u s i j (x*s+y)).length+ [((x:Int),(y:Int))].length<=lim:=by unfold lim;simp;omega
  have hy':(y:Int)<(s:Int):=by omega
  have e1:(x*s+y)/s=x:=by rw[Nat.mul_comm,Nat.mul_add_div (by omega),Nat.div_eq_of_lt hy];omega
  have e2:(x*s+y)%s=y:=by rw[Nat.mul_comm,Nat.mul_add_mod,Nat.mod_eq_of_lt hy]
  have e3:prP s (x*s+y)=((x:Int),(y:Int)):=by unfold prP;rw[e1,e2]
  rw[show x*s+(y+1)=x*s+y+1 by omega,Jp,e3]
  simp only[Bw,decide_eq_true hy',if_true,Ac,hyl,Ea,hr y hy,hlim,Ab (show y<4611686018427387904 by omega)]
  cases r3 u i j (x*s+y)<;>rfl
 ·simp only[Bw]
  rw[if_neg (by simp),Nat.succ_mul]
theorem JV (hs4:s<=4) (hR:Rel34 n s t u) {i j:Nat} (hij:i<j) (hj:j<n) (lists:List (List Pr)) (t16 t17:Int):
  BU Aa ((a.1,(a.2.1,a.2.2)),t,lists,(i:Int),(j:Int),[],t16,t17,(t.getD i []).getD j [],(s:Int),0)=
   some ((a.1,(a.2.1,a.2.2)),t,lists,(i:Int),(j:Int),fL u s i j (s*s),t16,t17):=by
 have hi:i<n:=by omega
 have:=CO s (λm o p=>BU m ((a.1,(a.2.1,a.2.2)),t,lists,(i:Int),(j:Int),o,t16,t17,(t.getD i []).getD j [],(s:Int),p)) (λk=>fL u s i j (k*s))
  (r:=some ((a.1,(a.2.1,a.2.2)),t,lists,(i:Int),(j:Int),fL u s i j (s*s),t16,t17)) (λm x hx=>?_) (λm=>?_) (n:=Aa) (by unfold Aa;omega)
 ·have e:fL u s i j (0*s)= []:=by rw[Nat.zero_mul];rfl
  rw[e]at this;exact this
 ·obtain⟨_,_,h3,h4⟩:=hR.o4.at hi hj hx
  have key:=JW (a:=a) hs4 hR hij hj hx lists t16 t17 (s:Int) ((t.getD i []).getD j [])
  have hx':(x:Int)<(s:Int):=by omega
  simp only[BU,decide_eq_true hx',if_true,Ac,h3,Ea,h4,key,Option.bind_some,Ab (show x<4611686018427387904 by omega)]
 ·simp only[BU]
  rw[if_neg (by simp)]
theorem KP (hn9:n<=9) (hs4:s<=4) (ha:a.1=(n:Int)) (hR:Rel34 n s t u) {i:Nat} (hi:i<n) (lists:List (List Pr)) (hll:lists.length<=1000) (t16 t17:Int):
  B6 Aa ((a.1,(a.2.1,a.2.2)),t,lists,(i:Int),((i+1:Nat):Int),t16,t17)=some ((a.1,(a.2.1,a.2.2)),t,lists++EK u s i n,t16,t17):=by
 obtain⟨o,ho,e⟩:=Ig n (λm o p=>B6 m ((a.1,(a.2.1,a.2.2)),t,o,(i:Int),p,t16,t17)) (λk o=>i<k/\o=lists++EK u s i k) (λo=>some ((a.1,(a.2.1,a.2.2)),t,o,t16,t17))
  (λj o hj ⟨hij,ho⟩=>⟨lists++EK u s i (j+1),⟨by omega,rfl⟩,λm=>by
   subst ho
   have hj':(j:Int)<(n:Int):=by omega
   have l1:i<t.length:=by rw[hR.o4.1];exact hi
   have l2:j<(t.getD i []).length:=by rw[(hR.o4.2 i hi).1];exact hj
   have l3:=((hR.o4.2 i hi).2 j hj).1
   have hlen:=Hu (u:=u) (s:=s) (i:=i) (k:=j)
   have hlim:(lists++EK u s i j).length+ [fL u s i j (s*s)].length<=lim:=by unfold lim;simp;omega
   have key:=JV (a:=a) hs4 hR hij hj (lists++EK u s i j) t16 t17
   rw[ha]at key
   rw[H5 hij]
   simp only[B6,ha,decide_eq_true hj',if_true,Ac,l1,l2,Ea,l3,key,Option.bind_some,hlim,Ab (show j<4611686018427387904 by omega),List.append_assoc]⟩)
  (λm o _=>by simp only[B6,ha];rw[if_neg (by simp)]) (n-(i+1)) (i+1) Aa lists (by omega) (by unfold Aa;omega) ⟨by omega,by rw[H6,List.append_nil]⟩
 rw[e,ho.2]
theorem EN (hN:NetOk a) (ha:a.1=(n:Int)) (hb:a.2.1=(s:Int)) (hR:Rel34 n s t u) (hm:BF (a.1,(a.2.1,a.2.2))=some t):D5 (a.1,(a.2.1,a.2.2))=some (Ydm u n s n):=by
 have hn9:n<=9:=by have:=hN.hv;omega
 have hs4:s<=4:=by have:=hN.hn;omega
 have hl:((t.length:Nat):Int)=(n:Int):=by rw[hR.o4.1]
 have:=CO n (λm o p=>CJ m ((a.1,(a.2.1,a.2.2)),t,o,(n:Int),p)) (λk=>Ydm u n s k) (r:=some (Ydm u n s n)) (λm i hi=>?_) (λm=>?_) (n:=Aa) (by unfold Aa;omega)
 ·have e:Ydm u n s 0= []:=rfl
  rw[e]at this
  unfold D5
  dsimp only at this⊢
  simp only[hm,Option.bind_some,hl,this]
 ·have hlen:=FB (u:=u) (n:=n) (s:=s) (k:=i)
  have hle:i*n<=9*9:=Nat.mul_le_mul (by omega) hn9
  have key:=KP hn9 hs4 ha hR hi (Ydm u n s i) (by omega) (n:Int) (i:Int)
  have hi':(i:Int)<(n:Int):=by omega
  rw[E0]
  simp only[CJ,decide_eq_true hi',if_true,key,Option.bind_some,Ab (show i<4611686018427387904 by omega)]
 ·simp only[CJ]
  rw[if_neg (by simp)]
theorem IR (hn9:n<=9) (hs0:0<s) (hs4:s<=4) (ha:a.1=(n:Int)) (hb:a.2.1=(s:Int)) (hO:Ok3 n (s*s) u) {i:Nat} (hi:i<n) (lists:List (List Pr)) (hll:lists.length<=1000):
  BC Aa ((a.1,(a.2.1,a.2.2)),lists,u,(i:Int),((i+1:Nat):Int))=some ((a.1,(a.2.1,a.2.2)),lists++EK u s i n,u,(i:Int)):=by
 obtain⟨o,ho,e⟩:=Ig n (λm o p=>BC m ((a.1,(a.2.1,a.2.2)),o,u,(i:Int),p)) (λk o=>i<k/\o=lists++EK u s i k) (λo=>some ((a.1,(a.2.1,a.2.2)),o,u,(i:Int)))
  (λj o hj ⟨hij,ho⟩=>⟨lists++EK u s i (j+1),⟨by omega,rfl⟩,λm=>by
   subst ho
   have hj':(j:Int)<(n:Int):=by omega
   obtain⟨l1,l2,l3⟩:=hO.at hi hj
   have hlen:=Hu (u:=u) (s:=s) (i:=i) (k:=j)
   have hlim:(lists++EK u s i j).length+ [fL u s i j (s*s)].length<=lim:=by unfold lim;simp;omega
   have key:=G0 hs0 hs4 hO hi hj
   rw[H5 hij]
   simp only[BC,ha,hb,decide_eq_true hj',if_true,Ac,l1,l2,Ea,key,Option.bind_some,hlim,Ab (show j<4611686018427387904 by omega),List.append_assoc]⟩)
  (λm o _=>by simp only[BC,ha];rw[if_neg (by simp)]) (n-(i+1)) (i+1) Aa lists (by omega) (by unfold Aa;omega) ⟨by omega,by rw[H6,List.append_nil]⟩
 rw[e,ho.2]
theorem IQ (hN:NetOk a) (ha:a.1=(n:Int)) (hb:a.2.1=(s:Int)) (hO:Ok3 n (s*s) u):BB Aa ((a.1,(a.2.1,a.2.2)),[],u,0)=some (Ydm u n s n):=by
 have hn9:n<=9:=by have:=hN.hv;omega
 have hs4:s<=4/\0<s:=by have:=hN.hn;omega
 have:=CO n (λm o p=>BB m ((a.1,(a.2.1,a.2.2)),o,u,p)) (λk=>Ydm u n s k) (r:=some (Ydm u n s n)) (λm i hi=>?_) (λm=>?_) (n:=Aa) (by unfold Aa;omega)
 ·exact this
 ·have hlen:=FB (u:=u) (n:=n) (s:=s) (k:=i)
  have hle:i*n<=9*9:=Nat.mul_le_mul (by omega) hn9
  have key:=IR hn9 hs4.2 hs4.1 ha hb hO hi (Ydm u n s i) (by omega)
  rw[ha]at key
  have hi':(i:Int)<(n:Int):=by omega
  rw[E0]
  simp only[BB,ha,decide_eq_true hi',if_true,Ab (show i<4611686018427387904 by omega),key,Option.bind_some]
 ·simp only[BB,ha]
  rw[if_neg (by simp)]
def DW (l:List (List Pr)):Bool:=l.all λr=>r.length !=0
theorem GY (h:HF a): ∃R:List (List Pr)×Bool,Bn a=some R/\Dj a=some R/\R.1.length<=81/\ ∀l∈R.1,l.length<=16:=by
 unfold Bn Dj
 rw[Bm (a:=(a.1,(a.2.1,a.2.2))) h,DK (a:=(a.1,(a.2.1,a.2.2))) h,show C1 (a.1,(a.2.1,a.2.2))=C1 a from rfl]
 cases hb:C1 a with
 |false=>exact⟨([],false),by simp,by simp,by simp,by simp⟩
 |true=>
  have hN:=Fh hb
  by_cases h2:a.1<2
  ·exact⟨([],false),by simp[h2],by simp[h2],by simp,by simp⟩
  ·obtain⟨n,ha⟩: ∃n:Nat,a.1=(n:Int):=⟨a.1.toNat,by have:=hN.hv;omega⟩
   obtain⟨s,hs⟩: ∃n:Nat,a.2.1=(n:Int):=⟨a.2.1.toNat,by have:=hN.hn;omega⟩
   have hn9:n<=9:=by have:=hN.hv;omega
   have hs4:s<=4:=by have:=hN.hn;omega
   have hss:s*s<=4*4:=Nat.mul_le_mul hs4 hs4
   obtain⟨t,u,hR,e1,e2⟩:=IH hN ha hs
   have e3:=EN hN ha hs hR e1
   have e4:=IQ hN ha hs hR.o3
   have hlen:=FB (u:=u) (n:=n) (s:=s) (k:=n)
   have hle:n*n<=9*9:=Nat.mul_le_mul hn9 hn9
   refine⟨(Ydm u n s n,true),?_,?_,by dsimp only;omega,λl hl=>by have:=Kf hl;omega⟩
   ·simp only[e3,Option.bind_some,decide_eq_false h2,Bool.not_true,Bool.false_eq_true,if_false]
   ·simp only[e2,e4,Option.bind_some,decide_eq_false h2,Bool.not_true,Bool.false_eq_true,if_false]
end
end T
set_option linter.unusedVariables false
open Go Go.Va
namespace T
def AA:Nat->((Int×Int×(List ((List Int)×Int×(List (List Int)))))×(List (List (List (List Bool))))×(List Int)×Int)->Option ((Int×Int×(List ((List Int)×Int×(List (List Int)))))×(List (List (List (List Bool))))×(List Int))
 |0,_=>none
 |n+1,(t1,t4,t5,t6)=>
 if decide (t6<t1.2.1)then
 if(t5.length:Int)==0 then
 if inb 0 t4 then
 if inb 1 (gd t4 0 [])then
 if inb t6 (gd (gd t4 0 []) 1 [])then
 (FL (gd (gd (gd t4 0 []) 1 []) t6 [])).bind λr3=>
 if decide ((r3.length:Int)>0)then
 if t5.length+ [t6].length<=lim then
 AA n ((t1.1,(t1.2.1,t1.2.2)),t4,t5++ [t6],w64 (t6+1))
 else none
 else
 AA n ((t1.1,(t1.2.1,t1.2.2)),t4,t5,w64 (t6+1))
 else none
 else none
 else none
 else
 some ((t1.1,(t1.2.1,t1.2.2)),t4,t5)
 else
 some ((t1.1,(t1.2.1,t1.2.2)),t4,t5)
def AS:Nat->(Unit×(Int×Int×(List ((List Int)×Int×(List (List Int)))))×(List (List (List (List Bool))))×(List Int)×Int×Int×Bool×Int×Int)->Option ((Int×Int×(List ((List Int)×Int×(List (List Int)))))×(List (List (List (List Bool))))×(List Int)×Int×Int×Bool)
 |0,_=>none
 |n+1,(al74,t1,t4,t5,t7,t8,t9,t75,t76)=>
 if decide (t76<t75)then
 if inb t76 t5 then
 if t9 then
 if inb t76 t4 then
 if inb t7 (gd t4 t76 [])then
 if inb (gd t5 t76 0) (gd (gd t4 t76 []) t7 [])then
 if inb t8 (gd (gd (gd t4 t76 []) t7 []) (gd t5 t76 0) [])then
 AS n ((),(t1.1,(t1.2.1,t1.2.2)),t4,t5,t7,t8,gd (gd (gd (gd t4 t76 []) t7 []) (gd t5 t76 0) []) t8 false,t75,w64 (t76+1))
 else none
 else none
 else none
 else none
 else
 AS n ((),(t1.1,(t1.2.1,t1.2.2)),t4,t5,t7,t8,false,t75,w64 (t76+1))
 else none
 else
 some ((t1.1,(t1.2.1,t1.2.2)),t4,t5,t7,t8,t9)
def AI:Nat->((Int×Int×(List ((List Int)×Int×(List (List Int)))))×(List (List (List (List Bool))))×(List Int)×Int×Int)->Option ((Int×Int×(List ((List Int)×Int×(List (List Int)))))×(List (List (List (List Bool))))×(List Int)×Int)
 |0,_=>none
 |n+1,(t1,t4,t5,t7,t8)=>
 if decide (t8<t1.2.1)then
 if(t5.length:Int)==t7 then
 (AS Aa ((),(t1.1,(t1.2.1,t1.2.2)),t4,t5,t7,t8,true,(t5.length:Int),0)).bind λs5=>
 if s5.2.2.2.2.2 then
 if s5.2.2.1.length+ [s5.2.2.2.2.1].length<=lim then
 AI n ((s5.1.1,(s5.1.2.1,s5.1.2.2)),s5.2.1,s5.2.2.1++ [s5.2.2.2.2.1],s5.2.2.2.1,w64 (s5.2.2.2.2.1+1))
 else none
 else
 AI n ((s5.1.1,(s5.1.2.1,s5.1.2.2)),s5.2.1,s5.2.2.1,s5.2.2.2.1,w64 (s5.2.2.2.2.1+1))
 else
 some ((t1.1,(t1.2.1,t1.2.2)),t4,t5,t7)
 else
 some ((t1.1,(t1.2.1,t1.2.2)),t4,t5,t7)
def An:Nat->((Int×Int×(List ((List Int)×Int×(List (List Int)))))×(List (List (List (List Bool))))×(List Int)×Int)->Option ((Int×Int×(List ((List Int)×Int×(List (List Int)))))×(List Int))
 |0,_=>none
 |n+1,(t1,t4,t5,t7)=>
 if decide (t7<t1.1)then
 if(t5.length:Int)==t7 then
 (AI Aa ((t1.1,(t1.2.1,t1.2.2)),t4,t5,t7,0)).bind λs5=>
 An n ((s5.1.1,(s5.1.2.1,s5.1.2.2)),s5.2.1,s5.2.2.1,w64 (s5.2.2.2+1))
 else
 some ((t1.1,(t1.2.1,t1.2.2)),t5)
 else
 some ((t1.1,(t1.2.1,t1.2.2)),t5)
def BQ (t0:Int×Int×(List ((List Int)×Int×(List (List Int))))):Option ((List Int)×Bool):=
 (B2 (t0.1,(t0.2.1,t0.2.2))).bind λr1=>
 if !r1 then
 some ([],false)
 else
 if decide (t0.1<2)then
 some ([],false)
 else
 (BF (t0.1,(t0.2.1,t0.2.2))).bind λr2=>
 (AA Aa ((t0.1,(t0.2.1,t0.2.2)),r2,[],0)).bind λs3=>
 (An Aa ((s3.1.1,(s3.1.2.1,s3.1.2.2)),s3.2.1,s3.2.2,1)).bind λs4=>
 if decide ((s4.2.length:Int)<s4.1.1)then
 some ([],false)
 else
 some (s4.2,true)
end T
open Go Go.Va
namespace T
theorem MU {β:Type} (N:Nat) (L:Nat->Bool->Int->Option β) (p:Nat->Bool) (f:Bool->Option β)
  (hs: ∀n b (k:Nat),k<N->L (n+1) b k=L n (b||p k) ((k+1:Nat):Int)) (he: ∀n b,L (n+1) b (N:Nat)=f b) {n:Nat} (hn:N<n) (b:Bool):L n b 0=f (b||(List.range N).any p):=by
 have key: ∀(n k:Nat) (b:Bool),k<=N->N-k<n->L n b k=f (b||(List.range' k (N-k)).any p):=by
  intro n
  induction n with
  |zero=>intro k b _ h;omega
  |succ n ih=>
   intro k b hk hn
   rcases Nat.lt_or_ge k N with hlt|hge
   ·rw[hs n b k hlt,ih (k+1) _ hlt (by omega),show N-k=(N-(k+1))+1 by omega,List.range'_succ,List.any_cons,Bool.or_assoc]
   ·have:k=N:=by omega
    subst this;rw[he];simp
 have:=key n 0 b (Nat.zero_le _) (by omega)
 rw[Nat.sub_zero,←List.range_eq_range']at this
 exact this
theorem L6 {bs:List Bool}:decide (((mk bs).length:Int)>0)=(List.range bs.length).any λi=>bs.getD i false:=by
 unfold mk
 rw[List.length_map,Bool.eq_iff_iff,decide_eq_true_eq,List.any_eq_true]
 constructor
 ·intro h
  have h:0<((List.range bs.length).filter λi=>bs.getD i false).length:=by omega
  obtain⟨i,hi⟩:=List.length_pos_iff_exists_mem.1 h
  rw[List.mem_filter]at hi
  exact⟨i,hi.1,hi.2⟩
 ·rintro ⟨i,h1,h2⟩
  have:i∈(List.range bs.length).filter λi=>bs.getD i false:=List.mem_filter.2 ⟨h1,h2⟩
  have:=List.length_pos_of_mem this
  omega
section
variable {a:Net} {n s:Nat} {t:T4} {u:T3}
def cI (o:List Nat):List Int:=o.map λx:Nat=>(x:Int)
theorem GG {o:List Nat} {i:Nat} (h:i<o.length):(cI o).getD i 0=((o.getD i 0:Nat):Int):=by
 unfold cI;rw[Ah (by simpa using h),Ah h];simp
def goB (t:T4) (s:Nat) (o:List Nat) (v x:Nat):Bool:=
 if v=0 then(List.range s).any λy=>r4 t 0 1 x y else(List.range v).all λw=>r4 t w v (o.getD w 0) x
def Bv (t:T4) (s:Nat):Nat->Option (List Nat)
 |0=>some []
 |v+1=>match Bv t s v with
  |none=>none
  |some o=>match (List.range s).find? (goB t s o v)with
   |some x=>some (o++ [x])
   |none=>none
theorem E4: ∀ {v:Nat} {o:List Nat},Bv t s v=some o->o.length=v/\ ∀x∈o,x<s
 |0,o,h=>by cases h;simp
 |v+1,o,h=>by
  simp only[Bv]at h
  split at h
  ·cases h
  ·rename_i o' h'
   obtain⟨g1,g2⟩:=E4 h'
   split at h
   ·rename_i x hx
    cases h
    refine⟨by simp[g1],λy hy=>?_⟩
    rcases List.mem_append.1 hy with hy|hy
    ·exact g2 y hy
    ·simp at hy;subst hy
     have:=List.mem_of_find?_eq_some hx
     exact List.mem_range.1 this
   ·cases h
theorem Mv (hs4:s<=4) (hb:a.2.1=(s:Int)) (hn9:n<=9) (hR:Rel34 n s t u) {v x:Nat} (hv:v<n) (hx:x<s) {o:List Nat} (ho:o.length=v) (hos: ∀y∈o,y<s) (bst:Int):
  AU Aa ((a.1,(a.2.1,a.2.2)),u,cI o,(v:Int),bst,(x:Int),true,0)=some ((a.1,(a.2.1,a.2.2)),u,cI o,(v:Int),bst,(x:Int),(List.range v).all λw=>r4 t w v (o.getD w 0) x):=by
 have:=LS v (λm b k=>AU m ((a.1,(a.2.1,a.2.2)),u,cI o,(v:Int),bst,(x:Int),b,k)) (λw=>r4 t w v (o.getD w 0) x) (λb=>some ((a.1,(a.2.1,a.2.2)),u,cI o,(v:Int),bst,(x:Int),b)) (λm b w hw=>?_) (λm b=>?_) (n:=Aa) (by unfold Aa;omega) true
 ·simpa using this
 ·have hwl:w<(cI o).length:=by unfold cI;simp;omega
  have hget:=GG (o:=o) (i:=w) (by omega)
  have hlt:o.getD w 0<s:=by rw[Ah (by omega)];exact hos _ (List.getElem_mem _)
  have hat:=EZ hs4 hR (i:=w) (k:=v) (x:=o.getD w 0) (z:=x) (by omega) hv hlt hx (by omega)
  simp only[AU,hb,decide_eq_true (show(w:Int)<(v:Int) by omega),if_true,Ac,hwl,Ea,hget,hat,Option.bind_some,Ab (show w<4611686018427387904 by omega)]
  cases b<;>simp
 ·simp only[AU]
  rw[if_neg (by simp)]
theorem Mw (hs4:s<=4) (hb:a.2.1=(s:Int)) (hn2:2<=n) (hR:Rel34 n s t u) {x:Nat} (hx:x<s) (o:List Int) (v bst:Int):
  AW Aa ((a.1,(a.2.1,a.2.2)),u,o,v,bst,(x:Int),false,0)=some ((a.1,(a.2.1,a.2.2)),u,o,v,bst,(x:Int),(List.range s).any λy=>r4 t 0 1 x y):=by
 have:=MU s (λm b k=>AW m ((a.1,(a.2.1,a.2.2)),u,o,v,bst,(x:Int),b,k)) (λy=>r4 t 0 1 x y) (λb=>some ((a.1,(a.2.1,a.2.2)),u,o,v,bst,(x:Int),b)) (λm b y hy=>?_) (λm b=>?_) (n:=Aa) (by unfold Aa;omega) false
 ·simpa using this
 ·obtain⟨h1,h2,h3⟩:=hR.o3.at (i:=0) (j:=1) (by omega) (by omega)
  have hc:=Eh hx hy
  have h4:x*s+y<((u.getD 0 []).getD 1 []).length:=by omega
  have e:=(hR.eq 0 1 x y (by omega) (by omega) hx hy).1
  have e2:((u.getD 0 []).getD 1 []).getD (x*s+y) false=r4 t 0 1 x y:=e.symm
  have g0:gd u 0 []=u.getD 0 []:=rfl
  have g1:gd (u.getD 0 []) 1 []=(u.getD 0 []).getD 1 []:=rfl
  have i0:inb 0 u:=by unfold inb;omega
  have i1:inb 1 (u.getD 0 []):=by unfold inb;omega
  simp only[AW,hb,decide_eq_true (show(y:Int)<(s:Int) by omega),if_true,i0,g0,i1,g1,Hc hs4 hx hy,Ac,h4,Ea,e2,Ab (show y<4611686018427387904 by omega)]
  cases b<;>simp
 ·simp only[AW,hb]
  rw[if_neg (by simp)]
theorem Mu (hs4:s<=4) (hb:a.2.1=(s:Int)) (hn9:n<=9) (hn2:2<=n) (hR:Rel34 n s t u) {v:Nat} (hv:v<n) {o:List Nat} (ho:o.length=v) (hos: ∀y∈o,y<s):
  ∀(k:Nat) (bst:Int) (m:Nat),k<=s->k<m->AJ m ((a.1,(a.2.1,a.2.2)),u,cI o,(v:Int),bst,(k:Int)-1)=
   some ((a.1,(a.2.1,a.2.2)),u,cI o,(v:Int),match (List.range k).find? (goB t s o v)with|some x=>(x:Int)|none=>bst):=by
 intro k
 induction k with
 |zero=>
  intro bst m _ hm
  obtain⟨m,rfl⟩: ∃q,m=q+1:=⟨m-1,by omega⟩
  simp only[AJ]
  rw[if_neg (by simp)];rfl
 |succ k ih=>
  intro bst m hk hm
  obtain⟨m,rfl⟩: ∃q,m=q+1:=⟨m-1,by omega⟩
  have hx:k<s:=by omega
  have e1:((k+1:Nat):Int)-1=(k:Int):=by omega
  have e2:w64 ((k:Int)-1)=(k:Int)-1:=AL (by omega) (by omega)
  have h14:=Mv (a:=a) hs4 hb hn9 hR hv hx ho hos bst
  have h20:=Mw (a:=a) hs4 hb hn2 hR hx (cI o) (v:Int) bst
  have hfind:(match (List.range (k+1)).find? (goB t s o v)with|some x=>(x:Int)|none=>bst)=(match (List.range k).find? (goB t s o v)with|some x=>(x:Int)|none=>if goB t s o v k then(k:Int)else bst):=by
   rw[List.range_succ,List.find?_append]
   cases (List.range k).find? (goB t s o v)with
   |some x=>simp
   |none=>
    simp only[Option.none_or,List.find?_cons,List.find?_nil]
    cases goB t s o v k<;>simp
  rw[hfind,e1]
  simp only[AJ]
  rw[if_pos (by simp),h14]
  simp only[Option.bind_some]
  by_cases hv0:v=0
  ·have hg:goB t s o v k=(List.range s).any λy=>r4 t 0 1 k y:=by unfold goB;rw[if_pos hv0]
   rw[if_pos (by simp[hv0]),h20]
   simp only[Option.bind_some,e2]
   rw[hg]
   cases (List.range s).any λy=>r4 t 0 1 k y with
   |true=>simp only[if_true];exact ih (k:Int) m (by omega) (by omega)
   |false=>simp only[Bool.false_eq_true,if_false];exact ih bst m (by omega) (by omega)
  ·have hg:goB t s o v k=(List.range v).all λw=>r4 t w v (o.getD w 0) k:=by unfold goB;rw[if_neg hv0]
   rw[if_neg (by simp;omega)]
   simp only[e2]
   rw[hg]
   cases (List.range v).all λw=>r4 t w v (o.getD w 0) k with
   |true=>simp only[if_true];exact ih (k:Int) m (by omega) (by omega)
   |false=>simp only[Bool.false_eq_true,if_false];exact ih bst m (by omega) (by omega)
theorem MQ (hs4:s<=4) (ha:a.1=(n:Int)) (hb:a.2.1=(s:Int)) (hn9:n<=9) (hn2:2<=n) (hR:Rel34 n s t u):
  ∀(d v:Nat) (o:List Nat) (m:Nat),v+d=n->d<m->Bv t s v=some o->Bt m ((a.1,(a.2.1,a.2.2)),u,cI o,(v:Int))=some (match Bv t s n with|some o=> .inl (cI o)|none=> .inr ([],false)):=by
 intro d
 induction d with
 |zero=>
  intro v o m hv hm hg
  obtain⟨m,rfl⟩: ∃q,m=q+1:=⟨m-1,by omega⟩
  have:v=n:=by omega
  subst this
  rw[hg]
  simp only[Bt,ha]
  rw[if_neg (by simp)]
 |succ d ih=>
  intro v o m hv hm hg
  obtain⟨m,rfl⟩: ∃q,m=q+1:=⟨m-1,by omega⟩
  obtain⟨ho,hos⟩:=E4 hg
  have h10:=Mu (a:=a) hs4 hb hn9 hn2 hR (v:=v) (by omega) ho hos s (-1) Aa (by omega) (by unfold Aa;omega)
  have e1:w64 (a.2.1-1)=(s:Int)-1:=by rw[hb];exact AL (by omega) (by omega)
  have hlen:(cI o).length=v:=by unfold cI;simpa using ho
  have hstep:Bv t s (v+1)=match (List.range s).find? (goB t s o v)with|some x=>some (o++ [x])|none=>none:=by simp only[Bv,hg]
  simp only[Bt,e1]
  rw[if_pos (by simp;omega),h10]
  simp only[Option.bind_some]
  cases hf:(List.range s).find? (goB t s o v)with
  |none=>
   rw[hf]at hstep
   have hnone: ∀k,v+1<=k->Bv t s k=none:=by
    intro k hk
    induction k with
    |zero=>omega
    |succ k ihk=>
     rcases Nat.lt_or_ge k (v+1)with h|h
     ·have:k=v:=by omega
      subst this;exact hstep
     ·simp only[Bv,ihk h]
   rw[hnone n (by omega)]
   simp
  |some x=>
   rw[hf]at hstep
   have hxs:=List.mem_range.1 (List.mem_of_find?_eq_some hf)
   have:=ih (v+1) (o++ [x]) m (by omega) (by omega) hstep
   dsimp only
   rw[if_neg (by simp),if_pos (by unfold lim;simp;omega)]
   rw[←this]
   have e:cI (o++ [x])=cI o++ [(x:Int)]:=by unfold cI;simp
   rw[e,Ab (show v<4611686018427387904 by omega)]
theorem LK (hs4:s<=4) (hb:a.2.1=(s:Int)) (hn2:2<=n) (hR:Rel34 n s t u):
  ∀(d x:Nat) (m:Nat),x+d=s->d<m->AA m ((a.1,(a.2.1,a.2.2)),t,[],(x:Int))=
   some ((a.1,(a.2.1,a.2.2)),t,match (List.range' x d).find? (goB t s [] 0)with|some x=> [(x:Int)]|none=> []):=by
 intro d
 induction d with
 |zero=>
  intro x m hx hm
  obtain⟨m,rfl⟩: ∃q,m=q+1:=⟨m-1,by omega⟩
  simp only[AA,hb]
  rw[if_neg (by simp;omega)];rfl
 |succ d ih=>
  intro x m hx hm
  obtain⟨m,rfl⟩: ∃q,m=q+1:=⟨m-1,by omega⟩
  obtain⟨h1,h2,h3,h4⟩:=hR.o4.at (i:=0) (j:=1) (x:=x) (by omega) (by omega) (by omega)
  have g0:gd t 0 []=t.getD 0 []:=rfl
  have g1:gd (t.getD 0 []) 1 []=(t.getD 0 []).getD 1 []:=rfl
  have i0:inb 0 t:=by unfold inb;omega
  have i1:inb 1 (t.getD 0 []):=by unfold inb;omega
  have hmk:=Hl (r:=((t.getD 0 []).getD 1 []).getD x []) (by omega)
  have hg:goB t s [] 0 x=decide (((mk (((t.getD 0 []).getD 1 []).getD x [])).length:Int)>0):=by
   rw[L6,h4];unfold goB;rw[if_pos rfl];rfl
  have ihx:=ih (x+1) m (by omega) (by omega)
  rw[List.range'_succ,List.find?_cons,hg]
  simp only[AA,hb,decide_eq_true (show(x:Int)<(s:Int) by omega),if_true,List.length_nil,i0,g0,i1,g1,Ac,h3,Ea,hmk,Option.bind_some]
  rw[if_pos (by simp)]
  cases decide (((mk (((t.getD 0 []).getD 1 []).getD x [])).length:Int)>0)with
  |false=>
   simp only[Bool.false_eq_true,if_false,Ab (show x<4611686018427387904 by omega)]
   rw[hb]at ihx;exact ihx
  |true=>
   obtain⟨m,rfl⟩: ∃q,m=q+1:=⟨m-1,by omega⟩
   rw[if_pos rfl,if_pos (by unfold lim;simp)]
   simp only[AA]
   have hne: ¬((([]:List Int)++ [(x:Int)]).length:Int)==0:=by simp
   rw[if_neg hne]
   cases decide (w64 ((x:Int)+1)<((a.1,((s:Int),a.2.2)):Net).2.1)<;>simp
theorem L2 (hs4:s<=4) (hn9:n<=9) (hR:Rel34 n s t u) {v x:Nat} (hv:v<n) (hx:x<s) {o:List Nat} (ho:o.length=v) (hos: ∀y∈o,y<s):
  AS Aa ((),(a.1,(a.2.1,a.2.2)),t,cI o,(v:Int),(x:Int),true,(v:Int),0)=some ((a.1,(a.2.1,a.2.2)),t,cI o,(v:Int),(x:Int),(List.range v).all λw=>r4 t w v (o.getD w 0) x):=by
 have:=LS v (λm b k=>AS m ((),(a.1,(a.2.1,a.2.2)),t,cI o,(v:Int),(x:Int),b,(v:Int),k)) (λw=>r4 t w v (o.getD w 0) x) (λb=>some ((a.1,(a.2.1,a.2.2)),t,cI o,(v:Int),(x:Int),b)) (λm b w hw=>?_) (λm b=>?_) (n:=Aa) (by unfold Aa;omega) true
 ·simpa using this
 ·have hwl:w<(cI o).length:=by unfold cI;simp;omega
  have hget:=GG (o:=o) (i:=w) (by omega)
  have hlt:o.getD w 0<s:=by rw[Ah (by omega)];exact hos _ (List.getElem_mem _)
  obtain⟨h1,h2,h3,h4⟩:=hR.o4.at (i:=w) (j:=v) (x:=o.getD w 0) (by omega) hv hlt
  have h5:x<(((t.getD w []).getD v []).getD (o.getD w 0) []).length:=by omega
  have e:(((t.getD w []).getD v []).getD (o.getD w 0) []).getD x false=r4 t w v (o.getD w 0) x:=rfl
  simp only[AS,decide_eq_true (show(w:Int)<(v:Int) by omega),if_true,Ac,hwl,Ea,hget,h1,h2,h3,h5,e,Ab (show w<4611686018427387904 by omega)]
  cases b<;>simp
 ·simp only[AS]
  rw[if_neg (by simp)]
theorem L1 (hs4:s<=4) (hb:a.2.1=(s:Int)) (hn9:n<=9) (hR:Rel34 n s t u) {v:Nat} (hv:v<n) (hv1:1<=v) {o:List Nat} (ho:o.length=v) (hos: ∀y∈o,y<s):
  ∀(d x:Nat) (m:Nat),x+d=s->d<m->AI m ((a.1,(a.2.1,a.2.2)),t,cI o,(v:Int),(x:Int))=
   some ((a.1,(a.2.1,a.2.2)),t,(match (List.range' x d).find? (goB t s o v)with|some x=>cI (o++ [x])|none=>cI o),(v:Int)):=by
 have hlen:((cI o).length:Int)=(v:Int):=by unfold cI;simp[ho]
 intro d
 induction d with
 |zero=>
  intro x m hx hm
  obtain⟨m,rfl⟩: ∃q,m=q+1:=⟨m-1,by omega⟩
  simp only[AI,hb]
  rw[if_neg (by simp;omega)];rfl
 |succ d ih=>
  intro x m hx hm
  obtain⟨m,rfl⟩: ∃q,m=q+1:=⟨m-1,by omega⟩
  have h18:=L2 (a:=a) hs4 hn9 hR hv (x:=x) (by omega) ho hos
  have hg:goB t s o v x=(List.range v).all λw=>r4 t w v (o.getD w 0) x:=by unfold goB;rw[if_neg (by omega)]
  have ihx:=ih (x+1) m (by omega) (by omega)
  rw[List.range'_succ,List.find?_cons,hg]
  rw[hb]at h18 ihx
  simp only[AI,hb,decide_eq_true (show(x:Int)<(s:Int) by omega),if_true,hlen,h18,Option.bind_some]
  rw[if_pos (by simp)]
  cases (List.range v).all λw=>r4 t w v (o.getD w 0) x with
  |false=>
   simp only[Bool.false_eq_true,if_false,Ab (show x<4611686018427387904 by omega)]
   exact ihx
  |true=>
   obtain⟨m,rfl⟩: ∃q,m=q+1:=⟨m-1,by omega⟩
   have hl:(cI o).length=v:=by omega
   rw[if_pos rfl,if_pos (by unfold lim;simp;omega)]
   simp only[AI]
   have hne: ¬(((cI o++ [(x:Int)]).length:Int)==(v:Int))=true:=by simp;omega
   rw[if_neg hne]
   have e:cI (o++ [x])=cI o++ [(x:Int)]:=by unfold cI;simp
   rw[e]
   cases decide (w64 ((x:Int)+1)<((a.1,((s:Int),a.2.2)):Net).2.1)<;>simp
theorem KF (hs4:s<=4) (ha:a.1=(n:Int)) (hb:a.2.1=(s:Int)) (hn9:n<=9) (hR:Rel34 n s t u):
  ∀(d v:Nat) (o:List Nat) (m:Nat),v+d=n->1<=v->d<m->Bv t s v=some o-> ∃r,An m ((a.1,(a.2.1,a.2.2)),t,cI o,(v:Int))=some ((a.1,(a.2.1,a.2.2)),r)/\(match Bv t s n with|some o=>r=cI o|none=>r.length<n):=by
 intro d
 induction d with
 |zero=>
  intro v o m hv hv1 hm hg
  obtain⟨m,rfl⟩: ∃q,m=q+1:=⟨m-1,by omega⟩
  have:v=n:=by omega
  subst this
  refine⟨cI o,?_,by rw[hg]⟩
  simp only[An,ha]
  rw[if_neg (by simp)]
 |succ d ih=>
  intro v o m hv hv1 hm hg
  obtain⟨m,rfl⟩: ∃q,m=q+1:=⟨m-1,by omega⟩
  obtain⟨ho,hos⟩:=E4 hg
  have h14:=L1 (a:=a) hs4 hb hn9 hR (v:=v) (by omega) hv1 ho hos s 0 Aa (by omega) (by unfold Aa;omega)
  have h14:AI Aa ((a.1,(a.2.1,a.2.2)),t,cI o,(v:Int),0)=_:=h14
  have hlen:((cI o).length:Int)=(v:Int):=by unfold cI;simp[ho]
  rw[←List.range_eq_range']at h14
  have hstep:Bv t s (v+1)=match (List.range s).find? (goB t s o v)with|some x=>some (o++ [x])|none=>none:=by simp only[Bv,hg]
  rw[ha]at h14
  simp only[An,ha,decide_eq_true (show(v:Int)<(n:Int) by omega),if_true,hlen,h14,Option.bind_some,Ab (show v<4611686018427387904 by omega)]
  rw[if_pos (by simp)]
  cases hf:(List.range s).find? (goB t s o v)with
  |some x=>
   rw[hf]at hstep
   obtain⟨r,h1,h2⟩:=ih (v+1) (o++ [x]) m (by omega) (by omega) (by omega) hstep
   rw[ha]at h1
   exact⟨r,h1,h2⟩
  |none=>
   rw[hf]at hstep
   have hnone: ∀k,v+1<=k->Bv t s k=none:=by
    intro k hk
    induction k with
    |zero=>omega
    |succ k ihk=>
     rcases Nat.lt_or_ge k (v+1)with h|h
     ·have:k=v:=by omega
      subst this;exact hstep
     ·simp only[Bv,ihk h]
   refine⟨cI o,?_,by rw[hnone n (by omega)];dsimp only;omega⟩
   dsimp only
   obtain⟨m,rfl⟩: ∃q,m=q+1:=⟨m-1,by omega⟩
   simp only[An]
   have hne: ¬(((cI o).length:Int)==((v+1:Nat):Int))=true:=by simp;omega
   rw[if_neg hne]
   cases decide (((v+1:Nat):Int)<(((n:Int),(a.2.1,a.2.2)):Net).1)<;>simp
theorem GE (h:HF a): ∃R:List Int×Bool,BQ a=some R/\C5 a=some R/\R.1.length<=9:=by
 unfold BQ C5
 rw[Bm (a:=(a.1,(a.2.1,a.2.2))) h,DK (a:=(a.1,(a.2.1,a.2.2))) h,show C1 (a.1,(a.2.1,a.2.2))=C1 a from rfl]
 cases hb:C1 a with
 |false=>exact⟨([],false),by simp,by simp,by simp⟩
 |true=>
  have hN:=Fh hb
  by_cases h2:a.1<2
  ·exact⟨([],false),by simp[h2],by simp[h2],by simp⟩
  ·obtain⟨n,ha⟩: ∃n:Nat,a.1=(n:Int):=⟨a.1.toNat,by have:=hN.hv;omega⟩
   obtain⟨s,hs⟩: ∃n:Nat,a.2.1=(n:Int):=⟨a.2.1.toNat,by have:=hN.hn;omega⟩
   have hn9:n<=9:=by have:=hN.hv;omega
   have hs4:s<=4:=by have:=hN.hn;omega
   have hn2:2<=n:=by omega
   obtain⟨t,u,hR,e1,e2⟩:=IH hN ha hs
   have e3:=MQ (a:=a) hs4 ha hs hn9 hn2 hR n 0 [] Aa (by omega) (by unfold Aa;omega) rfl
   have e3:Bt Aa ((a.1,(a.2.1,a.2.2)),u,[],0)=_:=e3
   have e4:=LK (a:=a) hs4 hs hn2 hR s 0 Aa (by omega) (by unfold Aa;omega)
   have e4:AA Aa ((a.1,(a.2.1,a.2.2)),t,[],0)=_:=e4
   rw[←List.range_eq_range']at e4
   simp only[e1,e2,e3,e4,Option.bind_some,decide_eq_false h2,Bool.not_true,Bool.false_eq_true,if_false]
   have hg1:Bv t s 1=match (List.range s).find? (goB t s [] 0)with|some x=>some [x]|none=>none:=by simp only[Bv];rfl
   cases hf:(List.range s).find? (goB t s [] 0)with
   |none=>
    rw[hf]at hg1
    have hnone: ∀k,1<=k->Bv t s k=none:=by
     intro k hk
     induction k with
     |zero=>omega
     |succ k ihk=>
      rcases Nat.lt_or_ge k 1 with h|h
      ·have:k=0:=by omega
       subst this;exact hg1
      ·simp only[Bv,ihk h]
    rw[hnone n (by omega)]
    refine⟨([],false),?_,rfl,by simp⟩
    obtain⟨f,hff⟩: ∃f,Aa=f+1:=⟨Aa-1,rfl⟩
    have e5:An Aa ((a.1,(a.2.1,a.2.2)),t,[],1)=some ((a.1,(a.2.1,a.2.2)),[]):=by
     rw[hff];simp only[An]
     cases decide ((1:Int)<((a.1,(a.2.1,a.2.2)):Net).1)<;>simp
    dsimp only
    rw[e5]
    simp only[Option.bind_some]
    rw[if_pos (by simp;omega)]
   |some x=>
    rw[hf]at hg1
    obtain⟨r,h1,h3⟩:=KF (a:=a) hs4 ha hs hn9 hR (n-1) 1 [x] Aa (by omega) (by omega) (by unfold Aa;omega) hg1
    have h1:An Aa ((a.1,(a.2.1,a.2.2)),t,[(x:Int)],1)=_:=h1
    dsimp only
    rw[h1]
    simp only[Option.bind_some]
    cases hg:Bv t s n with
    |none=>
     rw[hg]at h3
     dsimp only at h3
     refine⟨([],false),?_,rfl,by simp⟩
     rw[if_pos (by simp;omega)]
    |some o=>
     rw[hg]at h3
     dsimp only at h3
     subst h3
     obtain⟨ho,_⟩:=E4 hg
     have hl:(cI o).length=n:=by unfold cI;simpa using ho
     refine⟨(cI o,true),?_,rfl,by dsimp only;omega⟩
     rw[if_neg (by simp;omega)]
end
end T
set_option linter.unusedVariables false
open Go Go.Va
namespace T
def Dd:Nat->((List Int)×(List Int)×Int×Int)->Option ((List Int))
 |0,_=>none
 |n+1,(b,t10,t11,t12)=>
 if decide (t12<t11)then
 if inb t12 t10 then
 if(0:Int)<=8 then
 if b.length+ [IntKind.wrap .u8 (YhC .i64 (gd t10 t12 0) 8),IntKind.wrap .u8 (gd t10 t12 0)].length<=lim then
 Dd n (b++ [IntKind.wrap .u8 (YhC .i64 (gd t10 t12 0) 8),IntKind.wrap .u8 (gd t10 t12 0)],t10,t11,w64 (t12+1))
 else none
 else none
 else none
 else
 some b
def Dq (list:List Int):Option (ByteArray):=
 if(0:Int)<=0/\(0:Int)<=(w64 (2*(list.length:Int)))/\(w64 (2*(list.length:Int)))<=lim then
 (Dd Aa (List.replicate (Int.toNat 0) (0:Int),list,(list.length:Int),0)).bind λs1=>
 some (Ydp s1)
 else none
def CX:Nat->((List ByteArray)×(List (List Int))×Int×Int)->Option ((List ByteArray))
 |0,_=>none
 |n+1,(set,t8,t9,t10)=>
 if decide (t10<t9)then
 if inb t10 t8 then
 (Dq (gd t8 t10 [])).bind λr1=>
 CX n (YgL set r1,t8,t9,w64 (t10+1))
 else none
 else
 some set
def DD (r:Int×(List (List Int))):Option ((List ByteArray)):=
 (CX Aa ([],r.2,(r.2.length:Int),0)).bind λs1=>
 some s1
def Cr:Nat->((List Int)×(Int×Int×(List ((List Int)×Int×(List (List Int)))))×Int)->Option ((Unit)⊕(Int))
 |0,_=>none
 |n+1,(values,net,i)=>
 if decide (i<(net.2.2.length:Int))then
 if inb i net.2.2 then
 (CL (gd net.2.2 i ([],(0,[]))) values).bind λr1=>
 if !r1 then
 some (.inr i)
 else
 Cr n (values,(net.1,(net.2.1,net.2.2)),w64 (i+1))
 else none
 else
 some (.inl ())
def Ek (net:Int×Int×(List ((List Int)×Int×(List (List Int))))) (values:List Int):Option (Int):=
 (Cr Aa (values,(net.1,(net.2.1,net.2.2)),0)).bind λs1=>
  match s1 with
  | .inl s2=>
   some (-1)
  | .inr s3=>
   some s3
def BN:Nat->((List Int)×(List ((List Int)×Int×(List (List Int))))×Int×Int)->Option ((Unit)⊕(Int))
 |0,_=>none
 |n+1,(values,t8,t9,t10)=>
 if decide (t10<t9)then
 if inb t10 t8 then
 (CH ((gd t8 t10 ([],(0,[]))).1) values).bind λr1=>
 (En (((gd t8 t10 ([],(0,[]))).2).1,((gd t8 t10 ([],(0,[]))).2).2) r1).bind λr2=>
 if !r2 then
 some (.inr t10)
 else
 BN n (values,t8,t9,w64 (t10+1))
 else none
 else
 some (.inl ())
def Dy (net:Int×Int×(List ((List Int)×Int×(List (List Int))))) (values:List Int):Option (Int):=
 (BN Aa (values,net.2.2,(net.2.2.length:Int),0)).bind λs1=>
  match s1 with
  | .inl s2=>
   some (-1)
  | .inr s3=>
   some s3
end T
open Go Go.Va
namespace T
def kb (l:List Int):List Int:=l.flatMap λx=> [0,x]
def EW (l:List Int):ByteArray:=Ydp (kb l)
theorem IV {x:Int} (h0:0<=x) (h1:x<256):IntKind.wrap .u8 x=x:=by
 simp[IntKind.wrap,IntKind.bits,IntKind.signed]
 omega
theorem J8 {x:Int} (h0:0<=x) (h1:x<256):YhC .i64 x 8=0:=by
 unfold YhC
 have:(min (8:Int).toNat IntKind.i64.bits)=8:=by decide
 rw[this,Int.fdiv_eq_ediv_of_nonneg _ (by decide)]
 have:(2:Int)^8=256:=by decide
 rw[this];omega
theorem Ei {l:List Int} (hl:l.length<=1048576) (hv: ∀x∈l,0<=x/\x<256):Dq l=some (EW l):=by
 unfold Dq
 have e2:w64 (2*(l.length:Int))=2*(l.length:Int):=AL (by omega) (by omega)
 rw[e2,if_pos (by unfold lim;omega)]
 have kbl: ∀k,k<=l.length->(kb (l.take k)).length=2*k:=by
  intro k hk
  have: ∀l:List Int,(kb l).length=2*l.length:=by
   intro l
   induction l with
   |nil=>rfl
   |cons x l ih=>unfold kb at ih⊢;simp only[List.flatMap_cons,List.length_append,ih,List.length_cons,List.length_nil];omega
  rw[this];simp;omega
 have:=CO l.length (λm o i=>Dd m (o,l,(l.length:Int),i)) (λk=>kb (l.take k)) (r:=some (kb l)) (λm k hk=>?_) (λm=>?_) (n:=Aa) (by unfold Aa;omega)
 ·have e0:kb (l.take 0)= []:=rfl
  rw[e0]at this
  have:Dd Aa (List.replicate (Int.toNat 0) (0:Int),l,(l.length:Int),0)=some (kb l):=this
  rw[this];rfl
 ·have hx:=hv _ (List.getElem_mem hk)
  have hlen:=kbl k (by omega)
  have e:kb (l.take (k+1))=kb (l.take k)++ [0,l[k]]:=by
   unfold kb;rw[List.take_succ_eq_append_getElem hk,List.flatMap_append];simp
  simp only[Dd,Ac,Ai hk,Ab (show k<4611686018427387904 by omega),IV hx.1 hx.2,J8 hx.1 hx.2,IV (show(0:Int)<=0 by omega) (show(0:Int)<256 by omega),e]
  rw[if_pos (by simp;omega),if_pos hk,if_pos (by omega),if_pos (by unfold lim;simp;omega)]
 ·simp only[Dd,List.take_length]
  rw[if_neg (by simp)]
theorem Gg: ∀(xs:List Int) (s:ByteArray),(xs.foldl (λs n=>s.push (UInt8.ofNat n.toNat)) s).data=s.data++(xs.map λn=>UInt8.ofNat n.toNat).toArray
 | [],s=>by simp
 |x::xs,s=>by
  rw[List.foldl_cons,Gg xs]
  apply Array.ext'
  simp[ByteArray.push]
theorem KJ: ∀(l l':List Int),(∀x∈l,0<=x/\x<256)->(∀x∈l',0<=x/\x<256)->(kb l).map (λn=>UInt8.ofNat n.toNat)=(kb l').map (λn=>UInt8.ofNat n.toNat)->l=l'
 | [],[],_,_,_=>rfl
 | [],y::l',_,_,h=>by simp[kb]at h
 |x::l,[],_,_,h=>by simp[kb]at h
 |x::l,y::l',hv,hv',h=>by
  simp only[kb,List.flatMap_cons,List.map_append,List.map_cons,List.map_nil,List.cons_append,List.nil_append,List.cons.injEq,true_and]at h
  obtain⟨h1,h2⟩:=h
  have hx:=hv x (by simp)
  have hy:=hv' y (by simp)
  have h1:=congrArg UInt8.toNat h1
  simp only[UInt8.toNat_ofNat']at h1
  have:x=y:=by omega
  rw[this,KJ l l' (λz hz=>hv z (List.mem_cons_of_mem _ hz)) (λz hz=>hv' z (List.mem_cons_of_mem _ hz)) h2]
theorem IB {l l':List Int} (hv: ∀x∈l,0<=x/\x<256) (hv': ∀x∈l',0<=x/\x<256) (h:EW l=EW l'):l=l':=by
 have h:=congrArg ByteArray.data h
 unfold EW Ydp at h
 rw[Gg,Gg]at h
 have h:=congrArg Array.toList h
 simp only[Array.toList_append]at h
 exact KJ l l' hv hv' (List.append_cancel_left h)
theorem Ki {a b:ByteArray}:(a==b)=decide (a=b):=by
 show(a.data==b.data)=_
 rw[Bool.eq_iff_iff,beq_iff_eq,decide_eq_true_eq]
 exact⟨λh=>ByteArray.ext h,λh=>congrArg ByteArray.data h⟩
theorem Hp {ks:List ByteArray} {s:ByteArray}:Ybm ks s=true↔s∈ks:=by
 unfold Ybm
 rw[List.any_eq_true]
 constructor
 ·rintro ⟨k,h1,h2⟩;rw[Ki,decide_eq_true_eq]at h2;subst h2;exact h1
 ·intro h;exact⟨s,h,by rw[Ki];simp⟩
theorem IE {ks:List ByteArray} {s t:ByteArray}:t∈YgL ks s↔t∈ks∨t=s:=by
 unfold YgL
 by_cases h:Ybm ks s=true
 ·rw[if_pos h]
  exact⟨.inl,λh'=>h'.elim id λe=>e▸Hp.1 h⟩
 ·rw[if_neg h];simp
def D0 (l:List (List Int)):List ByteArray:=l.foldl (λks t=>YgL ks (EW t)) []
theorem KK {l:List (List Int)} {s:ByteArray}:s∈D0 l↔ ∃t∈l,s=EW t:=by
 have key: ∀(l:List (List Int)) (ks:List ByteArray),s∈l.foldl (λks t=>YgL ks (EW t)) ks↔s∈ks∨ ∃t∈l,s=EW t:=by
  intro l
  induction l with
  |nil=>intro ks;simp
  |cons t l ih=>
   intro ks
   rw[List.foldl_cons,ih,IE]
   simp only[List.mem_cons,exists_eq_or_imp,or_assoc]
 unfold D0;rw[key];simp
theorem E5 {r:Int×List (List Int)} (hl:r.2.length<=1048576) (hv: ∀t∈r.2,t.length<=1048576/\ ∀x∈t,0<=x/\x<256):DD r=some (D0 r.2):=by
 unfold DD
 have:=CO r.2.length (λm o i=>CX m (o,r.2,(r.2.length:Int),i)) (λk=>D0 (r.2.take k)) (r:=some (D0 r.2)) (λm k hk=>?_) (λm=>?_) (n:=Aa) (by unfold Aa;omega)
 ·have e0:D0 (r.2.take 0)= []:=rfl
  rw[e0]at this
  simp only[this,Option.bind_some]
 ·obtain⟨h1,h2⟩:=hv _ (List.getElem_mem hk)
  have e:D0 (r.2.take (k+1))=YgL (D0 (r.2.take k)) (EW r.2[k]):=by
   unfold D0;rw[List.take_succ_eq_append_getElem hk,List.foldl_append];rfl
  simp only[CX,Ac,Ai hk,Ab (show k<4611686018427387904 by omega),Ei h1 h2,Option.bind_some,e]
  rw[if_pos (by simp;omega),if_pos hk]
 ·simp only[CX,List.take_length]
  rw[if_neg (by simp)]
theorem GM {l:List (List Int)} {t:List Int} (hl: ∀t∈l,∀x∈t,0<=x/\x<256) (ht: ∀x∈t,0<=x/\x<256):Ybm (D0 l) (EW t)=decide (t∈l):=by
 rw[Bool.eq_iff_iff,Hp,decide_eq_true_eq,KK]
 constructor
 ·rintro ⟨u,h1,h2⟩;rw[IB ht (hl u h1) h2];exact h1
 ·intro h;exact⟨t,h,rfl⟩
def dg (b:Nat):Nat->Nat->List Nat
 |0,_=> []
 |k+1,i=>dg b k (i/b)++ [i%b]
theorem GH {b:Nat}: ∀ {k i:Nat},(dg b k i).length=k
 |0,_=>rfl
 |k+1,i=>by simp[dg,GH (k:=k)]
theorem Jn {b:Nat} (hb:0<b): ∀ {k i:Nat},∀x∈dg b k i,x<b
 |0,_,x,h=>by simp[dg]at h
 |k+1,i,x,h=>by
  simp only[dg]at h
  rcases List.mem_append.1 h with h|h
  ·exact Jn hb x h
  ·simp at h;subst h;exact Nat.mod_lt _ hb
theorem Dk {o:List Nat}:(cI o).length=o.length:=by unfold cI;simp
theorem HL {o p:List Nat}:cI (o++p)=cI o++cI p:=by unfold cI;simp
end T
open Go Go.Va
namespace T
def vt (ts:List (List Int)) (x j:Nat):Nat:=((ts.getD x []).getD j 0).toNat
def atF (n:Nat) (ts:List (List Int)) (j:Nat) (args:List Nat):Nat:=args.foldl (λa x=>a*n+vt ts x j) 0
def Mq (n:Nat) (op:Opn) (ts:List (List Int)) (m:Nat) (args:List Nat):List Int:=(List.range m).map λj=>op.2.getD (atF n ts j args) 0
structure KOk (n k m:Nat) (op:Opn) (r:Int×List (List Int)):Prop where
 op1:op.1=(k:Int)
 hk:1<=k/\k<=3
 hn:1<=n/\n<=4
 opl:op.2.length=n^k
 opv: ∀x∈op.2,0<=x/\x<(n:Int)
 ar:r.1=(m:Int)
 hm:1<=m/\m<=3
 tl: ∀t∈r.2,t.length=m
 tv: ∀t∈r.2,∀x∈t,0<=x/\x<(n:Int)
 many:r.2.length<=64
 inc:D7 r.2=true
def kB (n k m:Nat) (op:Opn) (r:Int×List (List Int)):Bool:=(List.range (r.2.length^k)).all λi=>decide (Mq n op r.2 m (dg r.2.length k i)∈r.2)
theorem Jz {b k:Nat} (hb:b<=64) (hk:k<=3):b^k<=262144:=by
 have h1:b^k<=64^k:=Nat.pow_le_pow_left hb k
 have h2:64^k<=64^3:=Nat.pow_le_pow_right (by omega) hk
 have:(64:Nat)^3=262144:=by decide
 omega
theorem IK {b j:Nat} (hb:b<=64) (hj:j+1<=3):w64 (((b^j:Nat):Int)*(b:Int))=((b^(j+1):Nat):Int):=by
 have h:=Jz hb hj
 rw[Nat.pow_succ]at h⊢
 rw[←Int.natCast_mul]
 exact AL (by omega) (by omega)
theorem I9 {b:Nat} (hb:b<=64): ∀(m k j:Nat),j+k<=3->k<m->DC m ((b:Int),(k:Int),((b^j:Nat):Int))=some (((b^(j+k):Nat):Int)):=by
 intro m
 induction m with
 |zero=>intro k j _ h;omega
 |succ m ih=>
  intro k j hj hk
  simp only[DC]
  cases k with
  |zero=>simp
  |succ k=>
   have e:w64 (((k+1:Nat):Int)-1)=(k:Int):=by rw[AL (by omega) (by omega)];omega
   rw[e,IK hb (by omega),if_pos (by simp),ih k (j+1) (by omega) (by omega)]
   congr 3;omega
theorem Ff {b k:Nat} (hb:b<=64) (hk:k<=3):Fe (b:Int) (k:Int)=some (((b^k:Nat):Int)):=by
 unfold Fe
 have:=I9 hb Aa k 0 (by omega) (by unfold Aa;omega)
 have this:DC Aa ((b:Int),(k:Int),1)=_:=this
 rw[this];simp
section
variable {n k m:Nat} {op:Opn} {r:Int×List (List Int)}
theorem KOk.vt_lt (h:KOk n k m op r) {x j:Nat} (hx:x<r.2.length) (hj:j<m):vt r.2 x j<n/\(r.2.getD x []).getD j 0=((vt r.2 x j:Nat):Int)/\j<(r.2.getD x []).length:=by
 have hmem:r.2[x]∈r.2:=List.getElem_mem hx
 have hl:=h.tl _ hmem
 have hj':j<(r.2[x]).length:=by omega
 have hv:=h.tv _ hmem _ (List.getElem_mem hj')
 unfold vt
 rw[Ah hx,Ah hj']
 exact⟨by omega,by omega,by omega⟩
theorem Dz {n k:Nat} (hn:n<=4) (hk:k<=3):n^k<=64:=by
 have h1:n^k<=4^k:=Nat.pow_le_pow_left hn k
 have h2:4^k<=4^3:=Nat.pow_le_pow_right (by omega) hk
 have:(4:Nat)^3=64:=by decide
 omega
theorem G9 {ts:List (List Int)} {j:Nat} {a:List Nat} {x:Nat}:atF n ts j (a++ [x])=atF n ts j a*n+vt ts x j:=by unfold atF;rw[List.foldl_append];rfl
theorem Jq {n:Nat} {v:Nat->Nat}: ∀(a:List Nat) (c:Nat),(∀x∈a,v x<n)->a.foldl (λa x=>a*n+v x) c<(c+1)*n^a.length
 | [],c,_=>by simp
 |x::a,c,h=>by
  have h1:=Jq a (c*n+v x) λy hy=>h y (List.mem_cons_of_mem _ hy)
  have h2:=h x (by simp)
  have h3:(c*n+v x+1)*n^a.length<=((c+1)*n)*n^a.length:=Nat.mul_le_mul_right _ (by rw[Nat.succ_mul];omega)
  rw[List.foldl_cons,List.length_cons,Nat.pow_succ]
  have h4:((c+1)*n)*n^a.length=(c+1)*(n^a.length*n):=by rw[Nat.mul_assoc,Nat.mul_comm n]
  omega
theorem IW (hn:n<=4) {x v:Nat} (hx:x<=64) (hv:v<n):w64 (w64 ((x:Int)*(n:Int))+(v:Int))=((x*n+v:Nat):Int):=by
 have h1:x*n<=64*4:=Nat.mul_le_mul hx hn
 have e:(x:Int)*(n:Int)=((x*n:Nat):Int):=by push_cast;rfl
 rw[e,AL (x:=((x*n:Nat):Int)) (by omega) (by omega),AL (by omega) (by omega)]
 push_cast;rfl
end
end T
open Go Go.Va
namespace T
section
variable {v:Int} {c:Con}
end
section
variable {a:Net}
theorem LJ {β:Type} (N:Nat) (L:Nat->Int->Option β) (p:Nat->Bool) (g:Nat->β) (e:β)
  (hs: ∀n (k:Nat),k<N->L (n+1) k=if p k then some (g k)else L n ((k+1:Nat):Int)) (he: ∀n,L (n+1) (N:Nat)=some e):
  ∀(d k n:Nat),k+d=N->d<n->L n k=some (match (List.range' k d).find? p with|some x=>g x|none=>e):=by
 intro d
 induction d with
 |zero=>
  intro k n hk hn
  obtain⟨n,rfl⟩: ∃m,n=m+1:=⟨n-1,by omega⟩
  have:k=N:=by omega
  subst this;rw[he];rfl
 |succ d ih=>
  intro k n hk hn
  obtain⟨n,rfl⟩: ∃m,n=m+1:=⟨n-1,by omega⟩
  rw[hs n k (by omega),List.range'_succ,List.find?_cons]
  cases p k with
  |true=>simp
  |false=>simp only[Bool.false_eq_true,if_false];exact ih (k+1) n (by omega) (by omega)
end
end T
open Go Go.Va
namespace T
section
variable {v:Int} {c:Con} {up:Int}
end
section
variable {a:Net} {up:Int} {vals:List Int}
def HD (a:Net) (vals:List Int):Int:=match (List.range' 0 a.2.2.length).find? (λk=>!Ck vals (a.2.2.getD k JJ))with|some k=>(k:Int)|none=> -1
theorem GR (hN:NetOk a) (hv:(vals.length:Int)=a.1):Ek (a.1,(a.2.1,a.2.2)) vals=some (HD a vals):=by
 have hc:=hN.hc
 unfold Ek
 have e:=LJ a.2.2.length (λf i=>Cr f (vals,(a.1,(a.2.1,a.2.2)),i)) (λk=>!Ck vals (a.2.2.getD k JJ)) (λk=> .inr (k:Int)) (.inl ()) (λf k hk=>by
  have hcon:=hN.con _ (List.getElem_mem hk)
  simp only[Cr,decide_eq_true (show(k:Int)<((a.2.2.length:Nat):Int) by omega),if_true,Ac,hk,Ai hk,Dt hcon hv,Option.bind_some,Ab (show k<4611686018427387904 by omega),Ah hk])
  (λf=>by simp[Cr]) a.2.2.length 0 Aa (by omega) (by unfold Aa;omega)
 have e:Cr Aa (vals,(a.1,(a.2.1,a.2.2)),0)=_:=e
 rw[e]
 unfold HD
 cases (List.range' 0 a.2.2.length).find? (λk=>!Ck vals (a.2.2.getD k JJ))<;>rfl
theorem F8 (hN:NetOk a) (hv:(vals.length:Int)=a.1):Dy (a.1,(a.2.1,a.2.2)) vals=some (HD a vals):=by
 have hc:=hN.hc
 unfold Dy
 have e:=LJ a.2.2.length (λf i=>BN f (vals,a.2.2,(a.2.2.length:Int),i)) (λk=>!Ck vals (a.2.2.getD k JJ)) (λk=> .inr (k:Int)) (.inl ()) (λf k hk=>by
  have hcon:=hN.con _ (List.getElem_mem hk)
  have hsl:=hcon.sl
  have har:=hcon.ar
  have hmany:=hcon.many
  have h1:=DI (f:=a.2.2[k].1) (g:=vals) (by omega) (λx hx=>by
   obtain⟨j,hj,rfl⟩:=List.mem_iff_getElem.1 hx
   have:=hcon.sv j hj
   omega)
  have h2:=FH (r:=a.2.2[k].2) (t:=a.2.2[k].1.map (Aq vals)) (by simp;omega) (show a.2.2[k].2.2.length<=1048576 by omega)
  have h2:En (a.2.2[k].2.1,a.2.2[k].2.2) (a.2.2[k].1.map (Aq vals))=_:=h2
  simp only[BN,decide_eq_true (show(k:Int)<((a.2.2.length:Nat):Int) by omega),if_true,Ac,hk,Ai hk,h1,h2,Option.bind_some,Ab (show k<4611686018427387904 by omega),Ah hk,Ck])
  (λf=>by simp[BN]) a.2.2.length 0 Aa (by omega) (by unfold Aa;omega)
 have e:BN Aa (vals,a.2.2,((a.2.2.length:Nat):Int),0)=_:=e
 rw[e]
 unfold HD
 cases (List.range' 0 a.2.2.length).find? (λk=>!Ck vals (a.2.2.getD k JJ))<;>rfl
end
end T
set_option linter.unusedVariables false
open Go Go.Va
namespace T
def Gz (n_:Int):Option (Bool):=
 (C3 n_ 1 4).bind λr1=>
 some r1
def C9:Nat->(Int×(List (Int×(List (List Int))))×Int)->Option ((Unit)⊕(Bool))
 |0,_=>none
 |n+1,(n_,rels,i)=>
 if decide (i<(rels.length:Int))then
 if inb i rels then
 (Ez n_ (gd rels i (0,[]))).bind λr1=>
 if !r1 then
 some (.inr false)
 else
 C9 n (n_,rels,w64 (i+1))
 else none
 else
 some (.inl ())
def Gy (n_:Int) (rels:List (Int×(List (List Int)))):Option (Bool):=
 if decide ((rels.length:Int)>4)then
  some false
 else
  (C9 Aa (n_,rels,0)).bind λs1=>
   match s1 with
   | .inl s2=>
    some true
   | .inr s3=>
    some s3
def Cq:Nat->((List (Int×(List (List Int))))×Int×Int)->Option ((Unit)⊕(Bool))
 |0,_=>none
 |n+1,(rels,k,i)=>
 if decide (i<(rels.length:Int))then
 if k==3 then
 if inb i rels then
 if decide ((((gd rels i (0,[])).2).length:Int)>12)then
 some (.inr false)
 else
 Cq n (rels,k,w64 (i+1))
 else none
 else
 Cq n (rels,k,w64 (i+1))
 else
 some (.inl ())
def EY (n_:Int) (rels:List (Int×(List (List Int)))) (k:Int):Option (Bool):=
 (Gz n_).bind λr1=>
  if !r1 then
   some false
  else
   (Gy n_ rels).bind λr2=>
    if !r2 then
     some false
    else
     (C3 k 1 3).bind λr3=>
      if !r3 then
       some false
      else
       (Cq Aa (rels,k,0)).bind λs4=>
        match s4 with
        | .inl s5=>
         some true
        | .inr s6=>
         some s6
def CB:Nat->(Int×(List Int)×Int)->Option ((List Int))
 |0,_=>none
 |n+1,(size,out,i)=>
 if decide (i<size)then
 if out.length+ [(-1)].length<=lim then
 CB n (size,out++ [(-1)],w64 (i+1))
 else none
 else
 some out
def Fi (size:Int):Option ((List Int)):=
 (CB Aa (size,[],0)).bind λs1=>
 some s1
def Dv:Nat->(Int×Int×(List Int)×Int)->Option ((List Int))
 |0,_=>none
 |n+1,(n_,at_,out,i)=>
 if decide (i≥0)then
 if n_≠0 then
 if inb i out then
 if n_≠0 then
 Dv n (n_,w64 (Int.tdiv at_ n_),stt out i (Int.tmod at_ n_),w64 (i-1))
 else none
 else none
 else none
 else
 some out
def ET (n_:Int) (arity:Int) (at_:Int):Option ((List Int)):=
 if 0<=arity/\arity<=arity/\arity<=lim then
 (Dv Aa (n_,at_,List.replicate (Int.toNat arity) (0:Int),w64 (arity-1))).bind λs1=>
 some s1
 else none
def CM (a:Int) (b:Int):Option (Int):=
 if decide (a>b)then
 some a
 else
 some b
def Co:Nat->(Int×(List (Int×(List (List Int))))×Int×(List (List ((List Int)×Int×(List (List Int)))))×Int)->Option (Int×(List (Int×(List (List Int))))×Int×(List (List ((List Int)×Int×(List (List Int))))))
 |0,_=>none
 |n+1,(t0,t1,t2,t7,t8)=>
 (Dw t0 t2).bind λr1=>
 if decide (t8<r1)then
 if t7.length+([[]]:List (List ((List Int)×Int×(List (List Int))))).length<=lim then
 Co n (t0,t1,t2,t7++ [[]],w64 (t8+1))
 else none
 else
 some (t0,t1,t2,t7)
def Ca:Nat->(Int×(List (Int×(List (List Int))))×Int×(List (List ((List Int)×Int×(List (List Int)))))×Int×Int×Int×(List Int)×((List Int)×(Int×(List (List Int))))×Int×Int×Int×Int)->Option (Int×(List (Int×(List (List Int))))×Int×(List (List ((List Int)×Int×(List (List Int)))))×Int×Int×Int×(List Int)×((List Int)×(Int×(List (List Int))))×Int×Int×Int)
 |0,_=>none
 |n+1,(t0,t1,t2,t7,t9,t10,t11,t12,t13,t14,t15,t16,t17)=>
 if decide (t17<t2)then
 if inb t9 t1 then
 if inb t17 t12 then
 if inb (gd t12 t17 0) ((gd t1 t9 (0,[])).2)then
 if inb t15 (gd ((gd t1 t9 (0,[])).2) (gd t12 t17 0) [])then
 Ca n (t0,t1,t2,t7,t9,t10,t11,t12,(t13.1,(t13.2.1,t13.2.2)),t14,t15,w64 ((w64 (t16*t0))+(gd (gd ((gd t1 t9 (0,[])).2) (gd t12 t17 0) []) t15 0)),w64 (t17+1))
 else none
 else none
 else none
 else none
 else
 some (t0,t1,t2,t7,t9,t10,t11,t12,(t13.1,(t13.2.1,t13.2.2)),t14,t15,t16)
def B9:Nat->(Int×(List (Int×(List (List Int))))×Int×(List (List ((List Int)×Int×(List (List Int)))))×Int×Int×Int×(List Int)×((List Int)×(Int×(List (List Int))))×Int×Int)->Option (Int×(List (Int×(List (List Int))))×Int×(List (List ((List Int)×Int×(List (List Int)))))×Int×Int×Int×((List Int)×(Int×(List (List Int))))×Int)
 |0,_=>none
 |n+1,(t0,t1,t2,t7,t9,t10,t11,t12,t13,t14,t15)=>
 if inb t9 t1 then
 if decide (t15<((gd t1 t9 (0,[])).1))then
 (Ca Aa (t0,t1,t2,t7,t9,t10,t11,t12,(t13.1,(t13.2.1,t13.2.2)),t14,t15,0,0)).bind λs5=>
 if s5.2.2.2.2.2.2.2.2.1.1.length+ [s5.2.2.2.2.2.2.2.2.2.2.2].length<=lim then
 (CM s5.2.2.2.2.2.2.2.2.2.1 s5.2.2.2.2.2.2.2.2.2.2.2).bind λr6=>
 B9 n (s5.1,s5.2.1,s5.2.2.1,s5.2.2.2.1,s5.2.2.2.2.1,s5.2.2.2.2.2.1,s5.2.2.2.2.2.2.1,s5.2.2.2.2.2.2.2.1,(s5.2.2.2.2.2.2.2.2.1.1++ [s5.2.2.2.2.2.2.2.2.2.2.2],(s5.2.2.2.2.2.2.2.2.1.2.1,s5.2.2.2.2.2.2.2.2.1.2.2)),r6,w64 (s5.2.2.2.2.2.2.2.2.2.2.1+1))
 else none
 else
 some (t0,t1,t2,t7,t9,t10,t11,(t13.1,(t13.2.1,t13.2.2)),t14)
 else none
def B8:Nat->(Int×(List (Int×(List (List Int))))×Int×(List (List ((List Int)×Int×(List (List Int)))))×Int×Int×Int)->Option (Int×(List (Int×(List (List Int))))×Int×(List (List ((List Int)×Int×(List (List Int)))))×Int)
 |0,_=>none
 |n+1,(t0,t1,t2,t7,t9,t10,t11)=>
 (Dw t10 t2).bind λr3=>
 if decide (t11<r3)then
 (ET t10 t2 t11).bind λr4=>
 if inb t9 t1 then
 (B9 Aa (t0,t1,t2,t7,t9,t10,t11,r4,([],((gd t1 t9 (0,[])).1,(gd t1 t9 (0,[])).2)),0,0)).bind λs5=>
 if inb s5.2.2.2.2.2.2.2.2 s5.2.2.2.1 then
 if(gd s5.2.2.2.1 s5.2.2.2.2.2.2.2.2 []).length+ [(s5.2.2.2.2.2.2.2.1.1,(s5.2.2.2.2.2.2.2.1.2.1,s5.2.2.2.2.2.2.2.1.2.2))].length<=lim then
 if inb s5.2.2.2.2.2.2.2.2 s5.2.2.2.1 then
 if s5.2.2.2.2.2.2.2.2=s5.2.2.2.2.2.2.2.2 then
 B8 n (s5.1,s5.2.1,s5.2.2.1,stt s5.2.2.2.1 s5.2.2.2.2.2.2.2.2 ((gd s5.2.2.2.1 s5.2.2.2.2.2.2.2.2 [])++ [(s5.2.2.2.2.2.2.2.1.1,(s5.2.2.2.2.2.2.2.1.2.1,s5.2.2.2.2.2.2.2.1.2.2))]),s5.2.2.2.2.1,s5.2.2.2.2.2.1,w64 (s5.2.2.2.2.2.2.1+1))
 else none
 else none
 else none
 else none
 else none
 else
 some (t0,t1,t2,t7,t9)
def Cp:Nat->(Int×(List (Int×(List (List Int))))×Int×(List (List ((List Int)×Int×(List (List Int)))))×Int)->Option ((List (List ((List Int)×Int×(List (List Int))))))
 |0,_=>none
 |n+1,(t0,t1,t2,t7,t9)=>
 if decide (t9<(t1.length:Int))then
 if inb t9 t1 then
 (B8 Aa (t0,t1,t2,t7,t9,(((gd t1 t9 (0,[])).2).length:Int),0)).bind λs3=>
 Cp n (s3.1,s3.2.1,s3.2.2.1,s3.2.2.2.1,w64 (s3.2.2.2.2+1))
 else none
 else
 some t7
def EX (t0:Int) (t1:List (Int×(List (List Int)))) (t2:Int):Option ((List (List ((List Int)×Int×(List (List Int)))))):=
 (Co Aa (t0,t1,t2,[],0)).bind λs1=>
 (Cp Aa (s1.1,s1.2.1,s1.2.2.1,s1.2.2.2,0)).bind λs2=>
 some s2
def Cn:Nat->((List ((List Int)×Int×(List (List Int))))×(List Int)×Int×(List Int)×Int)->Option ((List ((List Int)×Int×(List (List Int))))×(List Int)×Int×(List Int))
 |0,_=>none
 |n+1,(needs,table,i,t,k)=>
 if inb i needs then
 if decide (k<(((gd needs i ([],(0,[]))).1).length:Int))then
 if inb i needs then
 if inb k ((gd needs i ([],(0,[]))).1)then
 if inb (gd ((gd needs i ([],(0,[]))).1) k 0) table then
 if t.length+ [gd table (gd ((gd needs i ([],(0,[]))).1) k 0) 0].length<=lim then
 Cn n (needs,table,i,t++ [gd table (gd ((gd needs i ([],(0,[]))).1) k 0) 0],w64 (k+1))
 else none
 else none
 else none
 else none
 else
 some (needs,table,i,t)
 else none
def Cm:Nat->((List ((List Int)×Int×(List (List Int))))×(List Int)×Int)->Option ((Unit)⊕(Bool))
 |0,_=>none
 |n+1,(needs,table,i)=>
 if decide (i<(needs.length:Int))then
 (Cn Aa (needs,table,i,[],0)).bind λs1=>
 if inb s1.2.2.1 s1.1 then
 (DZ ((gd s1.1 s1.2.2.1 ([],(0,[]))).2) s1.2.2.2).bind λr2=>
 if !r2 then
 some (.inr false)
 else
 Cm n (s1.1,s1.2.1,w64 (s1.2.2.1+1))
 else none
 else
 some (.inl ())
def DE (needs:List ((List Int)×Int×(List (List Int)))) (table:List Int):Option (Bool):=
 (Cm Aa (needs,table,0)).bind λs1=>
  match s1 with
  | .inl s2=>
   some true
  | .inr s3=>
   some s3
def Av (rec:(Int×(List (List ((List Int)×Int×(List (List Int)))))×(List Int)×(List Int)×((List (List Int))×(Int×Int)))->Option (((List (List Int))×(Int×Int)))):Nat->(Int×(List (List ((List Int)×Int×(List (List Int)))))×(List Int)×(List Int)×((List (List Int))×(Int×Int))×((List (List Int))×(Int×Int))×Int×Int)->Option ((((List (List Int))×(Int×Int))×((List (List Int))×(Int×Int)))⊕(((List (List Int))×(Int×Int))))
 |0,_=>none
 |n+1,(t0,t1,t2,t3,t9,t10,t11,t12)=>
 if decide (t12<t0)then
 if inb t11 t2 then
 if decide ((gd t2 t11 0)≥0)then
 if inb t11 t2 then
 if(gd t2 t11 0) !=t12 then
 Av rec n (t0,t1,t2,t3,(t9.1,(t9.2.1,t9.2.2)),(t10.1,(t10.2.1,t10.2.2)),t11,w64 (t12+1))
 else
 (B1 t3).bind λr2=>
 if r2.length+ [t12].length<=lim then
 if inb t11 t1 then
 (DE (gd t1 t11 []) (r2++ [t12])).bind λr3=>
 if r3 then
 (rec (t0,t1,t2,r2++ [t12],(t9.1,(t9.2.1,t9.2.2)))).bind λr4=>
 if r4.2.2==1 then
 if decide (r4.2.1>0)then
 some (.inr (r4.1,(r4.2.1,r4.2.2)))
 else
 Av rec n (t0,t1,t2,t3,(r4.1,(r4.2.1,r4.2.2)),(t10.1,(t10.2.1,t10.2.2)),t11,w64 (t12+1))
 else
 Av rec n (t0,t1,t2,t3,(r4.1,(r4.2.1,r4.2.2)),(t10.1,(t10.2.1,t10.2.2)),t11,w64 (t12+1))
 else
 if t9.2.2==1 then
 if decide (t9.2.1>0)then
 some (.inr (t9.1,(t9.2.1,t9.2.2)))
 else
 Av rec n (t0,t1,t2,t3,(t9.1,(t9.2.1,t9.2.2)),(t10.1,(t10.2.1,t10.2.2)),t11,w64 (t12+1))
 else
 Av rec n (t0,t1,t2,t3,(t9.1,(t9.2.1,t9.2.2)),(t10.1,(t10.2.1,t10.2.2)),t11,w64 (t12+1))
 else none
 else none
 else none
 else
 (B1 t3).bind λr5=>
 if r5.length+ [t12].length<=lim then
 if inb t11 t1 then
 (DE (gd t1 t11 []) (r5++ [t12])).bind λr6=>
 if r6 then
 (rec (t0,t1,t2,r5++ [t12],(t9.1,(t9.2.1,t9.2.2)))).bind λr7=>
 if r7.2.2==1 then
 if decide (r7.2.1>0)then
 some (.inr (r7.1,(r7.2.1,r7.2.2)))
 else
 Av rec n (t0,t1,t2,t3,(r7.1,(r7.2.1,r7.2.2)),(t10.1,(t10.2.1,t10.2.2)),t11,w64 (t12+1))
 else
 Av rec n (t0,t1,t2,t3,(r7.1,(r7.2.1,r7.2.2)),(t10.1,(t10.2.1,t10.2.2)),t11,w64 (t12+1))
 else
 if t9.2.2==1 then
 if decide (t9.2.1>0)then
 some (.inr (t9.1,(t9.2.1,t9.2.2)))
 else
 Av rec n (t0,t1,t2,t3,(t9.1,(t9.2.1,t9.2.2)),(t10.1,(t10.2.1,t10.2.2)),t11,w64 (t12+1))
 else
 Av rec n (t0,t1,t2,t3,(t9.1,(t9.2.1,t9.2.2)),(t10.1,(t10.2.1,t10.2.2)),t11,w64 (t12+1))
 else none
 else none
 else none
 else
 some (.inl ((t9.1,(t9.2.1,t9.2.2)),(t10.1,(t10.2.1,t10.2.2))))
def Ev (rec:(Int×(List (List ((List Int)×Int×(List (List Int)))))×(List Int)×(List Int)×((List (List Int))×(Int×Int)))->Option (((List (List Int))×(Int×Int)))) (t0:Int) (t1:List (List ((List Int)×Int×(List (List Int))))) (t2:List Int) (t3:List Int) (t4:(List (List Int))×(Int×Int)):Option (((List (List Int))×(Int×Int))):=
 if(t3.length:Int)==(t1.length:Int)then
  if decide ((t4.1.length:Int)<t4.2.2)then
   (B1 t3).bind λr1=>
    if t4.1.length+ [r1].length<=lim then
     some (t4.1++ [r1],(w64 (t4.2.1+1),t4.2.2))
    else none
  else
   some (t4.1,(w64 (t4.2.1+1),t4.2.2))
 else
  (Av rec Aa (t0,t1,t2,t3,(t4.1,(t4.2.1,t4.2.2)),([],(0,0)),(t3.length:Int),0)).bind λs2=>
   match s2 with
   | .inl s3=>
    some (s3.1.1,(s3.1.2.1,s3.1.2.2))
   | .inr s4=>
    some (s4.1,(s4.2.1,s4.2.2))
def BZ:Nat->(Int×(List (List ((List Int)×Int×(List (List Int)))))×(List Int)×(List Int)×((List (List Int))×(Int×Int)))->Option (((List (List Int))×(Int×Int)))
 |0,_=>none
 |d+1,x=>Ev (BZ d) x.1 x.2.1 x.2.2.1 x.2.2.2.1 x.2.2.2.2
def Er (n_:Int) (rels:List (Int×(List (List Int)))) (k:Int) (fixed:List Int) (most:Int):Option (((List (List Int))×(Int×Int))):=
 (EX n_ rels k).bind λr1=>
 (BZ Aa (n_,r1,fixed,[],([],(0,most)))).bind λr2=>
 some (r2.1,(r2.2.1,r2.2.2))
def Cu:Nat->(Int×(List (Int×(List (List Int))))×Int×Int)->Option ((Unit)⊕(Bool))
 |0,_=>none
 |n+1,(n_,t10,t11,t12)=>
 if decide (t12<t11)then
 if inb t12 t10 then
 (DJ n_ ((gd t10 t12 (0,[])).1,(gd t10 t12 (0,[])).2)).bind λr1=>
 if !r1 then
 some (.inr false)
 else
 Cu n (n_,t10,t11,w64 (t12+1))
 else none
 else
 some (.inl ())
def Fo (n_:Int) (rels:List (Int×(List (List Int)))):Option (Bool):=
 if decide ((rels.length:Int)>4)then
  some false
 else
  (Cu Aa (n_,rels,(rels.length:Int),0)).bind λs1=>
   match s1 with
   | .inl s2=>
    some true
   | .inr s3=>
    some s3
def CT:Nat->(Int×(List (Int×(List (List Int))))×Int×Int)->Option ((Unit)⊕(Bool))
 |0,_=>none
 |n+1,(k,t18,t19,t20)=>
 if decide (t20<t19)then
 if inb t20 t18 then
 if k==3 then
 if decide ((((gd t18 t20 (0,[])).2).length:Int)>12)then
 some (.inr false)
 else
 CT n (k,t18,t19,w64 (t20+1))
 else
 CT n (k,t18,t19,w64 (t20+1))
 else none
 else
 some (.inl ())
def FE (n_:Int) (rels:List (Int×(List (List Int)))) (k:Int):Option (Bool):=
 (CQ n_).bind λr1=>
  if !r1 then
   some false
  else
   (Fo n_ rels).bind λr2=>
    if !r2 then
     some false
    else
     (CT Aa (k,rels,(rels.length:Int),0)).bind λs3=>
      match s3 with
      | .inl s4=>
       some true
      | .inr s5=>
       some s5
def B5:Nat->((List Int)×Int×Int)->Option ((List Int))
 |0,_=>none
 |n+1,(list,t8,t9)=>
 if decide (t9<t8)then
 if inb t9 list then
 B5 n (stt list t9 (-1),t8,w64 (t9+1))
 else none
 else
 some list
def ED (many:Int):Option ((List Int)):=
 if 0<=many/\many<=many/\many<=lim then
 (B5 Aa (List.replicate (Int.toNat many) (0:Int),((List.replicate (Int.toNat many) (0:Int)).length:Int),0)).bind λs1=>
 some s1
 else none
def Dl:Nat->(Int×Int×(List Int)×Int)->Option ((List Int))
 |0,_=>none
 |n+1,(i,n_,args,j)=>
 if decide (j≥0)then
 if n_≠0 then
 if inb j args then
 if n_≠0 then
 Dl n (w64 (Int.tdiv i n_),n_,stt args j (Int.tmod i n_),w64 (j-1))
 else none
 else none
 else none
 else
 some args
def Em (i:Int) (k:Int) (n_:Int):Option ((List Int)):=
 if 0<=k/\k<=k/\k<=lim then
 (Dl Aa (i,n_,List.replicate (Int.toNat k) (0:Int),w64 (k-1))).bind λs1=>
 some s1
 else none
def Bg:Nat->(Unit×Int×Int×(Int×(Int×(List (List ((List Int)×(List ByteArray))))))×(Int×(List (List Int)))×(List ByteArray)×(List ByteArray)×Int×(List Int)×(List Int)×Int×Int×(List (Int×(List (List Int))))×Int×Int×Int×Int×Int×Int)->Option (Int×Int×(Int×(Int×(List (List ((List Int)×(List ByteArray))))))×(Int×(List (List Int)))×(List ByteArray)×(List ByteArray)×Int×(List Int)×(List Int)×Int×Int×(List (Int×(List (List Int))))×Int×Int×Int×Int)
 |0,_=>none
 |n+1,(al60,t0,t2,t7,t9,t10,t11,t12,t13,t14,t15,t16,t28,t29,t30,t56,t57,t61,t62)=>
 if decide (t62<t61)then
 if inb t62 t13 then
 if inb t16 t14 then
 if inb (gd t13 t62 0) t9.2 then
 if inb t16 (gd t9.2 (gd t13 t62 0) [])then
 if inb t16 t14 then
 Bg n ((),t0,t2,(t7.1,(t7.2.1,t7.2.2)),(t9.1,t9.2),t10,t11,t12,t13,stt t14 t16 (w64 ((w64 ((gd t14 t16 0)*t0))+(gd (gd t9.2 (gd t13 t62 0) []) t16 0))),t15,t16,t28,t29,t30,t56,t57,t61,w64 (t62+1))
 else none
 else none
 else none
 else none
 else none
 else
 some (t0,t2,(t7.1,(t7.2.1,t7.2.2)),(t9.1,t9.2),t10,t11,t12,t13,t14,t15,t16,t28,t29,t30,t56,t57)
def Bf:Nat->(Int×Int×(Int×(Int×(List (List ((List Int)×(List ByteArray))))))×(Int×(List (List Int)))×(List ByteArray)×(List ByteArray)×Int×(List Int)×(List Int)×Int×(List (Int×(List (List Int))))×Int×Int×Int×Int)->Option (Int×Int×(Int×(Int×(List (List ((List Int)×(List ByteArray))))))×(Int×(List (List Int)))×(List ByteArray)×(List ByteArray)×Int×(List Int)×Int×(List (Int×(List (List Int))))×Int×Int)
 |0,_=>none
 |n+1,(t0,t2,t7,t9,t10,t11,t12,t13,t14,t15,t28,t29,t30,t56,t57)=>
 if decide (t57<t56)then
 (Bg Aa ((),t0,t2,(t7.1,(t7.2.1,t7.2.2)),(t9.1,t9.2),t10,t11,t12,t13,t14,t15,t57,t28,t29,t30,t56,t57,(t13.length:Int),0)).bind λs5=>
 if inb s5.2.2.2.2.2.2.2.2.2.2.1 s5.2.2.2.2.2.2.2.2.1 then
 Bf n (s5.1,s5.2.1,(s5.2.2.1.1,(s5.2.2.1.2.1,s5.2.2.1.2.2)),(s5.2.2.2.1.1,s5.2.2.2.1.2),s5.2.2.2.2.1,s5.2.2.2.2.2.1,s5.2.2.2.2.2.2.1,s5.2.2.2.2.2.2.2.1,s5.2.2.2.2.2.2.2.2.1,Yht s5.2.2.2.2.2.2.2.2.2.1 (gd s5.2.2.2.2.2.2.2.2.1 s5.2.2.2.2.2.2.2.2.2.2.1 0),s5.2.2.2.2.2.2.2.2.2.2.2.1,s5.2.2.2.2.2.2.2.2.2.2.2.2.1,s5.2.2.2.2.2.2.2.2.2.2.2.2.2.1,s5.2.2.2.2.2.2.2.2.2.2.2.2.2.2.1,w64 (s5.2.2.2.2.2.2.2.2.2.2.2.2.2.2.2+1))
 else none
 else
 some (t0,t2,(t7.1,(t7.2.1,t7.2.2)),(t9.1,t9.2),t10,t11,t12,t14,t15,t28,t29,t30)
def A8:Nat->(Int×Int×(Int×(Int×(List (List ((List Int)×(List ByteArray))))))×(Int×(List (List Int)))×(List ByteArray)×(List ByteArray)×Int×(List (Int×(List (List Int))))×Int×Int)->Option (Int×Int×(Int×(Int×(List (List ((List Int)×(List ByteArray))))))×(List (Int×(List (List Int))))×Int×Int)
 |0,_=>none
 |n+1,(t0,t2,t7,t9,t10,t11,t12,t28,t29,t30)=>
 (Fe (t9.2.length:Int) t2).bind λr3=>
 if decide (t12<r3)then
 (Em t12 t2 (t9.2.length:Int)).bind λr4=>
 if 0<=t9.1/\t9.1<=t9.1/\t9.1<=lim then
 (Bf Aa (t0,t2,(t7.1,(t7.2.1,t7.2.2)),(t9.1,t9.2),t10,t11,t12,r4,List.replicate (Int.toNat t9.1) (0:Int),0,t28,t29,t30,((List.replicate (Int.toNat t9.1) (0:Int)).length:Int),0)).bind λs5=>
 (Dq s5.2.2.2.2.2.2.2.1).bind λr6=>
 if !(Ybm s5.2.2.2.2.2.1 r6)then
 if inb s5.2.2.2.2.2.2.2.2.1 s5.2.2.1.2.2 then
 if(gd s5.2.2.1.2.2 s5.2.2.2.2.2.2.2.2.1 []).length+ [(s5.2.2.2.2.2.2.2.1,s5.2.2.2.2.1)].length<=lim then
 if inb s5.2.2.2.2.2.2.2.2.1 s5.2.2.1.2.2 then
 if s5.2.2.2.2.2.2.2.2.1=s5.2.2.2.2.2.2.2.2.1 then
 A8 n (s5.1,s5.2.1,(s5.2.2.1.1,(s5.2.2.1.2.1,stt s5.2.2.1.2.2 s5.2.2.2.2.2.2.2.2.1 ((gd s5.2.2.1.2.2 s5.2.2.2.2.2.2.2.2.1 [])++ [(s5.2.2.2.2.2.2.2.1,s5.2.2.2.2.1)]))),(s5.2.2.2.1.1,s5.2.2.2.1.2),s5.2.2.2.2.1,YgL s5.2.2.2.2.2.1 r6,w64 (s5.2.2.2.2.2.2.1+1),s5.2.2.2.2.2.2.2.2.2.1,s5.2.2.2.2.2.2.2.2.2.2.1,s5.2.2.2.2.2.2.2.2.2.2.2)
 else none
 else none
 else none
 else none
 else
 A8 n (s5.1,s5.2.1,(s5.2.2.1.1,(s5.2.2.1.2.1,s5.2.2.1.2.2)),(s5.2.2.2.1.1,s5.2.2.2.1.2),s5.2.2.2.2.1,s5.2.2.2.2.2.1,w64 (s5.2.2.2.2.2.2.1+1),s5.2.2.2.2.2.2.2.2.2.1,s5.2.2.2.2.2.2.2.2.2.2.1,s5.2.2.2.2.2.2.2.2.2.2.2)
 else none
 else
 some (t0,t2,(t7.1,(t7.2.1,t7.2.2)),t28,t29,t30)
def Bs:Nat->(Int×Int×(Int×(Int×(List (List ((List Int)×(List ByteArray))))))×(List (Int×(List (List Int))))×Int×Int)->Option ((Int×(Int×(List (List ((List Int)×(List ByteArray)))))))
 |0,_=>none
 |n+1,(t0,t2,t7,t28,t29,t30)=>
 if decide (t30<t29)then
 if inb t30 t28 then
 (DD ((gd t28 t30 (0,[])).1,(gd t28 t30 (0,[])).2)).bind λr2=>
 (A8 Aa (t0,t2,(t7.1,(t7.2.1,t7.2.2)),((gd t28 t30 (0,[])).1,(gd t28 t30 (0,[])).2),r2,[],0,t28,t29,t30)).bind λs3=>
 Bs n (s3.1,s3.2.1,(s3.2.2.1.1,(s3.2.2.1.2.1,s3.2.2.1.2.2)),s3.2.2.2.1,s3.2.2.2.2.1,w64 (s3.2.2.2.2.2+1))
 else none
 else
 some (t7.1,(t7.2.1,t7.2.2))
def DO (t0:Int) (t1:List (Int×(List (List Int)))) (t2:Int):Option ((Bool×Int×Int×(List (List ((List Int)×(List ByteArray)))))):=
 (Fe t0 t2).bind λr1=>
 if 0<=r1/\r1<=r1/\r1<=lim then
 (Bs Aa (t0,t2,(t0,(t2,List.replicate (Int.toNat r1) ([]:List ((List Int)×(List ByteArray))))),t1,(t1.length:Int),0)).bind λs2=>
 some (true,(s2.1,(s2.2.1,s2.2.2)))
 else none
def Gj (list:List Int):Option ((List Int)):=
 if([]:List Int).length+list.length<=lim then
 some ([]++list)
 else none
def AR:Nat->((List Int)×(List ((List Int)×(List ByteArray)))×Int×Int)->Option ((Unit)⊕(Bool))
 |0,_=>none
 |n+1,(table,t15,t16,t17)=>
 if decide (t17<t16)then
 if inb t17 t15 then
 (CH ((gd t15 t17 ([],[])).1) table).bind λr1=>
 (Dq r1).bind λr2=>
 if !(Ybm ((gd t15 t17 ([],[])).2) r2)then
 some (.inr false)
 else
 AR n (table,t15,t16,w64 (t17+1))
 else none
 else
 some (.inl ())
def AT (s:Bool×Int×Int×(List (List ((List Int)×(List ByteArray))))) (table:List Int) (at_:Int):Option (Bool):=
 if s.1=true then
  if inb at_ s.2.2.2 then
   (AR Aa (table,gd s.2.2.2 at_ [],((gd s.2.2.2 at_ []).length:Int),0)).bind λs1=>
    match s1 with
    | .inl s2=>
     some true
    | .inr s3=>
     some s3
  else none
 else none
def GU (f:List Int):Option (Bool):=
 some true
def Di (table:List Int) (t1:Unit) (t2:Int) (t3:Int×(List Int)) (t4:Bool):Option (Int×(Int×(List Int))×Bool×Bool):=
 (GU table).bind λr1=>
 if r1 then
 (Gj table).bind λr2=>
 some (t2,(t2,r2),true,!true)
 else
 some (t2,(t3.1,t3.2),t4,!t4)
def Ae (rec:(Int×(List Int)×(Unit×(Int×((Int×(List Int))×Bool)))×(Bool×Int×Int×(List (List ((List Int)×(List ByteArray)))))×(List Int)×Unit)->Option ((List Int)×(Unit×(Int×((Int×(List Int))×Bool)))×(Bool×Int×Int×(List (List ((List Int)×(List ByteArray)))))×(List Int)×Bool)):Nat->(Int×(List Int)×(Unit×(Int×((Int×(List Int))×Bool)))×(Bool×Int×Int×(List (List ((List Int)×(List ByteArray)))))×(List Int)×Unit×Int)->Option (((List Int)×(Unit×(Int×((Int×(List Int))×Bool)))×(Bool×Int×Int×(List (List ((List Int)×(List ByteArray)))))×(List Int)×Unit)⊕((List Int)×(Unit×(Int×((Int×(List Int))×Bool)))×(Bool×Int×Int×(List (List ((List Int)×(List ByteArray)))))×(List Int)×Unit×Bool))
 |0,_=>none
 |n+1,(at_,t1,t2,t3,t4,t5,x)=>
 if t3.1=true then
 if decide (x<t3.2.1)then
 if inb at_ t4 then
 if decide ((gd t4 at_ 0)≥0)then
 if inb at_ t4 then
 if(gd t4 at_ 0) !=x then
 Ae rec n (at_,t1,(t2.1,(t2.2.1,((t2.2.2.1.1,t2.2.2.1.2),t2.2.2.2))),t3,t4,(),w64 (x+1))
 else
 if inb at_ t1 then
 (AT t3 (stt t1 at_ x) at_).bind λr2=>
 if r2 then
 (rec (w64 (at_+1),stt t1 at_ x,(t2.1,(t2.2.1,((t2.2.2.1.1,t2.2.2.1.2),t2.2.2.2))),t3,t4,())).bind λr3=>
 if !r3.2.2.2.2 then
 some (.inr (r3.1,(r3.2.1.1,(r3.2.1.2.1,((r3.2.1.2.2.1.1,r3.2.1.2.2.1.2),r3.2.1.2.2.2))),r3.2.2.1,r3.2.2.2.1,(),false))
 else
 Ae rec n (at_,r3.1,(r3.2.1.1,(r3.2.1.2.1,((r3.2.1.2.2.1.1,r3.2.1.2.2.1.2),r3.2.1.2.2.2))),r3.2.2.1,r3.2.2.2.1,(),w64 (x+1))
 else
 Ae rec n (at_,stt t1 at_ x,(t2.1,(t2.2.1,((t2.2.2.1.1,t2.2.2.1.2),t2.2.2.2))),t3,t4,(),w64 (x+1))
 else none
 else none
 else
 if inb at_ t1 then
 (AT t3 (stt t1 at_ x) at_).bind λr4=>
 if r4 then
 (rec (w64 (at_+1),stt t1 at_ x,(t2.1,(t2.2.1,((t2.2.2.1.1,t2.2.2.1.2),t2.2.2.2))),t3,t4,())).bind λr5=>
 if !r5.2.2.2.2 then
 some (.inr (r5.1,(r5.2.1.1,(r5.2.1.2.1,((r5.2.1.2.2.1.1,r5.2.1.2.2.1.2),r5.2.1.2.2.2))),r5.2.2.1,r5.2.2.2.1,(),false))
 else
 Ae rec n (at_,r5.1,(r5.2.1.1,(r5.2.1.2.1,((r5.2.1.2.2.1.1,r5.2.1.2.2.1.2),r5.2.1.2.2.2))),r5.2.2.1,r5.2.2.2.1,(),w64 (x+1))
 else
 Ae rec n (at_,stt t1 at_ x,(t2.1,(t2.2.1,((t2.2.2.1.1,t2.2.2.1.2),t2.2.2.2))),t3,t4,(),w64 (x+1))
 else none
 else none
 else
 some (.inl (t1,(t2.1,(t2.2.1,((t2.2.2.1.1,t2.2.2.1.2),t2.2.2.2))),t3,t4,()))
 else none
def AN (rec:(Int×(List Int)×(Unit×(Int×((Int×(List Int))×Bool)))×(Bool×Int×Int×(List (List ((List Int)×(List ByteArray)))))×(List Int)×Unit)->Option ((List Int)×(Unit×(Int×((Int×(List Int))×Bool)))×(Bool×Int×Int×(List (List ((List Int)×(List ByteArray)))))×(List Int)×Bool)) (at_:Int) (t1:List Int) (t2:Unit×(Int×((Int×(List Int))×Bool))) (t3:Bool×Int×Int×(List (List ((List Int)×(List ByteArray))))) (t4:List Int) (t5:Unit):Option ((List Int)×(Unit×(Int×((Int×(List Int))×Bool)))×(Bool×Int×Int×(List (List ((List Int)×(List ByteArray)))))×(List Int)×Bool):=
 if at_==(t1.length:Int)then
  (Di t1 t2.1 t2.2.1 (t2.2.2.1.1,t2.2.2.1.2) t2.2.2.2).bind λr1=>
   some (t1,((),(r1.1,((r1.2.1.1,r1.2.1.2),r1.2.2.1))),t3,t4,r1.2.2.2)
 else
  (Ae rec Aa (at_,t1,(t2.1,(t2.2.1,((t2.2.2.1.1,t2.2.2.1.2),t2.2.2.2))),t3,t4,(),0)).bind λs2=>
   match s2 with
   | .inl s3=>
    some (s3.1,(s3.2.1.1,(s3.2.1.2.1,((s3.2.1.2.2.1.1,s3.2.1.2.2.1.2),s3.2.1.2.2.2))),s3.2.2.1,s3.2.2.2.1,true)
   | .inr s4=>
    some (s4.1,(s4.2.1.1,(s4.2.1.2.1,((s4.2.1.2.2.1.1,s4.2.1.2.2.1.2),s4.2.1.2.2.2))),s4.2.2.1,s4.2.2.2.1,s4.2.2.2.2.2)
def Ak:Nat->(Int×(List Int)×(Unit×(Int×((Int×(List Int))×Bool)))×(Bool×Int×Int×(List (List ((List Int)×(List ByteArray)))))×(List Int)×Unit)->Option ((List Int)×(Unit×(Int×((Int×(List Int))×Bool)))×(Bool×Int×Int×(List (List ((List Int)×(List ByteArray)))))×(List Int)×Bool)
 |0,_=>none
 |d+1,x=>AN (Ak d) x.1 x.2.1 x.2.2.1 x.2.2.2.1 x.2.2.2.2.1 x.2.2.2.2.2
def Bd (s:Bool×Int×Int×(List (List ((List Int)×(List ByteArray))))) (given:List Int) (found:Unit×(Int×((Int×(List Int))×Bool))):Option ((Unit×(Int×((Int×(List Int))×Bool)))):=
 if 0<=(given.length:Int)/\(given.length:Int)<=(given.length:Int)/\(given.length:Int)<=lim then
 (Ak Aa (0,List.replicate (Int.toNat (given.length:Int)) (0:Int),(found.1,(found.2.1,((found.2.2.1.1,found.2.2.1.2),found.2.2.2))),s,given,())).bind λr1=>
 some (r1.2.1.1,(r1.2.1.2.1,((r1.2.1.2.2.1.1,r1.2.1.2.2.1.2),r1.2.1.2.2.2)))
 else none
def BE (n_:Int) (rels:List (Int×(List (List Int)))) (k:Int) (given:List Int) (good:Unit):Option ((Int×(List Int))×Bool):=
 (DO n_ rels k).bind λr1=>
 (Bd r1 given (good,(k,((0,[]),false)))).bind λr2=>
 some ((r2.2.2.1.1,r2.2.2.1.2),r2.2.2.2)
def Gc (n_:Int) (rels:List (Int×(List (List Int)))) (fixed:List Int):Option ((Int×(List Int))×Bool):=
 (Er n_ rels 3 fixed 1).bind λr1=>
 if r1.2.1==0 then
 some ((0,[]),false)
 else
 if inb 0 r1.1 then
 some ((3,gd r1.1 0 []),true)
 else none
def AH:Nat->(Int×(List (Int×(List (List Int))))×(Int×(List Int))×(List Int)×Int×Int)->Option (Int×(List (Int×(List (List Int))))×(Int×(List Int))×(List Int)×Int)
 |0,_=>none
 |n+1,(t0,t1,t4,t6,t7,t8)=>
 if decide (t8<t0)then
 if inb (w64 ((w64 ((w64 ((w64 (t7*t0))*t0))+(w64 (t7*t0))))+t8)) t6 then
 if inb (w64 ((w64 ((w64 ((w64 (t7*t0))*t0))+(w64 (t8*t0))))+t7)) (stt t6 (w64 ((w64 ((w64 ((w64 (t7*t0))*t0))+(w64 (t7*t0))))+t8)) t7)then
 if inb (w64 ((w64 ((w64 ((w64 (t8*t0))*t0))+(w64 (t7*t0))))+t7)) (stt (stt t6 (w64 ((w64 ((w64 ((w64 (t7*t0))*t0))+(w64 (t7*t0))))+t8)) t7) (w64 ((w64 ((w64 ((w64 (t7*t0))*t0))+(w64 (t8*t0))))+t7)) t7)then
 AH n (t0,t1,(t4.1,t4.2),stt (stt (stt t6 (w64 ((w64 ((w64 ((w64 (t7*t0))*t0))+(w64 (t7*t0))))+t8)) t7) (w64 ((w64 ((w64 ((w64 (t7*t0))*t0))+(w64 (t8*t0))))+t7)) t7) (w64 ((w64 ((w64 ((w64 (t8*t0))*t0))+(w64 (t7*t0))))+t7)) t7,t7,w64 (t8+1))
 else none
 else none
 else none
 else
 some (t0,t1,(t4.1,t4.2),t6,t7)
def AG:Nat->(Int×(List (Int×(List (List Int))))×(Int×(List Int))×(List Int)×Int)->Option (Int×(List (Int×(List (List Int))))×(Int×(List Int))×(List Int))
 |0,_=>none
 |n+1,(t0,t1,t4,t6,t7)=>
 if decide (t7<t0)then
 (AH Aa (t0,t1,(t4.1,t4.2),t6,t7,0)).bind λs3=>
 AG n (s3.1,s3.2.1,(s3.2.2.1.1,s3.2.2.1.2),s3.2.2.2.1,w64 (s3.2.2.2.2+1))
 else
 some (t0,t1,(t4.1,t4.2),t6)
def AE (t0:Int) (t1:List (Int×(List (List Int)))):Option ((Int×(List Int))×Bool):=
 (EY t0 t1 3).bind λr1=>
 if !r1 then
 some ((0,[]),false)
 else
 if decide (t0>3)then
 some ((0,[]),false)
 else
 (Fi (w64 ((w64 (t0*t0))*t0))).bind λr2=>
 (AG Aa (t0,t1,(0,[]),r2,0)).bind λs3=>
 (Gc s3.1 s3.2.1 s3.2.2.2).bind λr4=>
 some ((r4.1.1,r4.1.2),r4.2)
def Ao:Nat->(Int×(List (Int×(List (List Int))))×(Int×(List Int))×(List Int)×Int×Int)->Option (Int×(List (Int×(List (List Int))))×(Int×(List Int))×(List Int))
 |0,_=>none
 |n+1,(t0,t1,t4,t6,t25,t26)=>
 if decide (t26<t25)then
 (Em t26 3 t0).bind λr3=>
 if inb 0 r3 then
 if inb 1 r3 then
 if(gd r3 0 0)==(gd r3 1 0)then
 if inb 0 r3 then
 if inb t26 t6 then
 Ao n (t0,t1,(t4.1,t4.2),stt t6 t26 (gd r3 0 0),t25,w64 (t26+1))
 else none
 else none
 else
 if inb 0 r3 then
 if inb 2 r3 then
 if(gd r3 0 0)==(gd r3 2 0)then
 if inb 0 r3 then
 if inb t26 t6 then
 Ao n (t0,t1,(t4.1,t4.2),stt t6 t26 (gd r3 0 0),t25,w64 (t26+1))
 else none
 else none
 else
 if inb 1 r3 then
 if inb 2 r3 then
 if(gd r3 1 0)==(gd r3 2 0)then
 if inb 1 r3 then
 if inb t26 t6 then
 Ao n (t0,t1,(t4.1,t4.2),stt t6 t26 (gd r3 1 0),t25,w64 (t26+1))
 else none
 else none
 else
 Ao n (t0,t1,(t4.1,t4.2),t6,t25,w64 (t26+1))
 else none
 else none
 else none
 else none
 else none
 else none
 else
 some (t0,t1,(t4.1,t4.2),t6)
def AC (t0:Int) (t1:List (Int×(List (List Int)))):Option ((Int×(List Int))×Bool):=
 (FE t0 t1 3).bind λr1=>
 if !r1 then
 some ((0,[]),false)
 else
 if decide (t0>3)then
 some ((0,[]),false)
 else
 (ED (w64 ((w64 (t0*t0))*t0))).bind λr2=>
 (Ao Aa (t0,t1,(0,[]),r2,(r2.length:Int),0)).bind λs3=>
 (BE s3.1 s3.2.1 3 s3.2.2.2 ()).bind λr4=>
 some ((r4.1.1,r4.1.2),r4.2)
end T
open Go Go.Va
namespace T
theorem LN {a b:Nat} (ha:a<4611686018427387904):w64 (Int.tdiv (a:Int) (b:Int))=((a/b:Nat):Int):=by
 rw[Int.tdiv_eq_ediv_of_nonneg (by omega),←Int.natCast_ediv]
 have:=Nat.div_le_self a b
 generalize a/b=q at this
 exact AL (by omega) (by omega)
theorem LO {a b:Nat}:Int.tmod (a:Int) (b:Int)=((a%b:Nat):Int):=by
 rw[Int.tmod_eq_emod_of_nonneg (by omega),←Int.natCast_emod]
section
variable {n:Nat}
theorem Jh {a:Nat} (h:a<4611686018427387904):w64 (a:Int)=(a:Int):=AL (by omega) (by omega)
end
end T
open Go Go.Va
namespace T
abbrev Bb:=Int×List (List Int)
structure ROk (n m:Nat) (r:Bb):Prop where
 ar:r.1=(m:Int)
 hm:1<=m/\m<=3
 tl: ∀t∈r.2,t.length=m
 tv: ∀t∈r.2,∀x∈t,0<=x/\x<(n:Int)
 many:r.2.length<=64
 inc:D7 r.2=true
theorem Mr {n:Nat} {r:Bb} (hn:1<=n/\n<=4) (h:Fz (n:Int) r=true):ROk n r.1.toNat r:=by
 unfold Fz at h
 simp only[Bool.and_eq_true,decide_eq_true_eq,List.all_eq_true]at h
 obtain⟨⟨h1,h2⟩,h3⟩:=h
 refine⟨by omega,by omega,λt ht=>by have:=(h2 t ht).1;omega,λt ht x hx=>?_,?_,h3⟩
 ·obtain⟨j,hj,rfl⟩:=List.mem_iff_getElem.1 hx
  exact Gf (h2 t ht).2 j hj
 ·rcases GK (n:=(n:Int)) (k:=r.1.toNat) h3 λt ht=>⟨by have:=(h2 t ht).1;omega,(h2 t ht).2⟩with h6|h6
  ·have h7:((n:Int))^r.1.toNat=((n^r.1.toNat:Nat):Int):=by push_cast;rfl
   have h8:=Dz hn.2 (show r.1.toNat<=3 by omega)
   omega
  ·rw[h6];simp
theorem KZ {b:Nat} (hb:b<=64): ∀(m k j:Nat),j+k<=3->k<m->CP m ((b:Int),(k:Int),((b^j:Nat):Int))=some (((b^(j+k):Nat):Int)):=by
 intro m
 induction m with
 |zero=>intro k j _ h;omega
 |succ m ih=>
  intro k j hj hk
  simp only[CP]
  cases k with
  |zero=>simp
  |succ k=>
   have e:w64 (((k+1:Nat):Int)-1)=(k:Int):=by rw[AL (by omega) (by omega)];omega
   rw[e,IK hb (by omega),if_pos (by simp),ih k (j+1) (by omega) (by omega)]
   congr 3;omega
theorem Fm {b k:Nat} (hb:b<=64) (hk:k<=3):Dw (b:Int) (k:Int)=some (((b^k:Nat):Int)):=by
 unfold Dw
 have:=KZ hb Aa k 0 (by omega) (by unfold Aa;omega)
 have this:CP Aa ((b:Int),(k:Int),1)=_:=this
 rw[this];simp
theorem Kj {l:List Nat} {s:List Nat} {x y:Nat}:(cI (l++x::s)).set l.length (y:Int)=cI (l++y::s):=by
 unfold cI
 rw[List.map_append,List.map_append,List.map_cons,List.map_cons,List.set_append_right _ _ (by simp)]
 simp
theorem K8 {b:Nat} (hb:0<b): ∀(j i f:Nat) (s:List Nat),j<f->i<4611686018427387904->j<=1000->
  Dl f ((i:Int),(b:Int),cI (List.replicate j 0++s),(j:Int)-1)=some (cI (dg b j i++s)):=by
 intro j
 induction j with
 |zero=>
  intro i f s hf hi hj
  obtain⟨f,rfl⟩: ∃z,f=z+1:=⟨f-1,by omega⟩
  simp only[Dl]
  rw[if_neg (by simp)];rfl
 |succ j ih=>
  intro i f s hf hi hj
  obtain⟨f,rfl⟩: ∃z,f=z+1:=⟨f-1,by omega⟩
  have e1:((j+1:Nat):Int)-1=(j:Int):=by omega
  have hz:List.replicate (j+1) 0++s=List.replicate j 0++0::s:=by rw[List.replicate_succ'];simp
  have hlen:j<(cI (List.replicate j 0++0::s)).length:=by rw[Dk];simp
  have hset:=Kj (l:=List.replicate j 0) (s:=s) (x:=0) (y:=i%b)
  rw[List.length_replicate]at hset
  have w2:w64 ((j:Int)-1)=(j:Int)-1:=AL (by omega) (by omega)
  have hle:=Nat.div_le_self i b
  rw[e1,hz]
  simp only[Dl,LN hi,LO,Ac,hlen,BD,hset,w2]
  rw[if_pos (by simp),if_pos (by omega),if_pos trivial,if_pos (by omega),ih (i/b) f _ (by omega) (by omega) (by omega)]
  simp[dg]
theorem FD {b k i:Nat} (hb:0<b) (hk:k<=1000) (hi:i<4611686018427387904):Em (i:Int) (k:Int) (b:Int)=some (cI (dg b k i)):=by
 have h:=K8 hb k i Aa [] (by unfold Aa;omega) hi hk
 have e:cI (List.replicate k 0++ [])=List.replicate (Int.toNat (k:Int)) (0:Int):=by unfold cI;simp
 rw[e,List.append_nil]at h
 unfold Em
 rw[AL (x:=(k:Int)-1) (by omega) (by omega),h,if_pos (by unfold lim;omega)];rfl
theorem JU {b:Nat} (hb:0<b): ∀(j i f:Nat) (s:List Nat),j<f->i<4611686018427387904->j<=1000->
  Dv f ((b:Int),(i:Int),cI (List.replicate j 0++s),(j:Int)-1)=some (cI (dg b j i++s)):=by
 intro j
 induction j with
 |zero=>
  intro i f s hf hi hj
  obtain⟨f,rfl⟩: ∃z,f=z+1:=⟨f-1,by omega⟩
  simp only[Dv]
  rw[if_neg (by simp)];rfl
 |succ j ih=>
  intro i f s hf hi hj
  obtain⟨f,rfl⟩: ∃z,f=z+1:=⟨f-1,by omega⟩
  have e1:((j+1:Nat):Int)-1=(j:Int):=by omega
  have hz:List.replicate (j+1) 0++s=List.replicate j 0++0::s:=by rw[List.replicate_succ'];simp
  have hlen:j<(cI (List.replicate j 0++0::s)).length:=by rw[Dk];simp
  have hset:=Kj (l:=List.replicate j 0) (s:=s) (x:=0) (y:=i%b)
  rw[List.length_replicate]at hset
  have w2:w64 ((j:Int)-1)=(j:Int)-1:=AL (by omega) (by omega)
  have hle:=Nat.div_le_self i b
  rw[e1,hz]
  simp only[Dv,LN hi,LO,Ac,hlen,BD,hset,w2]
  rw[if_pos (by simp),if_pos (by omega),if_pos trivial,if_pos (by omega),ih (i/b) f _ (by omega) (by omega) (by omega)]
  simp[dg]
theorem FV {b k i:Nat} (hb:0<b) (hk:k<=1000) (hi:i<4611686018427387904):ET (b:Int) (k:Int) (i:Int)=some (cI (dg b k i)):=by
 have h:=JU hb k i Aa [] (by unfold Aa;omega) hi hk
 have e:cI (List.replicate k 0++ [])=List.replicate (Int.toNat (k:Int)) (0:Int):=by unfold cI;simp
 rw[e,List.append_nil]at h
 unfold ET
 rw[AL (x:=(k:Int)-1) (by omega) (by omega),h,if_pos (by unfold lim;omega)];rfl
def PL (n k:Nat) (r:Bb) (i:Nat):List Nat:=(List.range r.1.toNat).map λj=>atF n r.2 j (dg r.2.length k i)
def Bu (l:List Nat):Nat:=l.foldl max 0
theorem FN: ∀(l:List Nat) (a:Nat),a<=l.foldl max a/\ ∀x∈l,x<=l.foldl max a
 | [],a=>⟨Nat.le_refl _,λx h=>by simp at h⟩
 |y::l,a=>by
  obtain⟨h1,h2⟩:=FN l (max a y)
  refine⟨by rw[List.foldl_cons];omega,λx hx=>?_⟩
  rw[List.foldl_cons]
  rcases List.mem_cons.1 hx with rfl|hx
  ·omega
  ·exact h2 x hx
theorem Hm {l:List Nat} {b:Nat} (hb:0<b) (h: ∀x∈l,x<b):Bu l<b:=by
 unfold Bu
 have key: ∀(l:List Nat) (a:Nat),a<b->(∀x∈l,x<b)->l.foldl max a<b:=by
  intro l
  induction l with
  |nil=>intro a ha _;exact ha
  |cons y l ih=>intro a ha hl;rw[List.foldl_cons];exact ih _ (by have:=hl y (by simp);omega) λx hx=>hl x (List.mem_cons_of_mem _ hx)
 exact key l 0 hb h
section
variable {n k m:Nat} {r:Bb}
theorem ROk.vt_lt (h:ROk n m r) {x j:Nat} (hx:x<r.2.length) (hj:j<m):vt r.2 x j<n/\(r.2.getD x []).getD j 0=((vt r.2 x j:Nat):Int)/\j<(r.2.getD x []).length:=by
 have hmem:r.2[x]∈r.2:=List.getElem_mem hx
 have hl:=h.tl _ hmem
 have hj':j<(r.2[x]).length:=by omega
 have hv:=h.tv _ hmem _ (List.getElem_mem hj')
 unfold vt
 rw[Ah hx,Ah hj']
 exact⟨by omega,by omega,by omega⟩
theorem ROk.at_lt (h:ROk n m r) {j:Nat} (hj:j<m) (a:List Nat) (ha: ∀x∈a,x<r.2.length):atF n r.2 j a<n^a.length:=by
 have:=Jq (n:=n) (v:=λx=>vt r.2 x j) a 0 λx hx=>(h.vt_lt (ha x hx) hj).1
 unfold atF;omega
theorem ROk.pl_lt (h:ROk n m r) {i:Nat} (hb:0<r.2.length): ∀x∈PL n k r i,x<n^k:=λx hx=>by
 unfold PL at hx
 obtain⟨j,hj,rfl⟩:=List.mem_map.1 hx
 have:=h.at_lt (j:=j) (by have:=List.mem_range.1 hj;have:=h.ar;omega) (dg r.2.length k i) (Jn hb)
 rw[GH]at this
 exact this
theorem ROk.pl_len (h:ROk n m r) {i:Nat}:(PL n k r i).length=m:=by unfold PL;simp;have:=h.ar;omega
end
end T
open Go Go.Va
namespace T
def GS {α:Type} (X:List (List α)) (p:Nat) (d:α):List (List α):=X.set p (X.getD p []++ [d])
theorem HJ {α:Type} {X:List (List α)} {p:Nat} {d:α}:(GS X p d).length=X.length:=by unfold GS;simp
theorem GF {α:Type} {X:List (List α)} {p q:Nat} {d:α} (hp:p<X.length):(GS X p d).getD q []=if q=p then X.getD p []++ [d]else X.getD q []:=by
 unfold GS
 by_cases e:q=p
 ·subst e;rw[if_pos rfl,Ah (by simp;exact hp)];simp
 ·rw[if_neg e]
  simp only[List.getD_eq_getElem?_getD]
  rw[List.getElem?_set_ne (by omega)]
abbrev DT:=List (List (List Int×List ByteArray))
def Ex (n k:Nat) (r:Bb) (X:DT×List ByteArray) (i:Nat):DT×List ByteArray:=
 if Ybm X.2 (EW (cI (PL n k r i)))then X else(GS X.1 (Bu (PL n k r i)) (cI (PL n k r i),D0 r.2),YgL X.2 (EW (cI (PL n k r i))))
def GN (n k:Nat) (D:DT) (r:Bb):DT:=((List.range (r.2.length^k)).foldl (Ex n k r) (D,[])).1
abbrev NT:=List (List (List Int×Int×List (List Int)))
def FZ (n k:Nat) (r:Bb) (X:NT) (i:Nat):NT:=GS X (Bu (PL n k r i)) (cI (PL n k r i),r)
def Gl (n k:Nat) (X:NT) (r:Bb):NT:=(List.range (r.2.length^k)).foldl (FZ n k r) X
section
variable {n k m:Nat} {r:Bb}
theorem Me (h:ROk n m r) (hn:1<=n/\n<=4) (hk:k<=3) {args:List Nat} (hl:args.length<=3) (ha: ∀x∈args,x<r.2.length) {j:Nat} (hj:j<m) {o:List Int} (ho:j<o.length) (h0:o.getD j 0=0)
  (p q:Int) (D:DT) (t10 t11:List ByteArray) (t12 t15:Int) (t28:List Bb) (t29 t30 t56:Int):
  Bg Aa ((),(n:Int),(k:Int),(p,(q,D)),(r.1,r.2),t10,t11,t12,cI args,o,t15,(j:Int),t28,t29,t30,t56,(j:Int),((cI args).length:Int),0)
   =some ((n:Int),(k:Int),(p,(q,D)),(r.1,r.2),t10,t11,t12,cI args,o.set j ((atF n r.2 j args:Nat):Int),t15,(j:Int),t28,t29,t30,t56,(j:Int)):=by
 have:=CO args.length (λf o i=>Bg f ((),(n:Int),(k:Int),(p,(q,D)),(r.1,r.2),t10,t11,t12,cI args,o,t15,(j:Int),t28,t29,t30,t56,(j:Int),((cI args).length:Int),i)) (λz=>o.set j ((atF n r.2 j (args.take z):Nat):Int))
  (r:=some ((n:Int),(k:Int),(p,(q,D)),(r.1,r.2),t10,t11,t12,cI args,o.set j ((atF n r.2 j args:Nat):Int),t15,(j:Int),t28,t29,t30,t56,(j:Int))) (λf z hz=>?_) (λf=>?_) (n:=Aa) (by unfold Aa;omega)
 ·have e:o.set j ((atF n r.2 j (args.take 0):Nat):Int)=o:=by
   have:((atF n r.2 j (args.take 0):Nat):Int)=o[j]:=by rw[Ah ho]at h0;rw[h0];rfl
   rw[this,List.set_getElem_self]
  rw[e]at this
  exact this
 ·have hzc:z<(cI args).length:=by rw[Dk];exact hz
  have hx:=ha _ (List.getElem_mem hz)
  have hg:(cI args).getD z 0=((args[z]:Nat):Int):=by rw[Ah hzc];simp[cI]
  obtain⟨v1,v2,v3⟩:=h.vt_lt hx hj
  have hlt:=h.at_lt hj (args.take z) λx hx=>ha x (List.mem_of_mem_take hx)
  have hp:=Dz (n:=n) (k:=(args.take z).length) hn.2 (by rw[List.length_take];omega)
  have hstep:=IW (n:=n) hn.2 (x:=atF n r.2 j (args.take z)) (v:=vt r.2 args[z] j) (by omega) v1
  have htk:args.take (z+1)=args.take z++ [args[z]]:=List.take_succ_eq_append_getElem hz
  have hos:j<(o.set j ((atF n r.2 j (args.take z):Nat):Int)).length:=by simp;exact ho
  have hog:(o.set j ((atF n r.2 j (args.take z):Nat):Int)).getD j 0=((atF n r.2 j (args.take z):Nat):Int):=by rw[Ah hos];simp
  have hoo: ∀y:Int,(o.set j ((atF n r.2 j (args.take z):Nat):Int)).set j y=o.set j y:=λy=>by simp
  simp only[Bg,Ac,hzc,Ea,hg,hos,hog,hx,v3,v2,hstep,BD,hoo,htk,G9,Ab (show z<4611686018427387904 by omega),if_true]
  rw[if_pos (by simp;rw[Dk];exact hz)]
 ·simp only[Bg,List.take_length]
  rw[if_neg (by rw[Dk];simp)]
theorem Ia {i j:Nat} (hj:j<(PL n k r i).length):(PL n k r i)[j]=atF n r.2 j (dg r.2.length k i):=by simp[PL]
theorem Hn {l:List Nat} {j:Nat} (hj:j<l.length):Bu (l.take (j+1))=max (Bu (l.take j)) l[j]:=by
 unfold Bu;rw[List.take_succ_eq_append_getElem hj,List.foldl_append];rfl
theorem KR (a b:Nat):Yht (a:Int) (b:Int)=((max a b:Nat):Int):=by
 unfold Yht
 by_cases h:b>a
 ·rw[if_pos (by omega)];omega
 ·rw[if_neg (by omega)];omega
theorem Md (h:ROk n m r) (hn:1<=n/\n<=4) (hk:k<=3) (hb:0<r.2.length) (i:Nat) (p q:Int) (D:DT) (t10 t11:List ByteArray) (t12:Int) (t28:List Bb) (t29 t30:Int):
  Bf Aa ((n:Int),(k:Int),(p,(q,D)),(r.1,r.2),t10,t11,t12,cI (dg r.2.length k i),List.replicate (Int.toNat r.1) (0:Int),0,t28,t29,t30,((List.replicate (Int.toNat r.1) (0:Int)).length:Int),0)
   =some ((n:Int),(k:Int),(p,(q,D)),(r.1,r.2),t10,t11,t12,cI (PL n k r i),((Bu (PL n k r i):Nat):Int),t28,t29,t30):=by
 have hm:=h.hm
 have har:=h.ar
 have hpl:=h.pl_len (k:=k) (i:=i)
 have hrep:List.replicate (Int.toNat r.1) (0:Int)=List.replicate m 0:=by rw[har];simp
 rw[hrep]
 have:=CO m (λf (s:List Int×Int) j=>Bf f ((n:Int),(k:Int),(p,(q,D)),(r.1,r.2),t10,t11,t12,cI (dg r.2.length k i),s.1,s.2,t28,t29,t30,((List.replicate m (0:Int)).length:Int),j))
  (λj=>(cI ((PL n k r i).take j)++List.replicate (m-j) 0,((Bu ((PL n k r i).take j):Nat):Int)))
  (r:=some ((n:Int),(k:Int),(p,(q,D)),(r.1,r.2),t10,t11,t12,cI (PL n k r i),((Bu (PL n k r i):Nat):Int),t28,t29,t30)) (λf j hj=>?_) (λf=>?_) (n:=Aa) (by unfold Aa;omega)
 ·exact this
 ·have hjl:j<(PL n k r i).length:=by omega
  have htl:((PL n k r i).take j).length=j:=by rw[List.length_take];omega
  have hol:j<(cI ((PL n k r i).take j)++List.replicate (m-j) 0).length:=by rw[List.length_append,Dk,htl];simp;omega
  have hog:(cI ((PL n k r i).take j)++List.replicate (m-j) 0).getD j 0=0:=by
   rw[Ah hol,List.getElem_append_right (by rw[Dk];omega)];simp
  have h17:=Me h hn hk (args:=dg r.2.length k i) (by rw[GH];exact hk) (Jn hb) hj hol hog p q D t10 t11 t12 ((Bu ((PL n k r i).take j):Nat):Int) t28 t29 t30 ((List.replicate m (0:Int)).length:Int)
  have hset:(cI ((PL n k r i).take j)++List.replicate (m-j) 0).set j ((atF n r.2 j (dg r.2.length k i):Nat):Int)=cI ((PL n k r i).take (j+1))++List.replicate (m-(j+1)) 0:=by
   rw[List.take_succ_eq_append_getElem hjl,Ia hjl,HL,show m-j=(m-(j+1))+1 by omega,List.replicate_succ,List.set_append_right _ _ (by rw[Dk];omega),Dk,htl]
   simp[cI]
  have hol':j<(cI ((PL n k r i).take (j+1))++List.replicate (m-(j+1)) 0).length:=by rw[←hset];simpa using hol
  have hog':(cI ((PL n k r i).take (j+1))++List.replicate (m-(j+1)) 0).getD j 0=(((PL n k r i)[j]:Nat):Int):=by
   rw[←hset,Ah (by rw[List.length_set];exact hol),Ia hjl];simp
  rw[hset]at h17
  simp only[Bf,h17,Option.bind_some,Ac,hol',Ea,hog',KR,Hn hjl,Ab (show j<4611686018427387904 by omega),if_true]
  rw[if_pos (by simp;omega)]
 ·have e:(PL n k r i).take m=PL n k r i:=List.take_of_length_le (by omega)
  simp only[Bf,e]
  rw[if_neg (by simp)];simp
theorem Ka (X:DT×List ByteArray) (i:Nat):(Ex n k r X i).1.length=X.1.length:=by unfold Ex;split<;>simp[HJ]
theorem F6: ∀(l:List Nat) (X:DT×List ByteArray),(l.foldl (Ex n k r) X).1.length=X.1.length
 | [],X=>rfl
 |i::l,X=>by rw[List.foldl_cons,F6 l];exact Ka X i
theorem IL (D:DT):(GN n k D r).length=D.length:=F6 _ _
def EQ {α:Type} (X:List (List α)) (B:Nat):Prop:= ∀p,(X.getD p []).length<=B
theorem G8 {α:Type} {X:List (List α)} {B:Nat} (h:EQ X B) {p:Nat} {d:α}:EQ (GS X p d) (B+1):=λq=>by
 rcases Nat.lt_or_ge p X.length with hp|hp
 ·rw[GF hp]
  have h1:=h p
  have h2:=h q
  split
  ·rw[List.length_append,List.length_singleton];omega
  ·omega
 ·unfold GS;rw[List.set_eq_of_length_le hp];have:=h q;omega
theorem Jf {X:DT×List ByteArray} {B:Nat} (h:EQ X.1 B) (i:Nat):EQ (Ex n k r X i).1 (B+1):=by
 unfold Ex
 split
 ·intro p;have:=h p;omega
 ·exact G8 h
theorem Gh: ∀(l:List Nat) (X:DT×List ByteArray) (B:Nat),EQ X.1 B->EQ (l.foldl (Ex n k r) X).1 (B+l.length)
 | [],X,B,h=>h
 |i::l,X,B,h=>by
  have:=Gh l _ _ (Jf (n:=n) (k:=k) (r:=r) h i)
  rw[List.foldl_cons,List.length_cons,show B+(l.length+1)=B+1+l.length by omega]
  exact this
theorem Eg {α:Type} {f:α->Nat->α} {a:α} {i:Nat}:(List.range (i+1)).foldl f a=f ((List.range i).foldl f a) i:=by rw[List.range_succ,List.foldl_append];rfl
theorem Ht (h:ROk n m r) (hn:1<=n/\n<=4) (hk:k<=3) (hb:0<r.2.length) (i:Nat): ∀x∈cI (PL n k r i),0<=x/\x<256:=λx hx=>by
 unfold cI at hx
 obtain⟨y,hy,rfl⟩:=List.mem_map.1 hx
 have:=h.pl_lt hb y hy
 have:=Dz hn.2 hk
 omega
theorem ML (h:ROk n m r) (hn:1<=n/\n<=4) (hk:k<=3) (hk1:0<k) {D:DT} (hD:D.length=n^k) {B:Nat} (hroom:EQ D B) (hB:B<=100000000) (p q:Int) (t28:List Bb) (t29 t30:Int):
  A8 Aa ((n:Int),(k:Int),(p,(q,D)),(r.1,r.2),D0 r.2,[],0,t28,t29,t30)
   =some ((n:Int),(k:Int),(p,(q,GN n k D r)),t28,t29,t30):=by
 have hm:=h.hm
 have har:=h.ar
 have hN:=Jz h.many hk
 have hmany:=h.many
 have:=CO (r.2.length^k) (λf (s:DT×List ByteArray) i=>A8 f ((n:Int),(k:Int),(p,(q,s.1)),(r.1,r.2),D0 r.2,s.2,i,t28,t29,t30)) (λi=>(List.range i).foldl (Ex n k r) (D,[]))
  (r:=some ((n:Int),(k:Int),(p,(q,GN n k D r)),t28,t29,t30)) (λf i hi=>?_) (λf=>?_) (n:=Aa) (by unfold Aa;omega)
 ·exact this
 ·have hb:0<r.2.length:=by
   rcases Nat.eq_zero_or_pos r.2.length with e2|e2
   ·rw[e2,Nat.zero_pow hk1]at hi;omega
   ·exact e2
  have hlen:((List.range i).foldl (Ex n k r) (D,[])).1.length=n^k:=by rw[F6];exact hD
  have hro:=Gh (n:=n) (k:=k) (r:=r) (List.range i) (D,[]) B hroom
  rw[List.length_range]at hro
  generalize hX:(List.range i).foldl (Ex n k r) (D,[])=X at hlen hro
  have hlast:Bu (PL n k r i)<X.1.length:=by
   rw[hlen];exact Hm (Nat.pow_pos (by omega)) (h.pl_lt hb)
  have hkey:=Ei (l:=cI (PL n k r i)) (by rw[Dk,h.pl_len];omega) (Ht h hn hk hb i)
  have h14:=Md h hn hk hb i p q X.1 (D0 r.2) X.2 (i:Int) t28 t29 t30
  have hlim:=hro (Bu (PL n k r i))
  rw[Eg,hX]
  simp only[A8,Ff hmany hk,FD (k:=k) hb (by omega) (show i<4611686018427387904 by omega),Option.bind_some,h14,hkey,Ac,hlast,Ea,BD,Ab (show i<4611686018427387904 by omega)]
  rw[if_pos (decide_eq_true (show(i:Int)<((r.2.length^k:Nat):Int) from Int.ofNat_lt.2 hi)),if_pos (by unfold lim;omega)]
  unfold Ex
  cases Ybm X.2 (EW (cI (PL n k r i)))with
  |true=>simp
  |false=>
   simp only[Bool.not_false,if_true,Bool.false_eq_true,if_false]
   rw[if_pos (by rw[List.length_singleton];unfold lim;omega)]
   rfl
 ·simp only[A8,Ff hmany hk,Option.bind_some]
  rw[if_neg (by simp)];rfl
end
end T
open Go Go.Va
namespace T
structure RelsOk (n k:Nat) (rels:List Bb):Prop where
 hn:1<=n/\n<=4
 hk:1<=k/\k<=3
 len:rels.length<=8
 ok: ∀r∈rels,ROk n r.1.toNat r
def Et (n k:Nat) (rels:List Bb):DT:=rels.foldl (GN n k) (List.replicate (n^k) [])
def Ey (n k:Nat) (rels:List Bb):NT:=rels.foldl (Gl n k) (List.replicate (n^k) [])
section
variable {n k m:Nat} {r:Bb} {rels:List Bb}
theorem RelsOk.cnt (h:RelsOk n k rels) (hr:r∈rels):r.2.length^k<=262144:=Jz (h.ok r hr).many h.hk.2
theorem Iq (h:RelsOk n k rels) (t:Nat) (ht:t<=rels.length):((rels.take t).foldl (GN n k) (List.replicate (n^k) [])).length=n^k/\EQ ((rels.take t).foldl (GN n k) (List.replicate (n^k) [])) (262144*t):=by
 induction t with
 |zero=>exact⟨by simp,λp=>by simp[List.getD_eq_getElem?_getD,List.getElem?_replicate];split<;>simp⟩
 |succ t ih=>
  obtain⟨h1,h2⟩:=ih (by omega)
  have htl:t<rels.length:=by omega
  rw[List.take_succ_eq_append_getElem htl,List.foldl_append]
  simp only[List.foldl_cons,List.foldl_nil]
  refine⟨by rw[IL];exact h1,λp=>?_⟩
  have h3:=h.cnt (List.getElem_mem htl)
  have:=Gh (n:=n) (k:=k) (r:=rels[t]) (List.range (rels[t].2.length^k)) (_,[]) _ h2 p
  rw[List.length_range]at this
  exact Nat.le_trans this (by omega)
theorem Fw (h:RelsOk n k rels):DO (n:Int) rels (k:Int)=some (true,(n:Int),(k:Int),Et n k rels):=by
 have hk:=h.hk
 have hn:=h.hn
 have hl:=h.len
 have hp:=Dz (n:=n) (k:=k) hn.2 hk.2
 unfold DO
 rw[Ff (by omega) hk.2]
 simp only[Option.bind_some]
 have:=CO rels.length (λf (s:DT) i=>Bs f ((n:Int),(k:Int),((n:Int),((k:Int),s)),rels,(rels.length:Int),i)) (λt=>(rels.take t).foldl (GN n k) (List.replicate (n^k) []))
  (r:=some ((n:Int),((k:Int),Et n k rels))) (λf t ht=>?_) (λf=>?_) (n:=Aa) (by unfold Aa;omega)
 ·have e:((rels.take 0).foldl (GN n k) (List.replicate (n^k) []))=List.replicate (Int.toNat ((n^k:Nat):Int)) ([]:List (List Int×List ByteArray)):=by rw[Int.toNat_natCast];rfl
  rw[e]at this
  have this:Bs Aa ((n:Int),(k:Int),((n:Int),((k:Int),List.replicate (Int.toNat ((n^k:Nat):Int)) ([]:List (List Int×List ByteArray)))),rels,(rels.length:Int),0)=_:=this
  rw[this,if_pos (by unfold lim;omega)];rfl
 ·have hr:=h.ok _ (List.getElem_mem ht)
  obtain⟨h1,h2⟩:=Iq h t (by omega)
  have hm:=hr.hm
  have h8:=ML hr hn hk.2 (by omega) h1 h2 (by omega) (n:Int) (k:Int) rels (rels.length:Int) (t:Int)
  have hts:=E5 (r:=rels[t]) (by have:=hr.many;omega) (λu hu=>⟨by have:=hr.tl u hu;omega,λx hx=>by have:=hr.tv u hu x hx;omega⟩)
  have hts:DD (rels[t].1,rels[t].2)=_:=hts
  have htk:(rels.take (t+1)).foldl (GN n k) (List.replicate (n^k) [])=GN n k ((rels.take t).foldl (GN n k) (List.replicate (n^k) [])) rels[t]:=by
   rw[List.take_succ_eq_append_getElem ht,List.foldl_append];rfl
  simp only[Bs,Ac,ht,Ai ht,hts,Option.bind_some,h8,htk,Ab (show t<4611686018427387904 by omega)]
  rw[if_pos (by simp;omega)];rfl
 ·simp only[Bs,List.take_length]
  rw[if_neg (by simp)];rfl
theorem Mb (h:ROk n m r) (hn:1<=n/\n<=4) {t:Nat} (ht:t<rels.length) (er:rels[t]=r) {args:List Nat} (hl:args.length<=3) (ha: ∀x∈args,x<r.2.length) {j:Nat} (hj:j<m)
  (t7:NT) (t10 t11:Int) (t13:List Int×Int×List (List Int)) (t14:Int):
  Ca Aa ((n:Int),rels,(args.length:Int),t7,(t:Int),t10,t11,cI args,(t13.1,(t13.2.1,t13.2.2)),t14,(j:Int),0,0)
   =some ((n:Int),rels,(args.length:Int),t7,(t:Int),t10,t11,cI args,(t13.1,(t13.2.1,t13.2.2)),t14,(j:Int),((atF n r.2 j args:Nat):Int)):=by
 have:=CO args.length (λf (s:Int) i=>Ca f ((n:Int),rels,(args.length:Int),t7,(t:Int),t10,t11,cI args,(t13.1,(t13.2.1,t13.2.2)),t14,(j:Int),s,i)) (λz=>((atF n r.2 j (args.take z):Nat):Int))
  (r:=some ((n:Int),rels,(args.length:Int),t7,(t:Int),t10,t11,cI args,(t13.1,(t13.2.1,t13.2.2)),t14,(j:Int),((atF n r.2 j args:Nat):Int))) (λf z hz=>?_) (λf=>?_) (n:=Aa) (by unfold Aa;omega)
 ·exact this
 ·have hzc:z<(cI args).length:=by rw[Dk];exact hz
  have hx:=ha _ (List.getElem_mem hz)
  have hg:(cI args).getD z 0=((args[z]:Nat):Int):=by rw[Ah hzc];simp[cI]
  obtain⟨v1,v2,v3⟩:=h.vt_lt hx hj
  have hlt:=h.at_lt hj (args.take z) λx hx=>ha x (List.mem_of_mem_take hx)
  have hp:=Dz (n:=n) (k:=(args.take z).length) hn.2 (by rw[List.length_take];omega)
  have hstep:=IW (n:=n) hn.2 (x:=atF n r.2 j (args.take z)) (v:=vt r.2 args[z] j) (by omega) v1
  have htk:args.take (z+1)=args.take z++ [args[z]]:=List.take_succ_eq_append_getElem hz
  simp only[Ca,Ac,ht,Ai ht,er,hzc,Ea,hg,hx,v3,v2,hstep,htk,G9,Ab (show z<4611686018427387904 by omega),if_true]
  rw[if_pos (by simp;omega)]
 ·simp only[Ca,List.take_length]
  rw[if_neg (by simp)]
theorem Ft (a b:Nat):CM (a:Int) (b:Int)=some ((max a b:Nat):Int):=by
 unfold CM
 by_cases h:(a:Int)>(b:Int)
 ·rw[if_pos (by simpa using h)];congr 2;omega
 ·rw[if_neg (by simpa using h)];congr 2;omega
theorem Ma (h:ROk n m r) (hn:1<=n/\n<=4) (hk:k<=3) (hb:0<r.2.length) {t:Nat} (ht:t<rels.length) (er:rels[t]=r) (i:Nat) (t7:NT) (t10 t11:Int) (q:Int×List (List Int)):
  B9 Aa ((n:Int),rels,(k:Int),t7,(t:Int),t10,t11,cI (dg r.2.length k i),([],(q.1,q.2)),0,0)
   =some ((n:Int),rels,(k:Int),t7,(t:Int),t10,t11,(cI (PL n k r i),(q.1,q.2)),((Bu (PL n k r i):Nat):Int)):=by
 have hm:=h.hm
 have har:=h.ar
 have hpl:=h.pl_len (k:=k) (i:=i)
 have:=CO m (λf (s:List Int×Int) j=>B9 f ((n:Int),rels,(k:Int),t7,(t:Int),t10,t11,cI (dg r.2.length k i),(s.1,(q.1,q.2)),s.2,j))
  (λj=>(cI ((PL n k r i).take j),((Bu ((PL n k r i).take j):Nat):Int)))
  (r:=some ((n:Int),rels,(k:Int),t7,(t:Int),t10,t11,(cI (PL n k r i),(q.1,q.2)),((Bu (PL n k r i):Nat):Int))) (λf j hj=>?_) (λf=>?_) (n:=Aa) (by unfold Aa;omega)
 ·exact this
 ·have hjl:j<(PL n k r i).length:=by omega
  have htl:((PL n k r i).take j).length=j:=by rw[List.length_take];omega
  have h21:=Mb h hn ht er (args:=dg r.2.length k i) (by rw[GH];exact hk) (Jn hb) hj t7 t10 t11 (cI ((PL n k r i).take j),(q.1,q.2)) ((Bu ((PL n k r i).take j):Nat):Int)
  rw[GH]at h21
  have e1:cI ((PL n k r i).take (j+1))=cI ((PL n k r i).take j)++ [((atF n r.2 j (dg r.2.length k i):Nat):Int)]:=by
   rw[List.take_succ_eq_append_getElem hjl,Ia hjl,HL];rfl
  have e2:Bu ((PL n k r i).take (j+1))=max (Bu ((PL n k r i).take j)) (atF n r.2 j (dg r.2.length k i)):=by rw[Hn hjl,Ia hjl]
  simp only[B9,Ac,ht,Ai ht,er,har,h21,Option.bind_some,Ft,e1,e2,Ab (show j<4611686018427387904 by omega),if_true]
  rw[if_pos (by simp;omega),if_pos (by rw[Dk,htl,List.length_singleton];unfold lim;omega)]
 ·have e:(PL n k r i).take m=PL n k r i:=List.take_of_length_le (by omega)
  simp only[B9,Ac,ht,Ai ht,er,har,e,if_true]
  rw[if_neg (by simp)]
theorem Kb (X:NT) (i:Nat):(FZ n k r X i).length=X.length:=HJ
theorem E2: ∀(l:List Nat) (X:NT),(l.foldl (FZ n k r) X).length=X.length
 | [],X=>rfl
 |i::l,X=>by rw[List.foldl_cons,E2 l];exact Kb X i
theorem Gi: ∀(l:List Nat) (X:NT) (B:Nat),EQ X B->EQ (l.foldl (FZ n k r) X) (B+l.length)
 | [],X,B,h=>h
 |i::l,X,B,h=>by
  have:=Gi l _ _ (G8 (p:=Bu (PL n k r i)) (d:=(cI (PL n k r i),r)) h)
  rw[List.foldl_cons,List.length_cons,show B+(l.length+1)=B+1+l.length by omega]
  exact this
theorem L9 (h:ROk n m r) (hn:1<=n/\n<=4) (hk:k<=3) (hk1:0<k) {t:Nat} (ht:t<rels.length) (er:rels[t]=r) {X:NT} (hX:X.length=n^k) {B:Nat} (hroom:EQ X B) (hB:B<=100000000):
  B8 Aa ((n:Int),rels,(k:Int),X,(t:Int),(r.2.length:Int),0)=some ((n:Int),rels,(k:Int),Gl n k X r,(t:Int)):=by
 have hm:=h.hm
 have hN:=Jz h.many hk
 have hmany:=h.many
 have:=CO (r.2.length^k) (λf (s:NT) i=>B8 f ((n:Int),rels,(k:Int),s,(t:Int),(r.2.length:Int),i)) (λi=>(List.range i).foldl (FZ n k r) X)
  (r:=some ((n:Int),rels,(k:Int),Gl n k X r,(t:Int))) (λf i hi=>?_) (λf=>?_) (n:=Aa) (by unfold Aa;omega)
 ·exact this
 ·have hb:0<r.2.length:=by
   rcases Nat.eq_zero_or_pos r.2.length with e2|e2
   ·rw[e2,Nat.zero_pow hk1]at hi;omega
   ·exact e2
  have hlen:((List.range i).foldl (FZ n k r) X).length=n^k:=by rw[E2];exact hX
  have hro:=Gi (n:=n) (k:=k) (r:=r) (List.range i) X B hroom
  rw[List.length_range]at hro
  generalize hY:(List.range i).foldl (FZ n k r) X=Y at hlen hro
  have hlast:Bu (PL n k r i)<Y.length:=by
   rw[hlen];exact Hm (Nat.pow_pos (by omega)) (h.pl_lt hb)
  have h17:=Ma h hn hk hb ht er i Y (r.2.length:Int) (i:Int) r
  have hlim:=hro (Bu (PL n k r i))
  rw[Eg,hY]
  simp only[B8,Fm hmany hk,FV (k:=k) hb (by omega) (show i<4611686018427387904 by omega),Option.bind_some,Ac,ht,Ai ht,er,h17,hlast,Ea,BD,Ab (show i<4611686018427387904 by omega),if_true]
  rw[if_pos (decide_eq_true (show(i:Int)<((r.2.length^k:Nat):Int) from Int.ofNat_lt.2 hi)),if_pos (by rw[List.length_singleton];unfold lim;omega)]
  rfl
 ·simp only[B8,Fm hmany hk,Option.bind_some]
  rw[if_neg (by simp)];rfl
theorem Is (h:RelsOk n k rels) (t:Nat) (ht:t<=rels.length):((rels.take t).foldl (Gl n k) (List.replicate (n^k) [])).length=n^k/\EQ ((rels.take t).foldl (Gl n k) (List.replicate (n^k) [])) (262144*t):=by
 induction t with
 |zero=>exact⟨by simp,λp=>by simp[List.getD_eq_getElem?_getD,List.getElem?_replicate];split<;>simp⟩
 |succ t ih=>
  obtain⟨h1,h2⟩:=ih (by omega)
  have htl:t<rels.length:=by omega
  rw[List.take_succ_eq_append_getElem htl,List.foldl_append]
  simp only[List.foldl_cons,List.foldl_nil]
  refine⟨by unfold Gl;rw[E2];exact h1,λp=>?_⟩
  have h3:=h.cnt (List.getElem_mem htl)
  have:=Gi (n:=n) (k:=k) (r:=rels[t]) (List.range (rels[t].2.length^k)) _ _ h2 p
  rw[List.length_range]at this
  exact Nat.le_trans this (by omega)
theorem GP (h:RelsOk n k rels):EX (n:Int) rels (k:Int)=some (Ey n k rels):=by
 have hk:=h.hk
 have hn:=h.hn
 have hl:=h.len
 have hp:=Dz (n:=n) (k:=k) hn.2 hk.2
 unfold EX
 have h3:=CO (n^k) (λf (s:NT) i=>Co f ((n:Int),rels,(k:Int),s,i)) (λt=>List.replicate t []) (r:=some ((n:Int),rels,(k:Int),List.replicate (n^k) [])) (λf t ht=>?_) (λf=>?_) (n:=Aa) (by unfold Aa;omega)
 ·have h3:Co Aa ((n:Int),rels,(k:Int),[],0)=_:=h3
  simp only[h3,Option.bind_some]
  have:=CO rels.length (λf (s:NT) i=>Cp f ((n:Int),rels,(k:Int),s,i)) (λt=>(rels.take t).foldl (Gl n k) (List.replicate (n^k) [])) (r:=some (Ey n k rels)) (λf t ht=>?_) (λf=>?_) (n:=Aa) (by unfold Aa;omega)
  ·have e:((rels.take 0).foldl (Gl n k) (List.replicate (n^k) []))=List.replicate (n^k) []:=by simp
   rw[e]at this
   have this:Cp Aa ((n:Int),rels,(k:Int),List.replicate (n^k) [],0)=_:=this
   rw[this];rfl
  ·have hr:=h.ok _ (List.getElem_mem ht)
   obtain⟨h1,h2⟩:=Is h t (by omega)
   have h11:=L9 hr hn hk.2 (by omega) ht rfl h1 h2 (by omega)
   have htk:(rels.take (t+1)).foldl (Gl n k) (List.replicate (n^k) [])=Gl n k ((rels.take t).foldl (Gl n k) (List.replicate (n^k) [])) rels[t]:=by
    rw[List.take_succ_eq_append_getElem ht,List.foldl_append];rfl
   simp only[Cp,Ac,ht,Ai ht,Option.bind_some,h11,htk,Ab (show t<4611686018427387904 by omega)]
   rw[if_pos (by simp;omega)];rfl
  ·simp only[Cp,List.take_length]
   rw[if_neg (by simp)];rfl
 ·simp only[Co,Fm (show n<=64 by omega) hk.2,Option.bind_some,List.replicate_succ',Ab (show t<4611686018427387904 by omega)]
  rw[if_pos (decide_eq_true (show(t:Int)<((n^k:Nat):Int) from Int.ofNat_lt.2 ht)),if_pos (by simp;unfold lim;omega)]
 ·simp only[Co,Fm (show n<=64 by omega) hk.2,Option.bind_some]
  rw[if_neg (by simp)]
end
end T
open Go Go.Va
namespace T
section
variable {n k m:Nat} {r:Bb} {rels:List Bb}
theorem Ij (h:ROk n m r) (hn:1<=n/\n<=4) (hk1:0<k) {i:Nat} (hi:i<r.2.length^k):Bu (PL n k r i)<n^k:=by
 have hb:0<r.2.length:=by
  rcases Nat.eq_zero_or_pos r.2.length with e2|e2
  ·rw[e2,Nat.zero_pow hk1]at hi;omega
  ·exact e2
 exact Hm (Nat.pow_pos (by omega)) (h.pl_lt hb)
theorem JO (h:ROk n m r) (hn:1<=n/\n<=4) (hk1:0<k) {X:NT} (hX:X.length=n^k): ∀(i:Nat),i<=r.2.length^k-> ∀at' d,d∈((List.range i).foldl (FZ n k r) X).getD at' []↔d∈X.getD at' []∨ ∃j,j<i/\Bu (PL n k r j)=at'/\d=(cI (PL n k r j),r):=by
 intro i
 induction i with
 |zero=>intro _ a d;simp
 |succ i ih=>
  intro hi a d
  have hlen:((List.range i).foldl (FZ n k r) X).length=n^k:=by rw[E2];exact hX
  have hl:=Ij h hn hk1 (i:=i) (by omega)
  have ih:=ih (by omega)
  rw[Eg]
  generalize (List.range i).foldl (FZ n k r) X=Y at ih hlen
  unfold FZ
  rw[GF (by rw[hlen];exact hl)]
  by_cases e:a=Bu (PL n k r i)
  ·rw[if_pos e,List.mem_append,←e,ih,List.mem_singleton]
   constructor
   ·rintro ((h1|⟨j,h1,h2⟩)|h1)
    ·exact .inl h1
    ·exact .inr ⟨j,by omega,h2⟩
    ·exact .inr ⟨i,by omega,e.symm,h1⟩
   ·rintro (h1|⟨j,h1,h2,h3⟩)
    ·exact .inl (.inl h1)
    ·by_cases e2:j=i
     ·subst e2;exact .inr h3
     ·exact .inl (.inr ⟨j,by omega,h2,h3⟩)
  ·rw[if_neg e,ih]
   constructor
   ·rintro (h1|⟨j,h1,h2⟩)
    ·exact .inl h1
    ·exact .inr ⟨j,by omega,h2⟩
   ·rintro (h1|⟨j,h1,h2,h3⟩)
    ·exact .inl h1
    ·by_cases e2:j=i
     ·subst e2;exact absurd h2.symm e
     ·exact .inr ⟨j,by omega,h2,h3⟩
theorem K1 {X:NT}:(Gl n k X r).length=X.length:=by unfold Gl;rw[E2]
theorem Hf (hn:1<=n/\n<=4) (hk1:0<k): ∀(l:List Bb) (X:NT),X.length=n^k->(∀r∈l,ROk n r.1.toNat r)-> ∀at' d,d∈(l.foldl (Gl n k) X).getD at' []↔d∈X.getD at' []∨ ∃r∈l,∃j,j<r.2.length^k/\Bu (PL n k r j)=at'/\d=(cI (PL n k r j),r)
 | [],X,_,_,a,d=>by simp
 |r::l,X,hX,hl,a,d=>by
  rw[List.foldl_cons,Hf hn hk1 l _ (by rw[K1];exact hX) (λr hr=>hl r (List.mem_cons_of_mem _ hr))]
  unfold Gl
  rw[JO (hl r (by simp)) hn hk1 hX _ (Nat.le_refl _)]
  constructor
  ·rintro ((h1|⟨j,h1⟩)|⟨q,h1,h2⟩)
   ·exact .inl h1
   ·exact .inr ⟨r,by simp,j,h1⟩
   ·exact .inr ⟨q,by simp[h1],h2⟩
  ·rintro (h1|⟨q,h1,h2⟩)
   ·exact .inl (.inl h1)
   ·rcases List.mem_cons.1 h1 with rfl|h1
    ·exact .inl (.inr h2)
    ·exact .inr ⟨q,h1,h2⟩
theorem IN {α:Type} {N a:Nat} {d:α}: ¬d∈(List.replicate N ([]:List α)).getD a []:=by
 simp[List.getD_eq_getElem?_getD,List.getElem?_replicate];split<;>simp
theorem Iu (h:RelsOk n k rels) (at':Nat) (d):d∈(Ey n k rels).getD at' []↔ ∃r∈rels,∃j,j<r.2.length^k/\Bu (PL n k r j)=at'/\d=(cI (PL n k r j),r):=by
 unfold Ey
 rw[Hf h.hn h.hk.1 rels _ (by simp) h.ok]
 constructor
 ·rintro (h1|h1)
  ·exact absurd h1 IN
  ·exact h1
 ·exact .inr
theorem LV {a b:List Nat} (h:cI a=cI b):a=b:=by
 unfold cI at h
 exact List.map_inj_right (λx y e=>by exact Int.ofNat_inj.1 e)|>.1 h
theorem JN (h:ROk n m r) (hn:1<=n/\n<=4) (hk:k<=3) (hk1:0<k) {X:DT} (hX:X.length=n^k): ∀(i:Nat),i<=r.2.length^k->
  (∀at' d,d∈((List.range i).foldl (Ex n k r) (X,[])).1.getD at' []↔d∈X.getD at' []∨ ∃j,j<i/\Bu (PL n k r j)=at'/\d=(cI (PL n k r j),D0 r.2))/\
  (∀s,s∈((List.range i).foldl (Ex n k r) (X,[])).2↔ ∃j,j<i/\s=EW (cI (PL n k r j))):=by
 intro i
 induction i with
 |zero=>intro _;exact⟨λa d=>by simp,λs=>by simp⟩
 |succ i ih=>
  intro hi
  obtain⟨ih1,ih2⟩:=ih (by omega)
  have hlen:((List.range i).foldl (Ex n k r) (X,[])).1.length=n^k:=by rw[F6];exact hX
  have hl:=Ij h hn hk1 (i:=i) (by omega)
  have hb:0<r.2.length:=by
   rcases Nat.eq_zero_or_pos r.2.length with e2|e2
   ·rw[e2,Nat.zero_pow hk1]at hi;omega
   ·exact e2
  rw[Eg]
  generalize (List.range i).foldl (Ex n k r) (X,[])=Y at ih1 ih2 hlen
  unfold Ex
  by_cases hc:Ybm Y.2 (EW (cI (PL n k r i)))=true
  ·rw[if_pos hc]
   obtain⟨j0,hj0,e0⟩:=(ih2 _).1 (Hp.1 hc)
   have e1:=IB (Ht h hn hk hb i) (Ht h hn hk hb j0) e0
   have e2:=LV e1
   refine⟨λa d=>?_,λs=>?_⟩
   ·rw[ih1]
    constructor
    ·rintro (h1|⟨j,h1,h2⟩)
     ·exact .inl h1
     ·exact .inr ⟨j,by omega,h2⟩
    ·rintro (h1|⟨j,h1,h2,h3⟩)
     ·exact .inl h1
     ·by_cases e3:j=i
      ·subst e3;exact .inr ⟨j0,hj0,by rw[←e2];exact h2,by rw[←e2];exact h3⟩
      ·exact .inr ⟨j,by omega,h2,h3⟩
   ·rw[ih2]
    constructor
    ·rintro ⟨j,h1,h2⟩;exact⟨j,by omega,h2⟩
    ·rintro ⟨j,h1,h2⟩
     by_cases e3:j=i
     ·subst e3;exact⟨j0,hj0,by rw[←e2];exact h2⟩
     ·exact⟨j,by omega,h2⟩
  ·rw[if_neg hc]
   refine⟨λa d=>?_,λs=>?_⟩
   ·rw[GF (by rw[hlen];exact hl)]
    by_cases e:a=Bu (PL n k r i)
    ·rw[if_pos e,List.mem_append,←e,ih1,List.mem_singleton]
     constructor
     ·rintro ((h1|⟨j,h1,h2⟩)|h1)
      ·exact .inl h1
      ·exact .inr ⟨j,by omega,h2⟩
      ·exact .inr ⟨i,by omega,e.symm,h1⟩
     ·rintro (h1|⟨j,h1,h2,h3⟩)
      ·exact .inl (.inl h1)
      ·by_cases e2:j=i
       ·subst e2;exact .inr h3
       ·exact .inl (.inr ⟨j,by omega,h2,h3⟩)
    ·rw[if_neg e,ih1]
     constructor
     ·rintro (h1|⟨j,h1,h2⟩)
      ·exact .inl h1
      ·exact .inr ⟨j,by omega,h2⟩
     ·rintro (h1|⟨j,h1,h2,h3⟩)
      ·exact .inl h1
      ·by_cases e2:j=i
       ·subst e2;exact absurd h2.symm e
       ·exact .inr ⟨j,by omega,h2,h3⟩
   ·rw[IE,ih2]
    constructor
    ·rintro (⟨j,h1,h2⟩|h1)
     ·exact⟨j,by omega,h2⟩
     ·exact⟨i,by omega,h1⟩
    ·rintro ⟨j,h1,h2⟩
     by_cases e2:j=i
     ·subst e2;exact .inr h2
     ·exact .inl ⟨j,by omega,h2⟩
theorem He (hn:1<=n/\n<=4) (hk:k<=3) (hk1:0<k): ∀(l:List Bb) (X:DT),X.length=n^k->(∀r∈l,ROk n r.1.toNat r)-> ∀at' d,d∈(l.foldl (GN n k) X).getD at' []↔d∈X.getD at' []∨ ∃r∈l,∃j,j<r.2.length^k/\Bu (PL n k r j)=at'/\d=(cI (PL n k r j),D0 r.2)
 | [],X,_,_,a,d=>by simp
 |r::l,X,hX,hl,a,d=>by
  rw[List.foldl_cons,He hn hk hk1 l _ (by rw[IL];exact hX) (λr hr=>hl r (List.mem_cons_of_mem _ hr))]
  unfold GN
  rw[(JN (hl r (by simp)) hn hk hk1 hX _ (Nat.le_refl _)).1]
  constructor
  ·rintro ((h1|⟨j,h1⟩)|⟨q,h1,h2⟩)
   ·exact .inl h1
   ·exact .inr ⟨r,by simp,j,h1⟩
   ·exact .inr ⟨q,by simp[h1],h2⟩
  ·rintro (h1|⟨q,h1,h2⟩)
   ·exact .inl (.inl h1)
   ·rcases List.mem_cons.1 h1 with rfl|h1
    ·exact .inl (.inr h2)
    ·exact .inr ⟨q,h1,h2⟩
theorem Ir (h:RelsOk n k rels) (at':Nat) (d):d∈(Et n k rels).getD at' []↔ ∃r∈rels,∃j,j<r.2.length^k/\Bu (PL n k r j)=at'/\d=(cI (PL n k r j),D0 r.2):=by
 unfold Et
 rw[He h.hn h.hk.2 h.hk.1 rels _ (by simp) h.ok]
 constructor
 ·rintro (h1|h1)
  ·exact absurd h1 IN
  ·exact h1
 ·exact .inr
def GL (n k:Nat) (rels:List Bb) (at':Nat) (tab:List Int):Bool:=
 rels.all λr=>(List.range (r.2.length^k)).all λj=>!decide (Bu (PL n k r j)=at')||decide ((cI (PL n k r j)).map (Aq tab)∈r.2)
theorem Kd {t:List Int} {x q:Nat} (h:x<q):Aq (t.take q) (x:Int)=Aq t (x:Int):=by
 simp[Aq,List.getD_eq_getElem?_getD,List.getElem?_take,h]
theorem HX {at':Nat} {tab:List Int}:GL n k rels at' (tab.take (at'+1))=GL n k rels at' tab:=by
 unfold GL
 congr 1;funext r;congr 1;funext j
 by_cases e:Bu (PL n k r j)=at'
 ·have:(cI (PL n k r j)).map (Aq (tab.take (at'+1)))=(cI (PL n k r j)).map (Aq tab):=by
   refine List.map_congr_left λx hx=>?_
   unfold cI at hx
   obtain⟨y,hy,rfl⟩:=List.mem_map.1 hx
   have:=(FN (PL n k r j) 0).2 y hy
   unfold Bu at e
   exact Kd (by omega)
  rw[this]
 ·simp[e]
theorem Lb (h:RelsOk n k rels):(Et n k rels).length=n^k/\EQ (Et n k rels) 2097152:=by
 have:=Iq h rels.length (Nat.le_refl _)
 rw[List.take_length]at this
 have hl:=h.len
 exact⟨this.1,λp=>by have:=this.2 p;unfold Et;omega⟩
theorem It (h:RelsOk n k rels):(Ey n k rels).length=n^k/\EQ (Ey n k rels) 2097152:=by
 have:=Is h rels.length (Nat.le_refl _)
 rw[List.take_length]at this
 have hl:=h.len
 exact⟨this.1,λp=>by have:=this.2 p;unfold Ey;omega⟩
theorem Lh (h:RelsOk n k rels) {tab:List Int} (ht:tab.length=n^k) (hv: ∀x∈tab,0<=x/\x<256) {at':Nat} (ha:at'<n^k):
  AT (true,(n:Int),(k:Int),Et n k rels) tab (at':Int)=some (GL n k rels at' tab):=by
 obtain⟨hlen,hroom⟩:=Lb h
 have hp:=Dz h.hn.2 h.hk.2
 have hkey: ∀d∈(Et n k rels).getD at' [],∃r∈rels,∃j,j<r.2.length^k/\Bu (PL n k r j)=at'/\d=(cI (PL n k r j),D0 r.2)/\CH d.1 tab=some (d.1.map (Aq tab))/\Dq (d.1.map (Aq tab))=some (EW (d.1.map (Aq tab)))/\Ybm d.2 (EW (d.1.map (Aq tab)))=decide (d.1.map (Aq tab)∈r.2):=λd hd=>by
  obtain⟨r,hr,j,hj,hla,rfl⟩:=(Ir h at' d).1 hd
  have hrk:=h.ok r hr
  have hm:=hrk.hm
  have hpl: ∀v∈cI (PL n k r j),0<=v/\v<tab.length:=λv hv=>by
   unfold cI at hv
   obtain⟨y,hy,rfl⟩:=List.mem_map.1 hv
   have:=(FN (PL n k r j) 0).2 y hy
   unfold Bu at hla
   omega
  have hval: ∀x∈(cI (PL n k r j)).map (Aq tab),0<=x/\x<256:=λx hx=>by
   obtain⟨v,hvv,rfl⟩:=List.mem_map.1 hx
   obtain⟨h1,h2⟩:=hpl v hvv
   have:v.toNat<tab.length:=by omega
   unfold Aq
   rw[Ah this]
   exact hv _ (List.getElem_mem this)
  refine⟨r,hr,j,hj,hla,rfl,DI (by rw[Dk,hrk.pl_len];omega) hpl,Ei (by rw[List.length_map,Dk,hrk.pl_len];omega) hval,?_⟩
  exact GM (λu hu x hx=>by have:=hrk.tv u hu x hx;have:=h.hn;omega) hval
 have e:GL n k rels at' tab=((Et n k rels).getD at' []).all λd=>Ybm d.2 (EW (d.1.map (Aq tab))):=by
  rw[Bool.eq_iff_iff,List.all_eq_true]
  unfold GL
  simp only[List.all_eq_true,Bool.or_eq_true,Bool.not_eq_true',decide_eq_false_iff_not,decide_eq_true_eq,List.mem_range]
  constructor
  ·intro h1 d hd
   obtain⟨r,hr,j,hj,hla,e1,_,_,h2⟩:=hkey d hd
   rw[h2,decide_eq_true_eq,e1]
   rcases h1 r hr j hj with h3|h3
   ·exact absurd hla h3
   ·exact h3
  ·intro h1 r hr j hj
   by_cases hla:Bu (PL n k r j)=at'
   ·right
    have hd:=(Ir h at' (cI (PL n k r j),D0 r.2)).2 ⟨r,hr,j,hj,hla,rfl⟩
    have h2:=h1 _ hd
    have hrk:=h.ok r hr
    rw[GM (λu hu x hx=>by have:=hrk.tv u hu x hx;have:=h.hn;omega) (λx hx=>by
     obtain⟨v,hvv,rfl⟩:=List.mem_map.1 hx
     unfold cI at hvv
     obtain⟨y,hy,rfl⟩:=List.mem_map.1 hvv
     have:=(FN (PL n k r j) 0).2 y hy
     unfold Bu at hla
     have hyt:y<tab.length:=by omega
     unfold Aq
     rw[Ah (by simpa using hyt)]
     exact hv _ (List.getElem_mem _)),decide_eq_true_eq]at h2
    exact h2
   ·exact .inl hla
 have hgd:gd (Et n k rels) (at':Int) []=(Et n k rels).getD at' []:=rfl
 unfold AT
 simp only[if_true,Ac,hlen,ha,hgd]
 have hro:=hroom at'
 generalize (Et n k rels).getD at' []=l at hkey e hro
 rw[e]
 have:=Fa l (λf i=>AR f (tab,l,(l.length:Int),i)) (λd=>Ybm d.2 (EW (d.1.map (Aq tab)))) (.inr false) (.inl ()) (λf i hi=>?_) (λf=>?_) (n:=Aa) (by unfold Aa;omega)
 ·have this:AR Aa (tab,l,(l.length:Int),0)=_:=this
  rw[this]
  cases l.all λd=>Ybm d.2 (EW (d.1.map (Aq tab)))<;>rfl
 ·obtain⟨r,hr,j,hj,hla,e1,h1,h2,_⟩:=hkey _ (List.getElem_mem hi)
  simp only[AR,Ac,hi,Ai hi,h1,h2,Option.bind_some,Ab (show i<4611686018427387904 by omega)]
  rw[if_pos (by simp;omega)]
  cases Ybm l[i].2 (EW (l[i].1.map (Aq tab)))<;>simp
 ·simp[AR]
end
end T
