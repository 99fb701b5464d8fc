/- Plain lemmas on the typed functions of the program, the first part; no conditions. -/
import Derived.Test.YtgeboeaoblppcacV1
import Derived.Test.YtgeboeaoblppcacV5
import Derived.KernelRfl
set_option linter.all false
namespace Go.Va
theorem Hi (x:Int):w64 x=(x+9223372036854775808)%18446744073709551616-9223372036854775808:=by
 simp[w64,IntKind.wrap,IntKind.bits,IntKind.signed]
 split<;>omega
theorem AP {x:Int} (h1: -9223372036854775808<=x) (h2:x<=9223372036854775807):w64 x=x:=by
 rw[Hi];omega
theorem Ad {k:Nat} (h:k<4611686018427387904):w64 ((k:Int)+1)=((k+1:Nat):Int):=by
 rw[AP (by omega) (by omega)];rfl
theorem G5 {k:Nat} (h:k<4611686018427387904):w64 ((k:Int)+1)=(k:Int)+1:=AP (by omega) (by omega)
theorem Af {α:Type} {k:Nat} {xs:List α}:inb (k:Int) xs↔k<xs.length:=by
 unfold inb;omega
theorem Ae {α:Type} {k:Nat} {xs:List α} {d:α} (h:k<xs.length):gd xs (k:Int) d=xs[k]:=by
 unfold gd;simp[h]
theorem BS {α:Type} {k:Nat} {xs:List α} {x:α}:stt xs (k:Int) x=xs.set k x:=by
 unfold stt;simp
def ID {α σ β:Type} (step:σ->α->Option (σ⊕β)) (fin:σ->Option β):List α->σ->Option β
 | [],s=>fin s
 |a::l,s=>match step s a with|some (.inl s')=>ID step fin l s'|some (.inr r)=>some r|none=>none
theorem KB {α σ β:Type} (xs:List α) (L:Nat->σ->Int->Option β) (step:σ->α->Option (σ⊕β)) (fin:σ->Option β)
  (hs: ∀n s (k:Nat) (hk:k<xs.length),L (n+1) s k=match step s xs[k]with|some (.inl s')=>L n s' ((k+1:Nat):Int)|some (.inr r)=>some r|none=>none)
  (he: ∀n s,L (n+1) s (xs.length:Nat)=fin s): ∀(n k:Nat) (s:σ),k<=xs.length->xs.length-k<n->L n s k=ID step fin (xs.drop k) s:=by
 intro n
 induction n with
 |zero=>intro k s _ h;omega
 |succ n ih=>
  intro k s hk hn
  rcases Nat.lt_or_ge k xs.length with hlt|hge
  ·rw[hs n s k hlt,List.drop_eq_getElem_cons hlt]
   simp only[ID]
   cases step s xs[k]with
   |none=>rfl
   |some q=>
    cases q with
    |inl s'=>exact ih (k+1) s' hlt (by omega)
    |inr r=>rfl
  ·have:k=xs.length:=by omega
   subst this
   rw[he,List.drop_length];rfl
theorem Kh {α σ β:Type} (xs:List α) (L:Nat->σ->Int->Option β) (step:σ->α->Option (σ⊕β)) (fin:σ->Option β)
  (hs: ∀n s (k:Nat) (hk:k<xs.length),L (n+1) s k=match step s xs[k]with|some (.inl s')=>L n s' ((k+1:Nat):Int)|some (.inr r)=>some r|none=>none)
  (he: ∀n s,L (n+1) s (xs.length:Nat)=fin s) {n:Nat} (hn:xs.length<n) (s:σ):L n s 0=ID step fin xs s:=by
 have:=KB xs L step fin hs he n 0 s (Nat.zero_le _) (by omega)
 simpa using this
theorem Hz {α β:Type} {p:α->Bool} {step:Unit->α->Option (Unit⊕β)} {fin:Unit->Option β} {r:β}: ∀ {l:List α},(∀a∈l,step () a=if p a then some (.inl ())else some (.inr r))->ID step fin l ()=if l.all p then fin ()else some r
 | [],_=>rfl
 |a::l,h=>by
  simp only[ID]
  rw[h a (by simp)]
  cases hp:p a with
  |true=>simp only[if_true,List.all_cons,hp,Bool.true_and];exact Hz λb hb=>h b (List.mem_cons_of_mem _ hb)
  |false=>simp[List.all_cons,hp]
theorem Ky {α β γ:Type} (xs:List α) (L:Nat->List β->Int->Option γ) (g:α->β) (fin:List β->Option γ)
  (hs: ∀n (out:List β) (k:Nat) (hk:k<xs.length),out.length=xs.length->L (n+1) out k=L n (out.set k (g xs[k])) ((k+1:Nat):Int))
  (he: ∀n out,out.length=xs.length->L (n+1) out (xs.length:Nat)=fin out): ∀(n k:Nat) (out:List β),out.length=xs.length->k<=xs.length->xs.length-k<n->L n out k=fin (out.take k++(xs.drop k).map g):=by
 intro n
 induction n with
 |zero=>intro k out _ _ h;omega
 |succ n ih=>
  intro k out hl hk hn
  rcases Nat.lt_or_ge k xs.length with hlt|hge
  ·have:(out.set k (g xs[k])).take (k+1)=out.take k++ [g xs[k]]:=by
    rw[List.take_succ_eq_append_getElem (by simp;omega),List.take_set_of_le (Nat.le_refl _),List.getElem_set_self]
   rw[hs n out k hlt hl,ih (k+1) _ (by simpa using hl) hlt (by omega),List.drop_eq_getElem_cons hlt,this,List.map_cons,List.append_assoc,List.singleton_append]
  ·have:k=xs.length:=by omega
   subst this
   rw[he _ _ hl,List.drop_length,List.take_of_length_le (by omega)];simp
theorem IW {α β γ:Type} (xs:List α) (L:Nat->List β->Int->Option γ) (g:α->β) (fin:List β->Option γ)
  (hs: ∀n (out:List β) (k:Nat) (hk:k<xs.length),out.length=xs.length->L (n+1) out k=L n (out.set k (g xs[k])) ((k+1:Nat):Int))
  (he: ∀n out,out.length=xs.length->L (n+1) out (xs.length:Nat)=fin out) {n:Nat} {out:List β} (hl:out.length=xs.length) (hn:xs.length<n):L n out 0=fin (xs.map g):=by
 have:=Ky xs L g fin hs he n 0 out hl (Nat.zero_le _) (by omega)
 simpa using this
theorem eqX {α:Type} [DecidableEq α] (a b:List α) (hl:a.length=b.length) (L:Nat->Int->Option (Unit⊕Bool))
  (hs: ∀n (k:Nat) (h1:k<a.length) (h2:k<b.length),L (n+1) k=if a[k]=b[k]then L n ((k+1:Nat):Int)else some (.inr false)) (he: ∀n,L (n+1) (a.length:Nat)=some (.inl ())) {n:Nat} (hn:a.length<n):
  L n 0=some (if a=b then .inl ()else .inr false):=by
 have key: ∀(n k:Nat),k<=a.length->a.length-k<n->L n k=some (if a.drop k=b.drop k then .inl ()else .inr false):=by
  intro n
  induction n with
  |zero=>intro k _ h;omega
  |succ n ih=>
   intro k hk hn
   rcases Nat.lt_or_ge k a.length with hlt|hge
   ·have h2:k<b.length:=by omega
    have e:(a.drop k=b.drop k)↔(a[k]=b[k]/\a.drop (k+1)=b.drop (k+1)):=by
     rw[List.drop_eq_getElem_cons hlt,List.drop_eq_getElem_cons h2];exact List.cons_eq_cons
    rw[hs n k hlt h2]
    by_cases h:a[k]=b[k]
    ·rw[if_pos h,ih (k+1) hlt (by omega)]
     by_cases h3:a.drop (k+1)=b.drop (k+1)
     ·rw[if_pos h3,if_pos (e.2 ⟨h,h3⟩)]
     ·rw[if_neg h3,if_neg λh'=>h3 (e.1 h').2]
    ·rw[if_neg h,if_neg λh'=>h (e.1 h').1]
   ·have:k=a.length:=by omega
    subst this
    rw[he,List.drop_length,hl,List.drop_length];rfl
 have:=key n 0 (Nat.zero_le _) (by omega)
 simpa using this
theorem FT {α β:Type} (xs:List α) (L:Nat->Int->Option β) (p:α->Bool) (r e:β)
  (hs: ∀n (k:Nat) (hk:k<xs.length),L (n+1) k=if p xs[k]then L n ((k+1:Nat):Int)else some r) (he: ∀n,L (n+1) (xs.length:Nat)=some e) {n:Nat} (hn:xs.length<n):
  L n 0=some (if xs.all p then e else r):=by
 have:=Kh xs (λn (_:Unit) i=>L n i) (λ_ a=>if p a then some (.inl ())else some (.inr r)) (λ_=>some e) (λn s k hk=>by rw[hs n k hk];cases p xs[k]<;>simp) (λn s=>he n) hn ()
 rw[this,Hz (p:=p) (r:=r) λa _=>by cases p a<;>simp]
 cases xs.all p<;>simp
theorem Co {σ β:Type} (N:Nat) (L:Nat->σ->Int->Option β) (S:Nat->σ) {r:Option β}
  (hs: ∀n (k:Nat),k<N->L (n+1) (S k) k=L n (S (k+1)) ((k+1:Nat):Int)) (he: ∀n,L (n+1) (S N) (N:Nat)=r) {n:Nat} (hn:N<n):L n (S 0) 0=r:=by
 have key: ∀(n k:Nat),k<=N->N-k<n->L n (S k) k=r:=by
  intro n
  induction n with
  |zero=>intro k _ h;omega
  |succ n ih=>
   intro k hk hn
   rcases Nat.lt_or_ge k N with hlt|hge
   ·rw[hs n k hlt];exact ih (k+1) hlt (by omega)
   ·have:k=N:=by omega
    subst this;exact he n
 exact key n 0 (Nat.zero_le _) (by omega)
theorem Hp {σ β:Type} (N:Nat) (L:Nat->σ->Int->Option β) (S:Nat->σ) (p:Nat->Bool) {r e:Option β}
  (hs: ∀n (k:Nat),k<N->L (n+1) (S k) k=if p k then L n (S (k+1)) ((k+1:Nat):Int)else r) (he: ∀n,L (n+1) (S N) (N:Nat)=e) {n:Nat} (hn:N<n):
  L n (S 0) 0=if(List.range N).all p then e else r:=by
 have key: ∀(n k:Nat),k<=N->N-k<n->L n (S k) k=if(List.range' k (N-k)).all p then e else r:=by
  intro n
  induction n with
  |zero=>intro k _ h;omega
  |succ n ih=>
   intro k hk hn
   rcases Nat.lt_or_ge k N with hlt|hge
   ·rw[hs n k hlt,show N-k=(N-(k+1))+1 by omega,List.range'_succ,List.all_cons]
    cases hp:p k with
    |false=>simp
    |true=>simp only[if_true,Bool.true_and];exact ih (k+1) hlt (by omega)
   ·have:k=N:=by omega
    subst this;rw[he];simp
 have:=key n 0 (Nat.zero_le _) (by omega)
 rw[List.range_eq_range']
 simpa using this
theorem KQ {σ β:Type} (N:Nat) (L:Nat->σ->Int->Option β) (S:Nat->σ) (p:Nat->Bool) {r e:Option β}
  (hs: ∀n (k:Nat),k<N->(∀j,j<k->p j=true)->L (n+1) (S k) k=if p k then L n (S (k+1)) ((k+1:Nat):Int)else r) (he: ∀n,(∀j,j<N->p j=true)->L (n+1) (S N) (N:Nat)=e) {n:Nat} (hn:N<n):
  L n (S 0) 0=if(List.range N).all p then e else r:=by
 have key: ∀(n k:Nat),k<=N->N-k<n->(∀j,j<k->p j=true)->L n (S k) k=if(List.range' k (N-k)).all p then e else r:=by
  intro n
  induction n with
  |zero=>intro k _ h;omega
  |succ n ih=>
   intro k hk hn hb
   rcases Nat.lt_or_ge k N with hlt|hge
   ·rw[hs n k hlt hb,show N-k=(N-(k+1))+1 by omega,List.range'_succ,List.all_cons]
    cases hp:p k with
    |false=>simp
    |true=>
     simp only[if_true,Bool.true_and]
     refine ih (k+1) hlt (by omega) λj hj=>?_
     rcases Nat.lt_or_ge j k with h|h
     ·exact hb j h
     ·have:j=k:=by omega
      rw[this];exact hp
   ·have:k=N:=by omega
    subst this;rw[he n hb];simp
 have:=key n 0 (Nat.zero_le _) (by omega) (λj h=>by omega)
 rw[List.range_eq_range']
 simpa using this
end Go.Va
set_option linter.unusedVariables false
open Go Go.Va
namespace T
def Aa:Nat:=1099511627776
def CU (x:Int) (a:Int) (b:Int):Option (Bool):=
 if decide (x≥a)then
 some (decide (x<=b))
 else
 some false
def BU:Nat->(Int×(List Int)×Int)->Option ((Unit)⊕(Bool))
 |0,_=>none
 |n+1,(n_,list,i)=>
 if decide (i<(list.length:Int))then
 if inb i list then
 (CU (gd list i 0) 0 (w64 (n_-1))).bind λr1=>
 if !r1 then
 some (.inr false)
 else
 BU n (n_,list,w64 (i+1))
 else none
 else
 some (.inl ())
def C8 (n_:Int) (list:List Int):Option (Bool):=
 (BU Aa (n_,list,0)).bind λs1=>
  match s1 with
  | .inl s2=>
   some true
  | .inr s3=>
   some s3
def ED (n_:Int) (k:Int) (t:List Int):Option (Bool):=
 if(t.length:Int)==k then
 (C8 n_ t).bind λr1=>
 some r1
 else
 some false
def CJ:Nat->(Int×(List Int)×Int×Int)->Option ((Unit)⊕(Bool))
 |0,_=>none
 |n+1,(n_,t7,t8,t9)=>
 if decide (t9<t8)then
 if inb t9 t7 then
 if decide ((gd t7 t9 0)<0)then
 some (.inr false)
 else
 if decide ((gd t7 t9 0)≥n_)then
 some (.inr false)
 else
 CJ n (n_,t7,t8,w64 (t9+1))
 else none
 else
 some (.inl ())
def Eb (list:List Int) (n_:Int):Option (Bool):=
 (CJ Aa (n_,list,(list.length:Int),0)).bind λs1=>
  match s1 with
  | .inl s2=>
   some true
  | .inr s3=>
   some s3
def E8 (n_:Int):Option (Bool):=
 (CU n_ 1 8).bind λr1=>
 some r1
def DJ:Nat->(Int×Int×Int)->Option (Int)
 |0,_=>none
 |n+1,(n_,k,out)=>
 if decide (k>0)then
 DJ n (n_,w64 (k-1),w64 (out*n_))
 else
 some out
def EC (n_:Int) (k:Int):Option (Int):=
 (DJ Aa (n_,k,1)).bind λs1=>
 some s1
def CQ:Nat->((List Int)×(List Int)×Int)->Option ((Unit)⊕(Bool))
 |0,_=>none
 |n+1,(a,b,i)=>
 if decide (i<(a.length:Int))then
 if inb i a then
 if inb i b then
 if(gd a i 0) !=(gd b i 0)then
 if inb i a then
 if inb i b then
 some (.inr (decide ((gd a i 0)<(gd b i 0))))
 else none
 else none
 else
 CQ n (a,b,w64 (i+1))
 else none
 else none
 else
 some (.inl ())
def E6 (a:List Int) (b:List Int):Option (Bool):=
 (CQ Aa (a,b,0)).bind λs1=>
  match s1 with
  | .inl s2=>
   some false
  | .inr s3=>
   some s3
def CN:Nat->((List Int)×(List Int)×Int)->Option ((Unit)⊕(Bool))
 |0,_=>none
 |n+1,(a,b,i)=>
 if decide (i<(a.length:Int))then
 if inb i a then
 if inb i b then
 if(gd a i 0) !=(gd b i 0)then
 some (.inr false)
 else
 CN n (a,b,w64 (i+1))
 else none
 else none
 else
 some (.inl ())
def E3 (a:List Int) (b:List Int):Option (Bool):=
 if(a.length:Int) !=(b.length:Int)then
  some false
 else
  (CN Aa (a,b,0)).bind λs1=>
   match s1 with
   | .inl s2=>
    some true
   | .inr s3=>
    some s3
def Cn:Nat->((List (List Int))×(List Int)×Int×Int)->Option ((List (List Int))×(List Int)×Int)
 |0,_=>none
 |n+1,(list,t,from_,to)=>
 if decide (from_<to)then
 if(2:Int)≠0 then
 if inb (w64 (Int.tdiv (w64 (from_+to)) 2)) list then
 (E6 (gd list (w64 (Int.tdiv (w64 (from_+to)) 2)) []) t).bind λr1=>
 if r1 then
 Cn n (list,t,w64 ((w64 (Int.tdiv (w64 (from_+to)) 2))+1),to)
 else
 Cn n (list,t,from_,w64 (Int.tdiv (w64 (from_+to)) 2))
 else none
 else none
 else
 some (list,t,from_)
def DN (list:List (List Int)) (t:List Int):Option (Int×Bool):=
 (Cn Aa (list,t,0,(list.length:Int))).bind λs1=>
 if decide (s1.2.2<(s1.1.length:Int))then
 if inb s1.2.2 s1.1 then
 (E3 (gd s1.1 s1.2.2 []) s1.2.1).bind λr2=>
 some (s1.2.2,r2)
 else none
 else
 some (s1.2.2,false)
def Bf:Nat->((List Int)×(List Int)×Int)->Option (((List Int)×(List Int))⊕(Int))
 |0,_=>none
 |n+1,(s,t,i)=>
 if decide (i<(s.length:Int))then
 if decide (i<(t.length:Int))then
 if inb i s then
 if inb i t then
 if(gd s i 0) !=(gd t i 0)then
 if inb i s then
 if inb i t then
 if decide ((gd s i 0)<(gd t i 0))then
 some (.inr (-1))
 else
 some (.inr 1)
 else none
 else none
 else
 Bf n (s,t,w64 (i+1))
 else none
 else none
 else
 some (.inl (s,t))
 else
 some (.inl (s,t))
def Ea (s:List Int) (t:List Int):Option (Int):=
 (Bf Aa (s,t,0)).bind λs1=>
  match s1 with
  | .inl s2=>
   if decide ((s2.1.length:Int)<(s2.2.length:Int))then
    some (-1)
   else
    if decide ((s2.1.length:Int)>(s2.2.length:Int))then
     some 1
    else
     some 0
  | .inr s3=>
   some s3
end T
open Go Go.Va
namespace T
theorem Cu (x a b:Int):CU x a b=some (decide (a<=x/\x<=b)):=by
 unfold CU
 by_cases h:a<=x<;>simp[h]
def BC (n:Int) (l:List Int):Bool:=l.all λx=>decide (0<=x/\x<n)
theorem EV {l:List Int} (n:Int) (hl:l.length<=1099511627775):Eb l n=some (BC n l):=by
 unfold Eb
 rw[FT l (λm i=>CJ m (n,l,(l.length:Int),i)) (λx=>decide (0<=x/\x<n)) (.inr false) (.inl ()) ?_ ?_ (by unfold Aa;omega)]
 ·unfold BC;cases l.all (λx=>decide (0<=x/\x<n))<;>simp
 ·intro m k hk
  simp only[CJ,Af,Ae hk,Ad (show k<4611686018427387904 by omega)]
  by_cases h1:l[k]<0
  ·simp[hk,h1,show¬0<=l[k] by omega]
  ·by_cases h2:n<=l[k]
   ·simp[hk,h1,h2,show¬l[k]<n by omega]
   ·simp[hk,h1,h2,show 0<=l[k]/\l[k]<n by omega]
 ·intro m
  simp[CJ]
theorem D7 {l:List Int} {n:Int} (hn: -9223372036854775808<n) (hn':n<=9223372036854775807) (hl:l.length<=1099511627775):C8 n l=some (BC n l):=by
 unfold C8
 rw[FT l (λm i=>BU m (n,l,i)) (λx=>decide (0<=x/\x<n)) (.inr false) (.inl ()) ?_ ?_ (by unfold Aa;omega)]
 ·unfold BC;cases l.all (λx=>decide (0<=x/\x<n))<;>simp
 ·intro m k hk
  simp only[BU,Af,Ae hk,Ad (show k<4611686018427387904 by omega),Cu,AP (show-9223372036854775808<=n-1 by omega) (show n-1<=9223372036854775807 by omega)]
  by_cases h1:0<=l[k]/\l[k]<n
  ·simp[hk,h1,show l[k]<=n-1 by omega]
  ·have: ¬(0<=l[k]/\l[k]<=n-1):=by omega
   simp[hk,h1,this]
 ·intro m
  simp[BU]
theorem Ge {l:List Int} {n:Int} (k:Int) (hn: -9223372036854775808<n) (hn':n<=9223372036854775807) (hl:l.length<=1099511627775):ED n k l=some (decide ((l.length:Int)=k)&&BC n l):=by
 unfold ED
 rw[D7 hn hn' hl]
 by_cases h:(l.length:Int)=k<;>simp[h]
end T
open Go Go.Va
namespace T
theorem Fm {n:Int} {l:List Int} (h:BC n l=true) (k:Nat) (hk:k<l.length):0<=l[k]/\l[k]<n:=by
 have:=(List.all_eq_true.1 h) l[k] (List.getElem_mem hk)
 simpa using this
section
variable {p v:Int} {rows:List (List Int)} {y:List Int}
end
end T
open Go Go.Va
namespace T
def cmpL:List Int->List Int->Int
 | [],[]=>0
 | [],_::_=> -1
 |_::_,[]=>1
 |a::s,b::t=>if a=b then cmpL s t else if a<b then-1 else 1
theorem HK {s t:List Int} (hs:s.length<=1099511627775): ∀(n k:Nat),k<=s.length->k<=t.length->s.length-k<n->
  (Bf n (s,t,(k:Int))).bind (λs1=>match s1 with
   | .inl s2=>if decide ((s2.1.length:Int)<(s2.2.length:Int))then some (-1)else if decide ((s2.1.length:Int)>(s2.2.length:Int))then some 1 else some 0
   | .inr s3=>some s3)=some (cmpL (s.drop k) (t.drop k)):=by
 intro n
 induction n with
 |zero=>intro k _ _ h;omega
 |succ n ih=>
  intro k h1 h2 hn
  by_cases k1:k<s.length
  ·by_cases k2:k<t.length
   ·rw[List.drop_eq_getElem_cons k1,List.drop_eq_getElem_cons k2]
    simp only[Bf,Af,Ae k1,Ae k2,Ad (show k<4611686018427387904 by omega),cmpL]
    by_cases he:s[k]=t[k]
    ·have:=ih (k+1) k1 k2 (by omega)
     simp[k1,k2,he]
     simpa using this
    ·by_cases hl:s[k]<t[k]<;>simp[k1,k2,he,hl]
   ·rw[List.drop_eq_getElem_cons k1,List.drop_of_length_le (show t.length<=k by omega)]
    have e:k=t.length:=by omega
    simp only[Bf,cmpL]
    simp[k1,k2,show¬s.length<t.length by omega,show t.length<s.length by omega]
  ·rw[List.drop_of_length_le (show s.length<=k by omega)]
   simp only[Bf]
   by_cases k2:k<t.length
   ·rw[List.drop_eq_getElem_cons k2]
    simp[k1,cmpL,show s.length<t.length by omega]
   ·rw[List.drop_of_length_le (show t.length<=k by omega)]
    simp[k1,cmpL,show¬s.length<t.length by omega,show¬t.length<s.length by omega]
theorem EU {s t:List Int} (hs:s.length<=1099511627775):Ea s t=some (cmpL s t):=by
 have:=HK (t:=t) hs Aa 0 (Nat.zero_le _) (Nat.zero_le _) (by unfold Aa;omega)
 rw[List.drop_zero,List.drop_zero]at this
 exact this
theorem E7 {s t:List Int} (hs:s.length<=1099511627775) (hl:s.length=t.length):E6 s t=some (decide (cmpL s t<0)):=by
 have key: ∀(n k:Nat),k<=s.length->s.length-k<n->(CQ n (s,t,(k:Int))).bind (λs1=>match s1 with| .inl _=>some false| .inr s3=>some s3)=some (decide (cmpL (s.drop k) (t.drop k)<0)):=by
  intro n
  induction n with
  |zero=>intro k _ h;omega
  |succ n ih=>
   intro k h1 hn
   by_cases k1:k<s.length
   ·have k2:k<t.length:=by omega
    rw[List.drop_eq_getElem_cons k1,List.drop_eq_getElem_cons k2]
    simp only[CQ,Af,Ae k1,Ae k2,Ad (show k<4611686018427387904 by omega),cmpL]
    by_cases he:s[k]=t[k]
    ·have:=ih (k+1) k1 (by omega)
     simp[k1,k2,he]
     simpa using this
    ·by_cases hl:s[k]<t[k]<;>simp[k1,k2,he,hl]
   ·rw[List.drop_of_length_le (show s.length<=k by omega),List.drop_of_length_le (show t.length<=k by omega)]
    simp[CQ,k1,cmpL]
 have:=key Aa 0 (Nat.zero_le _) (by unfold Aa;omega)
 rw[List.drop_zero,List.drop_zero]at this
 exact this
theorem Gy {a b:List Int} (ha:a.length<=1099511627775):E3 a b=some (decide (a=b)):=by
 unfold E3
 by_cases hl:a.length=b.length
 ·rw[if_neg (by simp[hl]),eqX a b hl (λn i=>CN n (a,b,i)) ?_ ?_ (by unfold Aa;omega)]
  ·by_cases h:a=b<;>simp[h]
  ·intro n k h1 h2
   simp only[CN,Af,Ae h1,Ae h2,Ad (show k<4611686018427387904 by omega)]
   by_cases h:a[k]=b[k]<;>simp[h1,h2,h]
  ·intro n
   simp[CN]
 ·rw[if_pos (by simp;omega),decide_eq_false (λe=>hl (by rw[e]))]
theorem cmpL_refl: ∀s,cmpL s s=0
 | []=>rfl
 |a::s=>by simp[cmpL,cmpL_refl s]
theorem cmpL_eq: ∀ {s t},cmpL s t=0↔s=t
 | [],[]=>by simp[cmpL]
 | [],_::_=>by simp[cmpL]
 |_::_,[]=>by simp[cmpL]
 |a::s,b::t=>by
  simp only[cmpL]
  by_cases h:a=b
  ·rw[if_pos h,cmpL_eq];simp[h]
  ·rw[if_neg h];split<;>simp[h]
theorem cmpL_symm: ∀s t,cmpL t s= -cmpL s t
 | [],[]=>by simp[cmpL]
 | [],_::_=>by simp[cmpL]
 |_::_,[]=>by simp[cmpL]
 |a::s,b::t=>by
  simp only[cmpL]
  by_cases h:a=b
  ·rw[if_pos h,if_pos h.symm,cmpL_symm s t]
  ·rw[if_neg h,if_neg (Ne.symm h)]
   by_cases h2:a<b
   ·rw[if_pos h2,if_neg (by omega)];rfl
   ·rw[if_neg h2,if_pos (by omega)]
theorem cmpL_trans: ∀ {s t u},cmpL s t<0->cmpL t u<0->cmpL s u<0
 | [],[],_,h,_=>by simp[cmpL]at h
 | [],_::_,[],_,h=>by simp[cmpL]at h
 | [],_::_,_::_,_,_=>by simp[cmpL]
 |_::_,[],_,h,_=>by simp[cmpL]at h
 |_::_,_::_,[],_,h=>by simp[cmpL]at h
 |a::s,b::t,c::u,h1,h2=>by
  simp only[cmpL]at*
  by_cases e1:a=b
  ·rw[if_pos e1]at h1
   by_cases e2:b=c
   ·rw[if_pos e2]at h2;rw[if_pos (e1.trans e2)];exact cmpL_trans h1 h2
   ·rw[if_neg e2]at h2;rw[e1,if_neg e2];exact h2
  ·rw[if_neg e1]at h1
   have l1:a<b:=by
    by_cases h:a<b
    ·exact h
    ·rw[if_neg h]at h1;omega
   by_cases e2:b=c
   ·rw[←e2,if_neg e1,if_pos l1];omega
   ·rw[if_neg e2]at h2
    have l2:b<c:=by
     by_cases h:b<c
     ·exact h
     ·rw[if_neg h]at h2;omega
    rw[if_neg (by omega),if_pos (by omega)];omega
def De:List (List Int)->Bool
 |a::b::l=>decide (cmpL a b<0)&&De (b::l)
 |_=>true
theorem It {a:List Int} {l:List (List Int)} (h:De (a::l)=true):De l=true:=by
 cases l with
 |nil=>rfl
 |cons b l=>simp only[De,Bool.and_eq_true]at h;exact h.2
theorem GS: ∀ {a:List Int} {l:List (List Int)},De (a::l)=true-> ∀b∈l,cmpL a b<0
 |a,[],_,b,hb=>by cases hb
 |a,c::l,h,b,hb=>by
  simp only[De,Bool.and_eq_true,decide_eq_true_eq]at h
  rcases List.mem_cons.1 hb with rfl|hb
  ·exact h.1
  ·exact cmpL_trans h.1 (GS h.2 b hb)
theorem Et: ∀ {l:List (List Int)},De l=true-> ∀(i j:Nat) (hi:i<j) (hj:j<l.length),cmpL (l[i]'(by omega)) l[j]<0
 | [],_,i,j,_,hj=>by simp at hj
 |a::l,h,0,j+1,_,hj=>by
  simp only[List.getElem_cons_zero,List.getElem_cons_succ]
  exact GS h _ (List.getElem_mem _)
 |a::l,h,i+1,j+1,hi,hj=>by
  simp only[List.getElem_cons_succ]
  exact Et (It h) i j (by omega) (by simpa using hj)
theorem Hs {l:List (List Int)}:De l=true↔ ∀(i:Nat) (hi:i+1<l.length),cmpL (l[i]'(by omega)) l[i+1]<0:=by
 constructor
 ·exact λh i hi=>Et h i (i+1) (by omega) hi
 ·induction l with
  |nil=>intro _;rfl
  |cons a l ih=>
   intro h
   cases l with
   |nil=>rfl
   |cons b l=>
    simp only[De,Bool.and_eq_true,decide_eq_true_eq]
    exact⟨h 0 (by simp),ih λi hi=>by have:=h (i+1) (by simpa using hi);simpa using this⟩
end T
open Go Go.Va
namespace T
theorem GX {n:Int} (h0:0<=n) (h8:n<=8): ∀k:Nat,0<=n^k/\n^k<=8^k
 |0=>by simp
 |k+1=>by
  obtain⟨h1,h2⟩:=GX h0 h8 k
  rw[Int.pow_succ,Int.pow_succ]
  exact⟨Int.mul_nonneg h1 h0,Int.mul_le_mul h2 h8 h0 (by have:(0:Int)<=8^k:=Int.le_trans h1 h2;exact this)⟩
theorem JO: ∀k:Nat,k<=20->(8:Int)^k<=8^20:=by
 intro k hk
 have:((8^k:Nat):Int)<=((8^20:Nat):Int):=Int.ofNat_le.2 (Nat.pow_le_pow_right (by omega) hk)
 simpa using this
theorem Jh {n:Int} (h0:0<=n) (h8:n<=8) {k:Nat} (hk:k<=20):0<=n^k/\n^k<=1152921504606846976:=by
  obtain⟨h1,h2⟩:=GX h0 h8 k
  have:=JO k hk
  exact ⟨h1, by have e : (8 : Int) ^ 20 = 1152921504606846976 := by decide
                omega⟩
theorem I8 {n:Int} (h0:0<=n) (h8:n<=8): ∀(m k j:Nat),j+k<=20->k<m->DJ m (n,(k:Int),n^j)=some (n^(j+k)):=by
 intro m
 induction m with
 |zero=>intro k j _ h;omega
 |succ m ih=>
  intro k j hj hk
  simp only[DJ]
  cases k with
  |zero=>simp
  |succ k=>
   have e:w64 (((k+1:Nat):Int)-1)=(k:Int):=by rw[AP (by omega) (by omega)];omega
   have hb:=Jh h0 h8 (k:=j+1) (by omega)
   rw[Int.pow_succ]at hb
   rw[e,AP (by omega) (by omega),←Int.pow_succ,if_pos (by simp),ih k (j+1) (by omega) (by omega)]
   congr 2<;>omega
theorem Fl {n:Int} (h0:0<=n) (h8:n<=8) {k:Nat} (hk:k<=20):EC n (k:Int)=some (n^k):=by
 unfold EC
 have:=I8 h0 h8 Aa k 0 (by omega) (by unfold Aa;omega)
 rw[Int.pow_zero]at this
 rw[this];simp
def G8 (n:Int):Int->List Int->Int
 |i,[]=>i
 |i,a::l=>G8 n (i*n+a) l
def idx (n:Int) (l:List Int):Int:=G8 n 0 l
theorem G9 (n:Int): ∀(l:List Int) (i:Int),G8 n i l=i*n^l.length+G8 n 0 l
 | [],i=>by simp[G8]
 |a::l,i=>by
  simp only[G8,List.length_cons]
  rw[G9 n l (i*n+a),G9 n l (0*n+a),Int.pow_succ]
  simp only[Int.zero_mul,Int.zero_add]
  rw[Int.add_mul,Int.mul_assoc,Int.mul_comm n (n^l.length)]
  omega
theorem Gm (n a:Int) (l:List Int):idx n (a::l)=a*n^l.length+idx n l:=by
 unfold idx
 simp only[G8]
 rw[G9];simp
theorem EN {n a:Int} {l:List Int}:BC n (a::l)=true↔(0<=a/\a<n)/\BC n l=true:=by
 unfold BC;simp[List.all_cons]
theorem Gl {n:Int}: ∀ {l:List Int},BC n l=true->0<=idx n l/\idx n l<n^l.length
 | [],_=>by simp[idx,G8]
 |a::l,h=>by
  obtain⟨h1,h2⟩:=EN.1 h
  obtain⟨h3,h4⟩:=Gl h2
  rw[Gm,List.length_cons,Int.pow_succ]
  have hp:0<=n^l.length:=by omega
  have k1:=Int.mul_nonneg h1.1 hp
  have k2:=Int.mul_le_mul_of_nonneg_right (show a+1<=n by omega) hp
  rw[Int.add_mul,Int.one_mul,Int.mul_comm n]at k2
  exact⟨by omega,by omega⟩
theorem H9 {n:Int}: ∀ {s t:List Int},BC n s=true->BC n t=true->s.length=t.length->(cmpL s t<0↔idx n s<idx n t)/\(cmpL s t=0↔idx n s=idx n t)
 | [],[],_,_,_=>by simp[cmpL,idx,G8]
 | [],_::_,_,_,h=>by simp at h
 |_::_,[],_,_,h=>by simp at h
 |a::s,b::t,hs,ht,hl=>by
  obtain⟨s1,s2⟩:=EN.1 hs
  obtain⟨t1,t2⟩:=EN.1 ht
  have hl':s.length=t.length:=by simpa using hl
  have ih:=H9 s2 t2 hl'
  obtain⟨b1,b2⟩:=Gl s2
  obtain⟨c1,c2⟩:=Gl t2
  rw[Gm,Gm,hl']
  rw[hl']at b2
  simp only[cmpL]
  have hp:0<=n^t.length:=by omega
  rcases Int.lt_trichotomy a b with h|h|h
  ·have:=Int.mul_le_mul_of_nonneg_right (show a+1<=b by omega) hp
   rw[Int.add_mul,Int.one_mul]at this
   rw[if_neg (by omega),if_pos h]
   exact⟨by constructor<;>intro<;>omega,by constructor<;>intro<;>omega⟩
  ·subst h
   rw[if_pos rfl]
   exact⟨by rw[ih.1];constructor<;>intro<;>omega,by rw[ih.2];constructor<;>intro<;>omega⟩
  ·have:=Int.mul_le_mul_of_nonneg_right (show b+1<=a by omega) hp
   rw[Int.add_mul,Int.one_mul]at this
   rw[if_neg (by omega),if_neg (by omega)]
   exact⟨by constructor<;>intro<;>omega,by constructor<;>intro<;>omega⟩
theorem Fi {n:Int} {k:Nat} {l:List (List Int)} (hi:De l=true) (hv: ∀t∈l,t.length=k/\BC n t=true):(l.length:Int)<=n^k∨l= []:=by
 have key: ∀(i:Nat) (h:i<l.length),(i:Int)<=idx n l[i]:=by
  intro i
  induction i with
  |zero=>intro h;exact(Gl (hv _ (List.getElem_mem h)).2).1
  |succ i ih=>
   intro h
   have h1:=ih (by omega)
   obtain⟨l1,b1⟩:=hv _ (List.getElem_mem (show i<l.length by omega))
   obtain⟨l2,b2⟩:=hv _ (List.getElem_mem h)
   have:=(H9 b1 b2 (l1.trans l2.symm)).1.1 (Et hi i (i+1) (by omega) h)
   omega
 cases hn:l.length with
 |zero=>exact .inr (List.length_eq_zero_iff.1 hn)
 |succ m=>
  left
  have h:=key m (by omega)
  obtain⟨l1,b1⟩:=hv _ (List.getElem_mem (show m<l.length by omega))
  have:=(Gl b1).2
  rw[l1]at this
  omega
theorem Jz {list:List (List Int)} {t:List Int} {k:Nat} (hl:list.length<=1099511627775) (hk:k<=1099511627775) (hv: ∀u∈list,u.length=k) (ht:t.length=k) (hi:De list=true): ∀(m a b:Nat),a<=b->b<=list.length->b-a<m->
  (∀i (h:i<list.length),i<a->cmpL list[i] t<0)->(∀i (h:i<list.length),b<=i-> ¬cmpL list[i] t<0)->
  ∃c:Nat,Cn m (list,t,(a:Int),(b:Int))=some (list,t,(c:Int))/\c<=list.length/\(∀i (h:i<list.length),i<c->cmpL list[i] t<0)/\(∀i (h:i<list.length),c<=i-> ¬cmpL list[i] t<0):=by
 intro m
 induction m with
 |zero=>intro a b _ _ h;omega
 |succ m ih=>
  intro a b hab hb hm h1 h2
  simp only[Cn]
  by_cases hlt:a<b
  ·have emid:w64 (Int.tdiv (w64 ((a:Int)+b)) 2)=(((a+b)/2:Nat):Int):=by
    rw[AP (x:=(a:Int)+b) (by omega) (by omega),Int.tdiv_eq_ediv_of_nonneg (by omega),AP (by omega) (by omega)];omega
   have hmid:(a+b)/2<list.length:=by omega
   rw[emid]
   have hless:=E7 (s:=list[(a+b)/2]) (t:=t) (by rw[hv _ (List.getElem_mem hmid)];omega) (by rw[hv _ (List.getElem_mem hmid),ht])
   simp only[Af,Ae hmid,hless,Option.bind_some,Ad (show(a+b)/2<4611686018427387904 by omega)]
   by_cases hc:cmpL list[(a+b)/2] t<0
   ·obtain⟨c,e,k1,k2,k3⟩:=ih ((a+b)/2+1) b (by omega) hb (by omega) (λi h hi'=>by
     rcases Nat.lt_or_ge i ((a+b)/2)with h'|h'
     ·exact cmpL_trans (Et hi i ((a+b)/2) h' hmid) hc
     ·have:i=(a+b)/2:=by omega
      subst this;exact hc) h2
    exact⟨c,by simpa[hlt,hmid,hc]using e,k1,k2,k3⟩
   ·obtain⟨c,e,k1,k2,k3⟩:=ih a ((a+b)/2) (by omega) (by omega) (by omega) h1 (λi h hi' hneg=>by
     rcases Nat.lt_or_ge ((a+b)/2) i with h'|h'
     ·exact hc (cmpL_trans (Et hi ((a+b)/2) i h' h) hneg)
     ·have:i=(a+b)/2:=by omega
      subst this;exact hc hneg)
    exact⟨c,by simpa[hlt,hmid,hc]using e,k1,k2,k3⟩
  ·have:a=b:=by omega
   subst this
   exact⟨a,by simp,hb,h1,h2⟩
theorem E9 {list:List (List Int)} {t:List Int} {k:Nat} (hl:list.length<=1099511627774) (hk:k<=1099511627775) (hv: ∀u∈list,u.length=k) (ht:t.length=k) (hi:De list=true):
  ∃c:Nat,DN list t=some ((c:Int),decide (t∈list))/\c<=list.length/\(∀i (h:i<list.length),i<c->cmpL list[i] t<0)/\(∀i (h:i<list.length),c<=i-> ¬cmpL list[i] t<0):=by
 obtain⟨c,e,k1,k2,k3⟩:=Jz (by omega) hk hv ht hi Aa 0 list.length (Nat.zero_le _) (Nat.le_refl _) (by unfold Aa;omega) (λi _ h=>by omega) (λi h h'=>by omega)
 refine⟨c,?_,k1,k2,k3⟩
 unfold DN
 have e':Cn Aa (list,t,0,(list.length:Int))=some (list,t,(c:Int)):=e
 rw[e']
 simp only[Option.bind_some]
 by_cases hc:c<list.length
 ·have hs:=Gy (a:=list[c]) (b:=t) (by rw[hv _ (List.getElem_mem hc)];omega)
  simp only[Af,Ae hc,hs,Option.bind_some]
  have:decide (list[c]=t)=decide (t∈list):=by
   by_cases h:list[c]=t
   ·rw[decide_eq_true h,decide_eq_true (h▸List.getElem_mem hc)]
   ·rw[decide_eq_false h]
    symm;rw[decide_eq_false_iff_not]
    intro hm
    obtain⟨j,hj,rfl⟩:=List.mem_iff_getElem.1 hm
    have hne:j≠c:=λe=>h (by subst e;rfl)
    rcases Nat.lt_or_ge j c with hlt|hge
    ·have:=k2 j hj hlt;rw[cmpL_refl]at this;omega
    ·exact k3 c hc (Nat.le_refl _) (Et hi c j (by omega) hj)
  simp[hc,this]
 ·have:decide (t∈list)=false:=by
   rw[decide_eq_false_iff_not]
   intro hm
   obtain⟨j,hj,rfl⟩:=List.mem_iff_getElem.1 hm
   have:=k2 j hj (by omega);rw[cmpL_refl]at this;omega
  rw[if_neg (by simp;omega),this]
end T
open Go Go.Va
namespace T
def HE (n:Int):Bool:=decide (1<=n/\n<=8)
theorem GC (n:Int):E8 n=some (HE n):=by
 unfold E8 HE
 rw[Cu];simp
def KV (n k:Int) (t:List Int):Bool:=decide ((t.length:Int)=k)&&BC n t
def Kq (n k:Int) (ts:List (List Int)):Bool:=HE n&&decide (1<=k/\k<=4)&&ts.all (KV n k)&&De ts
theorem I1 {α:Type} {l:List α} {i:Nat} {d:α} (h:i<l.length):l.getD i d=l[i]:=by simp[h]
end T
open Go Go.Va
namespace T
structure SetOk (p:Int) (k:Nat) (ts:List (List Int)):Prop where
 hp:2<=p/\p<=7
 hk:k<=4
 len: ∀t∈ts,t.length=k
 el: ∀t∈ts,BC p t=true
 inc:De ts=true
theorem SetOk.count {p:Int} {k:Nat} {ts:List (List Int)} (h:SetOk p k ts):ts.length<=2401:=by
 rcases Fi (n:=p) (k:=k) h.inc λt ht=>⟨h.len t ht,h.el t ht⟩with h'|h'
 ·have hp:=h.hp
  have e:p^k<=7^4:=by
   have:(p.toNat^k:Nat)<=7^4:=Nat.le_trans (Nat.pow_le_pow_left (show p.toNat<=7 by omega) k) (Nat.pow_le_pow_right (by omega) h.hk)
   have e2:((p.toNat^k:Nat):Int)=p^k:=by
    rw[Int.natCast_pow];congr 1;omega
   rw[←e2];exact_mod_cast this
  have:(7:Int)^4=2401:=by decide
  omega
 ·rw[h'];simp
section
variable {p:Int} {k:Nat} {ts:List (List Int)}
theorem SetOk.get (h:SetOk p k ts) {t:List Int} (ht:t∈ts) {i:Nat} (hi:i<k):i<t.length/\0<=t.getD i 0/\t.getD i 0<p:=by
 have hl:=h.len t ht
 have:=Fm (h.el t ht) i (by omega)
 rw[I1 (by omega)]
 exact⟨by omega,this⟩
end
end T
set_option linter.unusedVariables false
open Go Go.Va
namespace T
def B5:Nat->(Int×(Int×(List (List Int)))×Int)->Option ((Unit)⊕(Bool))
 |0,_=>none
 |n+1,(n_,r,i)=>
 if decide (i<(r.2.length:Int))then
 if inb i r.2 then
 (ED n_ r.1 (gd r.2 i [])).bind λr3=>
 if !r3 then
 some (.inr false)
 else
 if decide (i>0)then
 if inb (w64 (i-1)) r.2 then
 if inb i r.2 then
 (E6 (gd r.2 (w64 (i-1)) []) (gd r.2 i [])).bind λr4=>
 if !r4 then
 some (.inr false)
 else
 B5 n (n_,(r.1,r.2),w64 (i+1))
 else none
 else none
 else
 B5 n (n_,(r.1,r.2),w64 (i+1))
 else none
 else
 some (.inl ())
def Ex (n_:Int) (r:Int×(List (List Int))):Option (Bool):=
 (CU r.1 1 3).bind λr1=>
  if !r1 then
   some false
  else
   (EC n_ r.1).bind λr2=>
    if decide ((r.2.length:Int)>r2)then
     some false
    else
     (B5 Aa (n_,(r.1,r.2),0)).bind λs3=>
      match s3 with
      | .inl s4=>
       some true
      | .inr s5=>
       some s5
def Fz (vars:Int) (size:Int) (c:(List Int)×Int×(List (List Int))):Option (Bool):=
 (Ex size (c.2.1,c.2.2)).bind λr1=>
 if r1 then
 if(c.1.length:Int)==c.2.1 then
 (C8 vars c.1).bind λr2=>
 some r2
 else
 some false
 else
 some false
def Cz:Nat->((Int×Int×(List ((List Int)×Int×(List (List Int)))))×Int)->Option ((Unit)⊕(Bool))
 |0,_=>none
 |n+1,(net,i)=>
 if decide (i<(net.2.2.length:Int))then
 if inb i net.2.2 then
 (Fz net.1 net.2.1 (gd net.2.2 i ([],(0,[])))).bind λr3=>
 if !r3 then
 some (.inr false)
 else
 Cz n ((net.1,(net.2.1,net.2.2)),w64 (i+1))
 else none
 else
 some (.inl ())
def Ct (net:Int×Int×(List ((List Int)×Int×(List (List Int))))):Option (Bool):=
 (CU net.1 0 9).bind λr1=>
  if !r1 then
   some false
  else
   (CU net.2.1 1 4).bind λr2=>
    if !r2 then
     some false
    else
     if decide ((net.2.2.length:Int)>40)then
      some false
     else
      (Cz Aa ((net.1,(net.2.1,net.2.2)),0)).bind λs3=>
       match s3 with
       | .inl s4=>
        some true
       | .inr s5=>
        some s5
def BT (l:List Int):Option ((List Int)):=
 if([]:List Int).length+l.length<=lim then
 some ([]++l)
 else none
def DU (n_:Int):Option (Bool):=
 if decide (n_≥1)then
 some (decide (n_<=4))
 else
 some false
def By:Nat->(Int×(Int×(List (List Int)))×(List (List Int))×Int×Int)->Option ((Unit)⊕(Bool))
 |0,_=>none
 |n+1,(n_,r,t16,t17,t18)=>
 if decide (t18<t17)then
 if inb t18 t16 then
 if((gd t16 t18 []).length:Int) !=r.1 then
 some (.inr false)
 else
 (Eb (gd t16 t18 []) n_).bind λr1=>
 if !r1 then
 some (.inr false)
 else
 if decide (t18>0)then
 if inb (w64 (t18-1)) r.2 then
 (Ea (gd r.2 (w64 (t18-1)) []) (gd t16 t18 [])).bind λr2=>
 if decide (r2≥0)then
 some (.inr false)
 else
 By n (n_,(r.1,r.2),t16,t17,w64 (t18+1))
 else none
 else
 By n (n_,(r.1,r.2),t16,t17,w64 (t18+1))
 else none
 else
 some (.inl ())
def DQ (n_:Int) (r:Int×(List (List Int))):Option (Bool):=
 if decide (r.1<1)then
  some false
 else
  if decide (r.1>3)then
   some false
  else
   (By Aa (n_,(r.1,r.2),r.2,(r.2.length:Int),0)).bind λs1=>
    match s1 with
    | .inl s2=>
     some true
    | .inr s3=>
     some s3
def Dp (vars:Int) (size:Int) (c:(List Int)×Int×(List (List Int))):Option (Bool):=
 (DQ size (c.2.1,c.2.2)).bind λr1=>
 if r1 then
 if(c.1.length:Int)==c.2.1 then
 (Eb c.1 vars).bind λr2=>
 some r2
 else
 some false
 else
 some false
def Cd:Nat->((Int×Int×(List ((List Int)×Int×(List (List Int)))))×(List ((List Int)×Int×(List (List Int))))×Int×Int)->Option ((Unit)⊕(Bool))
 |0,_=>none
 |n+1,(net,t26,t27,t28)=>
 if decide (t28<t27)then
 if inb t28 t26 then
 (Dp net.1 net.2.1 ((gd t26 t28 ([],(0,[]))).1,(((gd t26 t28 ([],(0,[]))).2).1,((gd t26 t28 ([],(0,[]))).2).2))).bind λr2=>
 if !r2 then
 some (.inr false)
 else
 Cd n ((net.1,(net.2.1,net.2.2)),t26,t27,w64 (t28+1))
 else none
 else
 some (.inl ())
def Bk (net:Int×Int×(List ((List Int)×Int×(List (List Int))))):Option (Bool):=
 if decide (net.1<0)then
  some false
 else
  if decide (net.1>9)then
   some false
  else
   (DU net.2.1).bind λr1=>
    if !r1 then
     some false
    else
     if decide ((net.2.2.length:Int)>40)then
      some false
     else
      (Cd Aa ((net.1,(net.2.1,net.2.2)),net.2.2,(net.2.2.length:Int),0)).bind λs2=>
       match s2 with
       | .inl s3=>
        some true
       | .inr s4=>
        some s4
def Ch:Nat->((List Int)×(List Int)×Int×Int×(List Int)×Int×Int×(List Int)×Int×Int)->Option (((List Int)×(List Int)×(List Int)×Int×Int)⊕(Bool))
 |0,_=>none
 |n+1,(scope,t,i,v,t9,t10,t11,t18,t19,t20)=>
 if decide (t20<t19)then
 if inb t20 t18 then
 if v==(gd t18 t20 0)then
 if inb i t then
 if inb t20 t then
 if(gd t i 0) !=(gd t t20 0)then
 some (.inr false)
 else
 Ch n (scope,t,i,v,t9,t10,t11,t18,t19,w64 (t20+1))
 else none
 else none
 else
 Ch n (scope,t,i,v,t9,t10,t11,t18,t19,w64 (t20+1))
 else none
 else
 some (.inl (scope,t,t9,t10,t11))
def CI:Nat->((List Int)×(List Int)×(List Int)×Int×Int)->Option ((Unit)⊕(Bool))
 |0,_=>none
 |n+1,(scope,t,t9,t10,t11)=>
  if decide (t11<t10)then
   if inb t11 t9 then
    if(0:Int)<=0/\0<=t11/\t11<=(scope.length:Int)then
     (Ch Aa (scope,t,t11,gd t9 t11 0,t9,t10,t11,(scope.take (Int.toNat t11)).drop (Int.toNat 0),(((scope.take (Int.toNat t11)).drop (Int.toNat 0)).length:Int),0)).bind λs1=>
      match s1 with
      | .inl s2=>
       CI n (s2.1,s2.2.1,s2.2.2.1,s2.2.2.2.1,w64 (s2.2.2.2.2+1))
      | .inr s3=>
       some (.inr s3)
    else none
   else none
  else
   some (.inl ())
def ET (scope:List Int) (t:List Int):Option (Bool):=
 (CI Aa (scope,t,scope,(scope.length:Int),0)).bind λs1=>
  match s1 with
  | .inl s2=>
   some true
  | .inr s3=>
   some s3
def BV:Nat->(Int×(List Int)×Int)->Option ((List Int))
 |0,_=>none
 |n+1,(n_,out,x)=>
 if decide (x<n_)then
 if out.length+ [x].length<=lim then
 BV n (n_,out++ [x],w64 (x+1))
 else none
 else
 some out
def C9 (n_:Int):Option ((List Int)):=
 (BV Aa (n_,[],0)).bind λs1=>
 some s1
def CC:Nat->((Int×Int×(List ((List Int)×Int×(List (List Int)))))×(List (List Int))×Int)->Option ((List (List Int)))
 |0,_=>none
 |n+1,(net,out,v)=>
 if decide (v<net.1)then
 (C9 net.2.1).bind λr1=>
 if out.length+ [r1].length<=lim then
 CC n ((net.1,(net.2.1,net.2.2)),out++ [r1],w64 (v+1))
 else none
 else
 some out
def CV (net:Int×Int×(List ((List Int)×Int×(List (List Int))))):Option ((List (List Int))):=
 (CC Aa ((net.1,(net.2.1,net.2.2)),[],0)).bind λs1=>
 some s1
def C1:Nat->((List Int)×Int×Int)->Option ((Unit)⊕(Bool))
 |0,_=>none
 |n+1,(l,n_,i)=>
 if decide (i<(l.length:Int))then
 if inb i l then
 if(gd l i 0)==n_ then
 some (.inr true)
 else
 C1 n (l,n_,w64 (i+1))
 else none
 else
 some (.inl ())
def EA (l:List Int) (n_:Int):Option (Bool):=
 (C1 Aa (l,n_,0)).bind λs1=>
  match s1 with
  | .inl s2=>
   some false
  | .inr s3=>
   some s3
def BN:Nat->((List Int)×(List (List Int))×((List Int)×Int×(List (List Int)))×Int×Int)->Option (((List Int)×(List (List Int))×((List Int)×Int×(List (List Int)))×Int)⊕(Bool))
 |0,_=>none
 |n+1,(t,domains,c,i,k)=>
 if decide (k<i)then
 if inb k c.1 then
 if inb i c.1 then
 if(gd c.1 k 0)==(gd c.1 i 0)then
 if inb k t then
 if inb i t then
 if(gd t k 0) !=(gd t i 0)then
 some (.inr false)
 else
 BN n (t,domains,(c.1,(c.2.1,c.2.2)),i,w64 (k+1))
 else none
 else none
 else
 BN n (t,domains,(c.1,(c.2.1,c.2.2)),i,w64 (k+1))
 else none
 else none
 else
 some (.inl (t,domains,(c.1,(c.2.1,c.2.2)),i))
def CB:Nat->((List Int)×(List (List Int))×((List Int)×Int×(List (List Int)))×Int)->Option ((Unit)⊕(Bool))
 |0,_=>none
 |n+1,(t,domains,c,i)=>
  if decide (i<(t.length:Int))then
   if inb i c.1 then
    if inb (gd c.1 i 0) domains then
     if inb i t then
      (EA (gd domains (gd c.1 i 0) []) (gd t i 0)).bind λr1=>
       if !r1 then
        some (.inr false)
       else
        (BN Aa (t,domains,(c.1,(c.2.1,c.2.2)),i,0)).bind λs2=>
         match s2 with
         | .inl s3=>
          CB n (s3.1,s3.2.1,(s3.2.2.1.1,(s3.2.2.1.2.1,s3.2.2.1.2.2)),w64 (s3.2.2.2+1))
         | .inr s4=>
          some (.inr s4)
     else none
    else none
   else none
  else
   some (.inl ())
def EB (c:(List Int)×Int×(List (List Int))) (t:List Int) (domains:List (List Int)):Option (Bool):=
 (CB Aa (t,domains,(c.1,(c.2.1,c.2.2)),0)).bind λs1=>
  match s1 with
  | .inl s2=>
   some true
  | .inr s3=>
   some s3
def BA:Nat->(Int×Int×(List (List Int))×((List Int)×Int×(List (List Int)))×Int)->Option ((Unit)⊕(Bool))
 |0,_=>none
 |n+1,(place,value,domains,c,i)=>
 if decide (i<(c.2.2.length:Int))then
 if inb i c.2.2 then
 if inb place (gd c.2.2 i [])then
 if(gd (gd c.2.2 i []) place 0)==value then
 if inb i c.2.2 then
 (EB (c.1,(c.2.1,c.2.2)) (gd c.2.2 i []) domains).bind λr1=>
 if r1 then
 some (.inr true)
 else
 BA n (place,value,domains,(c.1,(c.2.1,c.2.2)),w64 (i+1))
 else none
 else
 BA n (place,value,domains,(c.1,(c.2.1,c.2.2)),w64 (i+1))
 else none
 else none
 else
 some (.inl ())
def DT (c:(List Int)×Int×(List (List Int))) (place:Int) (value:Int) (domains:List (List Int)):Option (Bool):=
 (BA Aa (place,value,domains,(c.1,(c.2.1,c.2.2)),0)).bind λs1=>
  match s1 with
  | .inl s2=>
   some false
  | .inr s3=>
   some s3
def BB:Nat->((List Int)×Int×(List Int)×Int)->Option ((List Int))
 |0,_=>none
 |n+1,(list,x,out,i)=>
 if decide (i<(list.length:Int))then
 if inb i list then
 if(gd list i 0) !=x then
 if inb i list then
 if out.length+ [gd list i 0].length<=lim then
 BB n (list,x,out++ [gd list i 0],w64 (i+1))
 else none
 else none
 else
 BB n (list,x,out,w64 (i+1))
 else none
 else
 some out
def C7 (list:List Int) (x:Int):Option ((List Int)):=
 (BB Aa (list,x,[],0)).bind λs1=>
 some s1
def Bi:Nat->((Int×Int×(List ((List Int)×Int×(List (List Int)))))×(List (List Bool))×Int×Int×Int×Int×Int)->Option ((Int×Int×(List ((List Int)×Int×(List (List Int)))))×(List (List Bool))×Int×Int)
 |0,_=>none
 |n+1,(net,d,v,t10,t11,t24,t25)=>
 if decide (t25<t24)then
 if inb v d then
 if inb t25 (gd d v [])then
 Bi n ((net.1,(net.2.1,net.2.2)),stt d v (stt (gd d v []) t25 true),v,t10,t11,t24,w64 (t25+1))
 else none
 else none
 else
 some ((net.1,(net.2.1,net.2.2)),d,t10,t11)
def BE:Nat->((Int×Int×(List ((List Int)×Int×(List (List Int)))))×(List (List Bool))×Int×Int)->Option ((List (List Bool)))
 |0,_=>none
 |n+1,(net,d,t10,t11)=>
 if decide (t11<t10)then
 if 0<=net.2.1/\net.2.1<=net.2.1/\net.2.1<=lim then
 if inb t11 d then
 if inb t11 (stt d t11 (List.replicate (Int.toNat net.2.1) (false:Bool)))then
 (Bi Aa ((net.1,(net.2.1,net.2.2)),stt d t11 (List.replicate (Int.toNat net.2.1) (false:Bool)),t11,t10,t11,((gd (stt d t11 (List.replicate (Int.toNat net.2.1) (false:Bool))) t11 []).length:Int),0)).bind λs1=>
 BE n ((s1.1.1,(s1.1.2.1,s1.1.2.2)),s1.2.1,s1.2.2.1,w64 (s1.2.2.2+1))
 else none
 else none
 else none
 else
 some d
def Bp (net:Int×Int×(List ((List Int)×Int×(List (List Int))))):Option ((List (List Bool))):=
 if 0<=net.1/\net.1<=net.1/\net.1<=lim then
 (BE Aa ((net.1,(net.2.1,net.2.2)),List.replicate (Int.toNat net.1) ([]:List Bool),((List.replicate (Int.toNat net.1) ([]:List Bool)).length:Int),0)).bind λs1=>
 some s1
 else none
def Ay:Nat->((List (List Bool))×Int×Int×((List Int)×Int×(List (List Int)))×Bool×(List (List Int))×Int×Int×(List Int)×Int×Int)->Option ((List (List Bool))×Int×Int×((List Int)×Int×(List (List Int)))×Bool×(List (List Int))×Int×Int)
 |0,_=>none
 |n+1,(d,place,value,c,in_,t16,t17,t18,t35,t36,t37)=>
 if decide (t37<t36)then
 if inb t37 t35 then
 if in_ then
 if inb t37 c.1 then
 if inb (gd c.1 t37 0) d then
 if inb (gd t35 t37 0) (gd d (gd c.1 t37 0) [])then
 Ay n (d,place,value,(c.1,(c.2.1,c.2.2)),gd (gd d (gd c.1 t37 0) []) (gd t35 t37 0) false,t16,t17,t18,t35,t36,w64 (t37+1))
 else none
 else none
 else none
 else
 Ay n (d,place,value,(c.1,(c.2.1,c.2.2)),false,t16,t17,t18,t35,t36,w64 (t37+1))
 else none
 else
 some (d,place,value,(c.1,(c.2.1,c.2.2)),in_,t16,t17,t18)
def Ax:Nat->((List (List Bool))×Int×Int×((List Int)×Int×(List (List Int)))×(List (List Int))×Int×Int)->Option ((Unit)⊕(Bool))
 |0,_=>none
 |n+1,(d,place,value,c,t16,t17,t18)=>
 if decide (t18<t17)then
 if inb t18 t16 then
 if inb place (gd t16 t18 [])then
 if(gd (gd t16 t18 []) place 0) !=value then
 Ax n (d,place,value,(c.1,(c.2.1,c.2.2)),t16,t17,w64 (t18+1))
 else
 (ET c.1 (gd t16 t18 [])).bind λr1=>
 if !r1 then
 Ax n (d,place,value,(c.1,(c.2.1,c.2.2)),t16,t17,w64 (t18+1))
 else
 (Ay Aa (d,place,value,(c.1,(c.2.1,c.2.2)),true,t16,t17,t18,gd t16 t18 [],((gd t16 t18 []).length:Int),0)).bind λs2=>
 if s2.2.2.2.2.1 then
 some (.inr true)
 else
 Ax n (s2.1,s2.2.1,s2.2.2.1,(s2.2.2.2.1.1,(s2.2.2.2.1.2.1,s2.2.2.2.1.2.2)),s2.2.2.2.2.2.1,s2.2.2.2.2.2.2.1,w64 (s2.2.2.2.2.2.2.2+1))
 else none
 else none
 else
 some (.inl ())
def BY (d:List (List Bool)) (c:(List Int)×Int×(List (List Int))) (place:Int) (value:Int):Option (Bool):=
 (Ax Aa (d,place,value,(c.1,(c.2.1,c.2.2)),c.2.2,(c.2.2.length:Int),0)).bind λs1=>
  match s1 with
  | .inl s2=>
   some false
  | .inr s3=>
   some s3
def Bx:Nat->((Int×Int×(List ((List Int)×Int×(List (List Int)))))×(List (List Bool))×(List (Int×Int×Int))×Int×Int)->Option ((Unit)⊕(Bool×Bool))
 |0,_=>none
 |n+1,(t2,t6,t23,t24,t25)=>
 if decide (t25<t24)then
 if inb t25 t23 then
 if decide (((gd t23 t25 (0,(0,0))).1)<0)then
 some (.inr (false,true))
 else
 if decide (((gd t23 t25 (0,(0,0))).1)≥(t2.2.2.length:Int))then
 some (.inr (false,true))
 else
 if decide ((((gd t23 t25 (0,(0,0))).2).2)<0)then
 some (.inr (false,true))
 else
 if decide ((((gd t23 t25 (0,(0,0))).2).2)≥t2.2.1)then
 some (.inr (false,true))
 else
 if inb ((gd t23 t25 (0,(0,0))).1) t2.2.2 then
 if decide ((((gd t23 t25 (0,(0,0))).2).1)<0)then
 some (.inr (false,true))
 else
 if decide ((((gd t23 t25 (0,(0,0))).2).1)≥(((gd t2.2.2 ((gd t23 t25 (0,(0,0))).1) ([],(0,[]))).1).length:Int))then
 some (.inr (false,true))
 else
 if inb (((gd t23 t25 (0,(0,0))).2).1) ((gd t2.2.2 ((gd t23 t25 (0,(0,0))).1) ([],(0,[]))).1)then
 if inb (gd ((gd t2.2.2 ((gd t23 t25 (0,(0,0))).1) ([],(0,[]))).1) (((gd t23 t25 (0,(0,0))).2).1) 0) t6 then
 if inb (((gd t23 t25 (0,(0,0))).2).2) (gd t6 (gd ((gd t2.2.2 ((gd t23 t25 (0,(0,0))).1) ([],(0,[]))).1) (((gd t23 t25 (0,(0,0))).2).1) 0) [])then
 if !(gd (gd t6 (gd ((gd t2.2.2 ((gd t23 t25 (0,(0,0))).1) ([],(0,[]))).1) (((gd t23 t25 (0,(0,0))).2).1) 0) []) (((gd t23 t25 (0,(0,0))).2).2) false)then
 some (.inr (false,true))
 else
 (BY t6 ((gd t2.2.2 ((gd t23 t25 (0,(0,0))).1) ([],(0,[]))).1,(((gd t2.2.2 ((gd t23 t25 (0,(0,0))).1) ([],(0,[]))).2).1,((gd t2.2.2 ((gd t23 t25 (0,(0,0))).1) ([],(0,[]))).2).2)) (((gd t23 t25 (0,(0,0))).2).1) (((gd t23 t25 (0,(0,0))).2).2)).bind λr3=>
 if r3 then
 some (.inr (false,true))
 else
 if inb (((gd t23 t25 (0,(0,0))).2).1) ((gd t2.2.2 ((gd t23 t25 (0,(0,0))).1) ([],(0,[]))).1)then
 if inb (gd ((gd t2.2.2 ((gd t23 t25 (0,(0,0))).1) ([],(0,[]))).1) (((gd t23 t25 (0,(0,0))).2).1) 0) t6 then
 if inb (((gd t23 t25 (0,(0,0))).2).2) (gd t6 (gd ((gd t2.2.2 ((gd t23 t25 (0,(0,0))).1) ([],(0,[]))).1) (((gd t23 t25 (0,(0,0))).2).1) 0) [])then
 Bx n ((t2.1,(t2.2.1,t2.2.2)),stt t6 (gd ((gd t2.2.2 ((gd t23 t25 (0,(0,0))).1) ([],(0,[]))).1) (((gd t23 t25 (0,(0,0))).2).1) 0) (stt (gd t6 (gd ((gd t2.2.2 ((gd t23 t25 (0,(0,0))).1) ([],(0,[]))).1) (((gd t23 t25 (0,(0,0))).2).1) 0) []) (((gd t23 t25 (0,(0,0))).2).2) false),t23,t24,w64 (t25+1))
 else none
 else none
 else none
 else none
 else none
 else none
 else none
 else none
 else
 some (.inl ())
def DP (t0:Int×Int×(List ((List Int)×Int×(List (List Int))))) (t1:List (Int×Int×Int)):Option (Bool×Bool):=
 (Bk (t0.1,(t0.2.1,t0.2.2))).bind λr1=>
  if !r1 then
   some (false,false)
  else
   if decide ((t1.length:Int)>40)then
    some (false,false)
   else
    (Bp (t0.1,(t0.2.1,t0.2.2))).bind λr2=>
     (Bx Aa ((t0.1,(t0.2.1,t0.2.2)),r2,t1,(t1.length:Int),0)).bind λs3=>
      match s3 with
      | .inl s4=>
       some (true,true)
      | .inr s5=>
       some (s5.1,s5.2)
def BM:Nat->((Int×Int×(List ((List Int)×Int×(List (List Int)))))×(List (Int×Int×Int))×(List (List Int))×Int×Int×((List Int)×Int×(List (List Int)))×Int×(List Int)×Int)->Option ((Int×Int×(List ((List Int)×Int×(List (List Int)))))×(List (Int×Int×Int))×(List (List Int))×Int×Int×((List Int)×Int×(List (List Int)))×Int)
 |0,_=>none
 |n+1,(t2,t6,t7,t8,t9,t10,t11,t12,t13)=>
 if decide (t13<(t12.length:Int))then
 if inb t13 t12 then
 (DT (t10.1,(t10.2.1,t10.2.2)) t11 (gd t12 t13 0) t7).bind λr1=>
 if !r1 then
 if inb t11 t10.1 then
 if inb t11 t10.1 then
 if inb (gd t10.1 t11 0) t7 then
 if inb t13 t12 then
 (C7 (gd t7 (gd t10.1 t11 0) []) (gd t12 t13 0)).bind λr2=>
 if inb (gd t10.1 t11 0) t7 then
 if inb t13 t12 then
 if t6.length+ [(t9,(t11,gd t12 t13 0))].length<=lim then
 BM n ((t2.1,(t2.2.1,t2.2.2)),t6++ [(t9,(t11,gd t12 t13 0))],stt t7 (gd t10.1 t11 0) r2,t8,t9,(t10.1,(t10.2.1,t10.2.2)),t11,t12,w64 (t13+1))
 else none
 else none
 else none
 else none
 else none
 else none
 else none
 else
 BM n ((t2.1,(t2.2.1,t2.2.2)),t6,t7,t8,t9,(t10.1,(t10.2.1,t10.2.2)),t11,t12,w64 (t13+1))
 else none
 else
 some ((t2.1,(t2.2.1,t2.2.2)),t6,t7,t8,t9,(t10.1,(t10.2.1,t10.2.2)),t11)
def Ca:Nat->((Int×Int×(List ((List Int)×Int×(List (List Int)))))×(List (Int×Int×Int))×(List (List Int))×Int×Int×((List Int)×Int×(List (List Int)))×Int)->Option ((Int×Int×(List ((List Int)×Int×(List (List Int)))))×(List (Int×Int×Int))×(List (List Int))×Int×Int)
 |0,_=>none
 |n+1,(t2,t6,t7,t8,t9,t10,t11)=>
 if decide (t11<(t10.1.length:Int))then
 if inb t11 t10.1 then
 if inb (gd t10.1 t11 0) t7 then
 (BM Aa ((t2.1,(t2.2.1,t2.2.2)),t6,t7,t8,t9,(t10.1,(t10.2.1,t10.2.2)),t11,gd t7 (gd t10.1 t11 0) [],0)).bind λs1=>
 Ca n ((s1.1.1,(s1.1.2.1,s1.1.2.2)),s1.2.1,s1.2.2.1,s1.2.2.2.1,s1.2.2.2.2.1,(s1.2.2.2.2.2.1.1,(s1.2.2.2.2.2.1.2.1,s1.2.2.2.2.2.1.2.2)),w64 (s1.2.2.2.2.2.2+1))
 else none
 else none
 else
 some ((t2.1,(t2.2.1,t2.2.2)),t6,t7,t8,t9)
def Cl:Nat->((Int×Int×(List ((List Int)×Int×(List (List Int)))))×(List (Int×Int×Int))×(List (List Int))×Int×Int)->Option ((Int×Int×(List ((List Int)×Int×(List (List Int)))))×(List (Int×Int×Int))×(List (List Int))×Int)
 |0,_=>none
 |n+1,(t2,t6,t7,t8,t9)=>
 if decide (t9<(t2.2.2.length:Int))then
 if inb t9 t2.2.2 then
 (Ca Aa ((t2.1,(t2.2.1,t2.2.2)),t6,t7,t8,t9,((gd t2.2.2 t9 ([],(0,[]))).1,(((gd t2.2.2 t9 ([],(0,[]))).2).1,((gd t2.2.2 t9 ([],(0,[]))).2).2)),0)).bind λs1=>
 Cl n ((s1.1.1,(s1.1.2.1,s1.1.2.2)),s1.2.1,s1.2.2.1,s1.2.2.2.1,w64 (s1.2.2.2.2+1))
 else none
 else
 some ((t2.1,(t2.2.1,t2.2.2)),t6,t7,t8)
def Dt:Nat->((Int×Int×(List ((List Int)×Int×(List (List Int)))))×(List (Int×Int×Int))×(List (List Int))×Int)->Option (((List (Int×Int×Int))×(List (List Int)))⊕((List (List Int))×(List (Int×Int×Int))))
 |0,_=>none
 |n+1,(t2,t6,t7,t8)=>
 if decide (t8<(t6.length:Int))then
 (Cl Aa ((t2.1,(t2.2.1,t2.2.2)),t6,t7,(t6.length:Int),0)).bind λs1=>
 if s1.2.2.2==(s1.2.1.length:Int)then
 some (.inr (s1.2.2.1,s1.2.1))
 else
 Dt n ((s1.1.1,(s1.1.2.1,s1.1.2.2)),s1.2.1,s1.2.2.1,s1.2.2.2)
 else
 some (.inl (t6,t7))
def Dl (t0:Int×Int×(List ((List Int)×Int×(List (List Int))))) (t1:List (List Int)):Option ((List (List Int))×(List (Int×Int×Int))):=
 if([]:List (List Int)).length+t1.length<=lim then
  (Dt Aa ((t0.1,(t0.2.1,t0.2.2)),[],[]++t1,(-1))).bind λs1=>
   match s1 with
   | .inl s2=>
    some (s2.2,s2.1)
   | .inr s3=>
    some (s3.1,s3.2)
 else none
def Cm:Nat->((List (List Int))×Int)->Option ((Unit)⊕(Bool))
 |0,_=>none
 |n+1,(domains,v)=>
 if decide (v<(domains.length:Int))then
 if inb v domains then
 if((gd domains v []).length:Int)==0 then
 some (.inr true)
 else
 Cm n (domains,w64 (v+1))
 else none
 else
 some (.inl ())
def Eg (domains:List (List Int)):Option (Bool):=
 (Cm Aa (domains,0)).bind λs1=>
  match s1 with
  | .inl s2=>
   some false
  | .inr s3=>
   some s3
def Au:Nat->((List (List Bool))×(Int×Int×(List ((List Int)×Int×(List (List Int)))))×(List (Int×Int×Int))×Bool×Int×((List Int)×Int×(List (List Int)))×Int×Int×(List ((List Int)×Int×(List (List Int))))×Int×Int×(List Int)×Int×Int×Int×Int)->Option ((List (List Bool))×(Int×Int×(List ((List Int)×Int×(List (List Int)))))×(List (Int×Int×Int))×Bool×Int×((List Int)×Int×(List (List Int)))×(List ((List Int)×Int×(List (List Int))))×Int×Int×(List Int)×Int×Int)
 |0,_=>none
 |n+1,(t0,t3,t5,t6,t7,t8,t9,t10,t15,t16,t17,t23,t24,t25,t34,t35)=>
 if decide (t35<t34)then
 if inb t10 t0 then
 if inb t35 (gd t0 t10 [])then
 if gd (gd t0 t10 []) t35 false then
 (BY t0 (t8.1,(t8.2.1,t8.2.2)) t9 t35).bind λr1=>
 if !r1 then
 if inb t10 t0 then
 if inb t35 (gd t0 t10 [])then
 if t5.length+ [(t7,(t9,t35))].length<=lim then
 Au n (stt t0 t10 (stt (gd t0 t10 []) t35 false),(t3.1,(t3.2.1,t3.2.2)),t5++ [(t7,(t9,t35))],true,t7,(t8.1,(t8.2.1,t8.2.2)),t9,t10,t15,t16,t17,t23,t24,t25,t34,w64 (t35+1))
 else none
 else none
 else none
 else
 Au n (t0,(t3.1,(t3.2.1,t3.2.2)),t5,t6,t7,(t8.1,(t8.2.1,t8.2.2)),t9,t10,t15,t16,t17,t23,t24,t25,t34,w64 (t35+1))
 else
 Au n (t0,(t3.1,(t3.2.1,t3.2.2)),t5,t6,t7,(t8.1,(t8.2.1,t8.2.2)),t9,t10,t15,t16,t17,t23,t24,t25,t34,w64 (t35+1))
 else none
 else none
 else
 some (t0,(t3.1,(t3.2.1,t3.2.2)),t5,t6,t7,(t8.1,(t8.2.1,t8.2.2)),t15,t16,t17,t23,t24,t25)
def AW:Nat->((List (List Bool))×(Int×Int×(List ((List Int)×Int×(List (List Int)))))×(List (Int×Int×Int))×Bool×Int×((List Int)×Int×(List (List Int)))×(List ((List Int)×Int×(List (List Int))))×Int×Int×(List Int)×Int×Int)->Option ((List (List Bool))×(Int×Int×(List ((List Int)×Int×(List (List Int)))))×(List (Int×Int×Int))×Bool×(List ((List Int)×Int×(List (List Int))))×Int×Int)
 |0,_=>none
 |n+1,(t0,t3,t5,t6,t7,t8,t15,t16,t17,t23,t24,t25)=>
 if decide (t25<t24)then
 if inb t25 t23 then
 if inb (gd t23 t25 0) t0 then
 (Au Aa (t0,(t3.1,(t3.2.1,t3.2.2)),t5,t6,t7,(t8.1,(t8.2.1,t8.2.2)),t25,gd t23 t25 0,t15,t16,t17,t23,t24,t25,((gd t0 (gd t23 t25 0) []).length:Int),0)).bind λs1=>
 AW n (s1.1,(s1.2.1.1,(s1.2.1.2.1,s1.2.1.2.2)),s1.2.2.1,s1.2.2.2.1,s1.2.2.2.2.1,(s1.2.2.2.2.2.1.1,(s1.2.2.2.2.2.1.2.1,s1.2.2.2.2.2.1.2.2)),s1.2.2.2.2.2.2.1,s1.2.2.2.2.2.2.2.1,s1.2.2.2.2.2.2.2.2.1,s1.2.2.2.2.2.2.2.2.2.1,s1.2.2.2.2.2.2.2.2.2.2.1,w64 (s1.2.2.2.2.2.2.2.2.2.2.2+1))
 else none
 else none
 else
 some (t0,(t3.1,(t3.2.1,t3.2.2)),t5,t6,t15,t16,t17)
def AU:Nat->((List (List Bool))×(Int×Int×(List ((List Int)×Int×(List (List Int)))))×(List (Int×Int×Int))×Bool×(List ((List Int)×Int×(List (List Int))))×Int×Int)->Option ((List (List Bool))×(Int×Int×(List ((List Int)×Int×(List (List Int)))))×(List (Int×Int×Int))×Bool)
 |0,_=>none
 |n+1,(t0,t3,t5,t6,t15,t16,t17)=>
 if decide (t17<t16)then
 if inb t17 t15 then
 (AW Aa (t0,(t3.1,(t3.2.1,t3.2.2)),t5,t6,t17,((gd t15 t17 ([],(0,[]))).1,(((gd t15 t17 ([],(0,[]))).2).1,((gd t15 t17 ([],(0,[]))).2).2)),t15,t16,t17,(gd t15 t17 ([],(0,[]))).1,(((gd t15 t17 ([],(0,[]))).1).length:Int),0)).bind λs1=>
 AU n (s1.1,(s1.2.1.1,(s1.2.1.2.1,s1.2.1.2.2)),s1.2.2.1,s1.2.2.2.1,s1.2.2.2.2.1,s1.2.2.2.2.2.1,w64 (s1.2.2.2.2.2.2+1))
 else none
 else
 some (t0,(t3.1,(t3.2.1,t3.2.2)),t5,t6)
def Bn:Nat->((List (List Bool))×(Int×Int×(List ((List Int)×Int×(List (List Int)))))×(List (Int×Int×Int))×Bool)->Option ((List (List Bool))×(List (Int×Int×Int)))
 |0,_=>none
 |n+1,(t0,t3,t5,t6)=>
 if t6 then
 (AU Aa (t0,(t3.1,(t3.2.1,t3.2.2)),t5,false,t3.2.2,(t3.2.2.length:Int),0)).bind λs1=>
 Bn n (s1.1,(s1.2.1.1,(s1.2.1.2.1,s1.2.1.2.2)),s1.2.2.1,s1.2.2.2)
 else
 some (t0,t5)
def BQ (t0:List (List Bool)) (t1:Int×Int×(List ((List Int)×Int×(List (List Int))))):Option ((List (List Bool))×(List (Int×Int×Int))):=
 (Bn Aa (t0,(t1.1,(t1.2.1,t1.2.2)),[],true)).bind λs1=>
 some (s1.1,s1.2)
def B3 (net:Int×Int×(List ((List Int)×Int×(List (List Int))))):Option ((List (List Bool))):=
 (Bp (net.1,(net.2.1,net.2.2))).bind λr1=>
 (BQ r1 (net.1,(net.2.1,net.2.2))).bind λr2=>
 some r2.1
def Ci:Nat->((List Int)×(List Bool)×Int×Int)->Option ((List Int))
 |0,_=>none
 |n+1,(list,t7,t8,t9)=>
 if decide (t9<t8)then
 if inb t9 t7 then
 if gd t7 t9 false then
 if list.length+ [t9].length<=lim then
 Ci n (list++ [t9],t7,t8,w64 (t9+1))
 else none
 else
 Ci n (list,t7,t8,w64 (t9+1))
 else none
 else
 some list
def DK (have_:List Bool):Option ((List Int)):=
 (Ci Aa ([],have_,(have_.length:Int),0)).bind λs1=>
 some s1
def Bb:Nat->((List (List Bool))×Int×Int)->Option ((Unit)⊕(Bool))
 |0,_=>none
 |n+1,(t5,t6,t7)=>
 if decide (t7<t6)then
 if inb t7 t5 then
 (DK (gd t5 t7 [])).bind λr1=>
 if(r1.length:Int)==0 then
 some (.inr true)
 else
 Bb n (t5,t6,w64 (t7+1))
 else none
 else
 some (.inl ())
def BX (d:List (List Bool)):Option (Bool):=
 (Bb Aa (d,(d.length:Int),0)).bind λs1=>
  match s1 with
  | .inl s2=>
   some false
  | .inr s3=>
   some s3
def DO (net:Int×Int×(List ((List Int)×Int×(List (List Int))))):Option (Bool×Bool):=
 (Bk (net.1,(net.2.1,net.2.2))).bind λr1=>
 if !r1 then
 some (false,false)
 else
 (B3 (net.1,(net.2.1,net.2.2))).bind λr2=>
 (BX r2).bind λr3=>
 some (r3,true)
def DG (net:Int×Int×(List ((List Int)×Int×(List (List Int))))):Option ((List (Int×Int×Int))×Bool):=
 (Ct (net.1,(net.2.1,net.2.2))).bind λr1=>
 if !r1 then
 some ([],false)
 else
 (CV (net.1,(net.2.1,net.2.2))).bind λr2=>
 (Dl (net.1,(net.2.1,net.2.2)) r2).bind λr3=>
 some (r3.2,true)
def DE (net:Int×Int×(List ((List Int)×Int×(List (List Int))))):Option ((List (Int×Int×Int))×Bool):=
 (Bk (net.1,(net.2.1,net.2.2))).bind λr1=>
 if !r1 then
 some ([],false)
 else
 (Bp (net.1,(net.2.1,net.2.2))).bind λr2=>
 (BQ r2 (net.1,(net.2.1,net.2.2))).bind λr3=>
 some (r3.2,true)
def CO:Nat->((List (List Int))×(List (List Int))×Int)->Option ((List (List Int)))
 |0,_=>none
 |n+1,(domains,out,v)=>
 if decide (v<(domains.length:Int))then
 if inb v domains then
 (BT (gd domains v [])).bind λr1=>
 if out.length+ [r1].length<=lim then
 CO n (domains,out++ [r1],w64 (v+1))
 else none
 else none
 else
 some out
def Ed (domains:List (List Int)):Option ((List (List Int))):=
 (CO Aa (domains,[],0)).bind λs1=>
 some s1
def C4 (net:Int×Int×(List ((List Int)×Int×(List (List Int))))):Option ((List (List Int))×Bool):=
 (Ct (net.1,(net.2.1,net.2.2))).bind λr1=>
 if !r1 then
 some ([],false)
 else
 (CV (net.1,(net.2.1,net.2.2))).bind λr2=>
 (Dl (net.1,(net.2.1,net.2.2)) r2).bind λr3=>
 (Ed r3.1).bind λr4=>
 some (r4,true)
def Bv:Nat->((List (List Int))×(List (List Bool))×Int×Int)->Option ((List (List Int)))
 |0,_=>none
 |n+1,(list,t7,t8,t9)=>
 if decide (t9<t8)then
 if inb t9 t7 then
 (DK (gd t7 t9 [])).bind λr1=>
 if list.length+ [r1].length<=lim then
 Bv n (list++ [r1],t7,t8,w64 (t9+1))
 else none
 else none
 else
 some list
def Cr (d:List (List Bool)):Option ((List (List Int))):=
 (Bv Aa ([],d,(d.length:Int),0)).bind λs1=>
 some s1
def C3 (net:Int×Int×(List ((List Int)×Int×(List (List Int))))):Option ((List (List Int))×Bool):=
 (Bk (net.1,(net.2.1,net.2.2))).bind λr1=>
 if !r1 then
 some ([],false)
 else
 (B3 (net.1,(net.2.1,net.2.2))).bind λr2=>
 (Cr r2).bind λr3=>
 some (r3,true)
end T
open Go Go.Va
namespace T
abbrev Con:=List Int×Int×List (List Int)
abbrev Net:=Int×Int×List Con
def Ji (a:List (List Int)):Prop:=a.length<=1048576/\ ∀r∈a,r.length<=1048576
def Kd (c:Con):Prop:=c.1.length<=1048576/\Ji c.2.2
def FN (a:Net):Prop:=a.2.2.length<=1048576/\ ∀c∈a.2.2,Kd c
def Hd (n:Int) (r:Int×List (List Int)):Bool:=decide (1<=r.1/\r.1<=3)&&(r.2.all λt=>decide ((t.length:Int)=r.1)&&BC n t)&&De r.2
def GI (n:Int) (r:Int×List (List Int)) (k:Nat):Bool:=decide (((r.2.getD k []).length:Int)=r.1)&&BC n (r.2.getD k [])&&(decide (k=0)||decide (cmpL (r.2.getD (k-1) []) (r.2.getD k [])<0))
theorem Ab {α:Type} {l:List α} {k:Nat} {d:α} (h:k<l.length):l.getD k d=l[k]:=by simp[List.getD_eq_getElem?_getD,h]
theorem G4 {n ar:Int} {ts:List (List Int)}:(List.range ts.length).all (GI n (ar,ts))=((ts.all λt=>decide ((t.length:Int)=ar)&&BC n t)&&De ts):=by
 rw[Bool.eq_iff_iff,Bool.and_eq_true,List.all_eq_true,List.all_eq_true,Hs]
 unfold GI
 constructor
 ·intro h
  refine⟨λt ht=>?_,λi hi=>?_⟩
  ·obtain⟨k,hk,rfl⟩:=List.getElem_of_mem ht
   have:=h k (List.mem_range.2 hk)
   rw[Ab hk]at this
   simp only[Bool.and_eq_true]at this
   rw[Bool.and_eq_true];exact this.1
  ·have:=h (i+1) (List.mem_range.2 hi)
   rw[Ab hi,Nat.add_sub_cancel,Ab (show i<ts.length by omega)]at this
   simp at this
   exact this.2
 ·rintro ⟨h1,h2⟩ k hk
  have hk:=List.mem_range.1 hk
  have e:=h1 _ (List.getElem_mem hk)
  rw[Ab hk]
  rw[Bool.and_eq_true]at e
  rw[Bool.and_eq_true,Bool.and_eq_true]
  refine⟨e,?_⟩
  cases k with
  |zero=>simp
  |succ i=>
   have:=h2 i hk
   rw[Nat.add_sub_cancel,Ab (show i<ts.length by omega)]
   simp[this]
theorem Fv {n:Int} {r:Int×List (List Int)} (h:Ji r.2):DQ n r=some (Hd n r):=by
 obtain⟨ar,ts⟩:=r
 unfold DQ Hd
 by_cases h1:ar<1
 ·simp[h1,show¬1<=ar by omega]
 ·by_cases h2:ar>3
  ·simp[h1,h2,show¬ar<=3 by omega]
  ·rw[if_neg (by simpa using h1),if_neg (by simpa using h2)]
   have key:=Hp ts.length (λm (_:Unit) i=>By m (n,(ar,ts),ts,(ts.length:Int),i)) (λ_=>()) (GI n (ar,ts)) (r:=some (.inr false)) (e:=some (.inl ())) (λm k hk=>?_) (λm=>?_) (n:=Aa) (by unfold Aa;have:=h.1;simp at this;omega)
   ·rw[key,G4]
    simp only[show(1<=ar/\ar<=3)=True by simp;omega,decide_true,Bool.true_and]
    cases (ts.all λt=>decide ((t.length:Int)=ar)&&BC n t)&&De ts<;>simp
   ·have hx:=h.2 ts[k] (List.getElem_mem hk)
    have hk':=h.1
    simp only at hk'
    simp only[By,Af,Ae hk,Ad (show k<4611686018427387904 by omega),EV n (show ts[k].length<=1099511627775 by omega),GI,Ab hk]
    by_cases hl:(ts[k].length:Int)=ar
    ·cases hb:BC n ts[k]with
     |false=>simp[hk,hl]
     |true=>
      cases k with
      |zero=>simp[hk,hl]
      |succ i=>
       have hi:i<ts.length:=by omega
       have hx2:=h.2 ts[i] (List.getElem_mem hi)
       have e:w64 (((i+1:Nat):Int)-1)=(i:Int):=by rw[AP (by omega) (by omega)];omega
       simp only[e,Af,Ae hi,Nat.add_sub_cancel,Ab hi,EU (show ts[i].length<=1099511627775 by omega)]
       by_cases hc:cmpL ts[i] ts[i+1]<0
       ·simp[hk,hl,hi,hc,show¬cmpL ts[i] ts[i+1]≥0 by omega];omega
       ·simp[hk,hl,hi,hc,show cmpL ts[i] ts[i+1]≥0 by omega];omega
    ·simp[hk,hl]
   ·simp[By]
theorem Gb {n:Int} {r:Int×List (List Int)} (h:Ji r.2) (hn:1<=n/\n<=8):Ex n r=some (Hd n r):=by
 obtain⟨ar,ts⟩:=r
 unfold Ex Hd
 rw[Cu]
 by_cases h1:1<=ar/\ar<=3
 ·simp only[h1,and_self,decide_true,Option.bind_some,Bool.not_true,Bool.false_eq_true,if_false,Bool.true_and]
  obtain⟨m,rfl⟩: ∃m:Nat,ar=m:=⟨ar.toNat,by omega⟩
  rw[Fl (by omega) (by omega) (by omega)]
  simp only[Option.bind_some]
  have key:=KQ ts.length (λm' (_:Unit) i=>B5 m' (n,((m:Int),ts),i)) (λ_=>()) (GI n ((m:Int),ts)) (r:=some (.inr false)) (e:=some (.inl ())) (λm' k hk hb0=>?_) (λm' _=>?_) (n:=Aa) (by unfold Aa;have:=h.1;simp at this;omega)
  ·by_cases hc:(ts.length:Int)>n^m
   ·rw[if_pos (by simpa using hc)]
    by_cases hv:((ts.all λt=>decide ((t.length:Int)=m)&&BC n t)&&De ts)=true
    ·rw[Bool.and_eq_true,List.all_eq_true]at hv
     rcases Fi (k:=m) hv.2 λt ht=>by have:=hv.1 t ht;simp at this;exact⟨by omega,this.2⟩with h2|h2
     ·omega
     ·subst h2
      have:=Jh (n:=n) (by omega) (by omega) (k:=m) (by omega)
      simp at hc;omega
    ·simp only[Bool.not_eq_true]at hv;rw[hv]
   ·rw[if_neg (by simpa using hc),key,G4]
    cases (ts.all λt=>decide ((t.length:Int)=m)&&BC n t)&&De ts<;>simp
  ·have hx:=h.2 ts[k] (List.getElem_mem hk)
   have hk':=h.1
   simp only at hk'
   simp only[B5,Af,Ae hk,Ad (show k<4611686018427387904 by omega),Ge (n:=n) _ (by omega) (by omega) (show ts[k].length<=1099511627775 by omega),GI,Ab hk]
   by_cases hl:(ts[k].length:Int)=m
   ·cases hb:BC n ts[k]with
    |false=>simp[hk,hl]
    |true=>
     cases k with
     |zero=>simp[hk,hl]
     |succ i=>
      have hi:i<ts.length:=by omega
      have hx2:=h.2 ts[i] (List.getElem_mem hi)
      have e:w64 (((i+1:Nat):Int)-1)=(i:Int):=by rw[AP (by omega) (by omega)];omega
      simp only[e,Af,Ae hi,Nat.add_sub_cancel,Ab hi]
      have hb1:=hb0 i (by omega)
      simp only[GI,Ab hi,Bool.and_eq_true,decide_eq_true_eq]at hb1
      rw[E7 (s:=ts[i]) (t:=ts[i+1]) (by omega) (by have:=hb1.1.1;omega)]
      by_cases hc:cmpL ts[i] ts[i+1]<0
      ·simp[hk,hl,hi,hc];omega
      ·simp[hk,hl,hi,hc];omega
   ·simp[hk,hl]
  ·simp[B5]
 ·have: ¬(1<=ar/\ar<=3):=h1
  simp[this]
end T
open Go Go.Va
namespace T
def FG (v n:Int) (c:Con):Bool:=Hd n (c.2.1,c.2.2)&&decide ((c.1.length:Int)=c.2.1)&&BC v c.1
def BH (a:Net):Bool:=decide (0<=a.1/\a.1<=9)&&decide (1<=a.2.1/\a.2.1<=4)&&decide (a.2.2.length<=40)&&a.2.2.all (FG a.1 a.2.1)
theorem EW {v n:Int} {c:Con} (h:Kd c):Dp v n c=some (FG v n c):=by
 unfold Dp FG
 rw[Fv (r:=(c.2.1,c.2.2)) h.2]
 cases Hd n (c.2.1,c.2.2)with
 |false=>simp
 |true=>
  by_cases hl:(c.1.length:Int)=c.2.1
  ·simp[hl,EV v (show c.1.length<=1099511627775 by have:=h.1;omega)]
  ·simp[hl]
theorem GK {v n:Int} {c:Con} (h:Kd c) (hv:0<=v/\v<=9) (hn:1<=n/\n<=8):Fz v n c=some (FG v n c):=by
 unfold Fz FG
 rw[Gb (r:=(c.2.1,c.2.2)) h.2 hn]
 cases Hd n (c.2.1,c.2.2)with
 |false=>simp
 |true=>
  by_cases hl:(c.1.length:Int)=c.2.1
  ·simp[hl,D7 (l:=c.1) (n:=v) (by omega) (by omega) (show c.1.length<=1099511627775 by have:=h.1;omega)]
  ·simp[hl]
theorem Bl {a:Net} (h:FN a):Bk a=some (BH a):=by
 obtain⟨v,n,cs⟩:=a
 unfold Bk BH
 by_cases h1:v<0
 ·simp[h1,show¬0<=v by omega]
 ·by_cases h2:v>9
  ·simp[h1,h2,show¬v<=9 by omega]
  ·rw[if_neg (by simpa using h1),if_neg (by simpa using h2)]
   unfold DU
   by_cases h3:1<=n/\n<=4
   ·by_cases h4:cs.length>40
    ·simp[h3,show¬cs.length<=40 by omega];omega
    ·have key:=FT cs (λm i=>Cd m ((v,(n,cs)),cs,(cs.length:Int),i)) (FG v n) (.inr false) (.inl ()) ?_ ?_ (n:=Aa) (by unfold Aa;omega)
     ·simp only[h3,ge_iff_le,decide_true,if_true,Option.bind_some,Bool.not_true,Bool.false_eq_true,if_false]
      rw[if_neg (by simp;omega),key]
      cases cs.all (FG v n)<;>simp<;>omega
     ·intro m k hk
      simp only[Cd,Af,Ae hk,Ad (show k<4611686018427387904 by omega),EW (c:=cs[k]) (h.2 _ (List.getElem_mem hk))]
      cases hb:FG v n cs[k]<;>simp[hk,hb]
     ·intro m
      simp[Cd]
   ·by_cases h5:n≥1
    ·simp[h5,show¬n<=4 by omega]
    ·simp[h5,show¬1<=n by omega]
theorem CA {a:Net} (h:FN a):Ct a=some (BH a):=by
 obtain⟨v,n,cs⟩:=a
 unfold Ct BH
 rw[Cu,Cu]
 by_cases h1:0<=v/\v<=9
 ·by_cases h3:1<=n/\n<=4
  ·by_cases h4:cs.length>40
   ·simp[h1,h3,show¬cs.length<=40 by omega];omega
   ·have key:=FT cs (λm i=>Cz m ((v,(n,cs)),i)) (FG v n) (.inr false) (.inl ()) ?_ ?_ (n:=Aa) (by unfold Aa;omega)
    ·simp only[h1,h3,and_self,decide_true,Option.bind_some,Bool.not_true,Bool.false_eq_true,if_false]
     rw[if_neg (by simp;omega),key]
     cases cs.all (FG v n)<;>simp<;>omega
    ·intro m k hk
     simp only[Cz,Af,Ae hk,Ad (show k<4611686018427387904 by omega),GK (c:=cs[k]) (h.2 _ (List.getElem_mem hk)) h1 (show 1<=n/\n<=8 by omega)]
     cases hb:FG v n cs[k]<;>simp[hk,hb]
    ·intro m
     simp[Cz]
  ·simp[h1,h3]
 ·simp[h1]
structure ConOk (v n:Int) (c:Con):Prop where
 ar:1<=c.2.1/\c.2.1<=3
 sl:(c.1.length:Int)=c.2.1
 sv: ∀(i:Nat) (hi:i<c.1.length),0<=c.1[i]/\c.1[i]<v
 tl: ∀t∈c.2.2,t.length=c.1.length
 tv: ∀t∈c.2.2,∀(i:Nat) (hi:i<t.length),0<=t[i]/\t[i]<n
 inc:De c.2.2=true
 many:c.2.2.length<=64
structure NetOk (a:Net):Prop where
 hv:0<=a.1/\a.1<=9
 hn:1<=a.2.1/\a.2.1<=4
 hc:a.2.2.length<=40
 con: ∀c∈a.2.2,ConOk a.1 a.2.1 c
theorem Ke {v n:Int} {c:Con} (hn:1<=n/\n<=4) (h:FG v n c=true):ConOk v n c:=by
 unfold FG Hd at h
 simp only[Bool.and_eq_true,decide_eq_true_eq,List.all_eq_true]at h
 obtain⟨⟨⟨⟨h1,h2⟩,h3⟩,h4⟩,h5⟩:=h
 refine⟨h1,h4,λi hi=>Fm h5 i hi,λt ht=>by have:=(h2 t ht).1;omega,λt ht i hi=>Fm (h2 t ht).2 i hi,h3,?_⟩
 rcases Fi (n:=n) (k:=c.2.1.toNat) h3 λt ht=>⟨by have:=(h2 t ht).1;omega,(h2 t ht).2⟩with h6|h6
 ·have:n^c.2.1.toNat<=64:=by
   have h7:c.2.1.toNat=1∨c.2.1.toNat=2∨c.2.1.toNat=3:=by omega
   have h8:n=1∨n=2∨n=3∨n=4:=by omega
   rcases h7 with h7|h7|h7<;>rcases h8 with h8|h8|h8|h8<;>rw[h7,h8]<;>decide
  omega
 ·rw[h6];simp
theorem CL {a:Net} (h:BH a=true):NetOk a:=by
 unfold BH at h
 simp only[Bool.and_eq_true,decide_eq_true_eq,List.all_eq_true]at h
 obtain⟨⟨⟨h1,h2⟩,h3⟩,h4⟩:=h
 exact⟨h1,h2,h3,λc hc=>Ke h2 (h4 c hc)⟩
end T
open Go Go.Va
namespace T
theorem HZ (a b:Int):(a==b)=decide (a=b):=by by_cases h:a=b<;>simp[h]
theorem Ju (a b:Int):(a !=b)=!decide (a=b):=by by_cases h:a=b<;>simp[h]
theorem KO {β:Type} (N:Nat) (L:Nat->Bool->Int->Option β) (p:Nat->Bool) (f:Bool->Option β)
  (hs: ∀n b (k:Nat),k<N->L (n+1) b k=L n (b&&p k) ((k+1:Nat):Int)) (he: ∀n b,L (n+1) b (N:Nat)=f b) {n:Nat} (hn:N<n) (b:Bool):L n b 0=f (b&&(List.range N).all p):=by
 have key: ∀(n k:Nat) (b:Bool),k<=N->N-k<n->L n b k=f (b&&(List.range' k (N-k)).all p):=by
  intro n
  induction n with
  |zero=>intro k b _ h;omega
  |succ n ih=>
   intro k b hk hn
   rcases Nat.lt_or_ge k N with hlt|hge
   ·rw[hs n b k hlt,ih (k+1) _ hlt (by omega),show N-k=(N-(k+1))+1 by omega,List.range'_succ,List.all_cons,Bool.and_assoc]
   ·have:k=N:=by omega
    subst this;rw[he];simp
 have:=key n 0 b (Nat.zero_le _) (by omega)
 rw[List.range_eq_range']
 simpa using this
theorem J0 {α β:Type} (N:Nat) (L:Nat->List α->Int->Option β) (f:Nat->α->α) (fin:List α->Option β)
  (hs: ∀n (a:List α) (k:Nat) (hk:k<N) (hl:a.length=N),L (n+1) a k=L n (a.set k (f k (a[k]'(by omega)))) ((k+1:Nat):Int)) (he: ∀n a,a.length=N->L (n+1) a (N:Nat)=fin a) {n:Nat} (hn:N<n) {a:List α} (ha:a.length=N):L n a 0=fin (a.mapIdx f):=by
 have key:=Co N L (λk=>a.mapIdx λi x=>if i<k then f i x else x) (r:=fin (a.mapIdx f)) (λn k hk=>?_) (λn=>?_) hn
 ·have e:(a.mapIdx λi x=>if i<0 then f i x else x)=a:=by
   apply List.ext_getElem<;>simp
  rw[e]at key;exact key
 ·rw[hs n _ k hk (by simpa using ha)]
  congr 1
  apply List.ext_getElem
  ·simp
  ·intro i h1 h2
   simp only[List.getElem_set,List.getElem_mapIdx]
   by_cases h:k=i
   ·subst h;simp
   ·rw[if_neg h]
    by_cases h3:i<k
    ·simp[h3,show i<k+1 by omega]
    ·simp[h3,show¬i<k+1 by omega]
 ·have e:(a.mapIdx λi x=>if i<N then f i x else x)=a.mapIdx f:=by
   apply List.ext_getElem
   ·simp
   ·intro i h1 h2
    simp at h1
    simp only[List.getElem_mapIdx];rw[if_pos (by omega)]
  rw[e];exact he n _ (by simpa using ha)
def g0 (l:List Int) (i:Nat):Int:=l.getD i 0
theorem EE {l:List Int} {i:Nat} (h:i<l.length):l[i]=g0 l i:=(Ab h).symm
def Eo (s t:List Int) (i j:Nat):Bool:=decide (g0 s i≠g0 s j∨g0 t i=g0 t j)
def agB (s t:List Int):Bool:=(List.range s.length).all λi=>(List.range i).all λj=>Eo s t i j
theorem Gn {s t:List Int} (hs:s.length<=1048576) (hl:t.length=s.length):ET s t=some (agB s t):=by
 unfold ET agB
 have key:=Hp s.length (λn (_:Unit) i=>CI n (s,t,s,(s.length:Int),i)) (λ_=>()) (λi=>(List.range i).all λj=>Eo s t i j) (r:=some (.inr false)) (e:=some (.inl ())) (λn k hk=>?_) (λn=>?_) (n:=Aa) (by unfold Aa;omega)
 ·rw[key]
  cases (List.range s.length).all (λi=>(List.range i).all λj=>Eo s t i j)<;>simp
 ·have inner:=Hp k (λn (_:Unit) i=>Ch n (s,t,(k:Int),s[k],s,(s.length:Int),(k:Int),s.take k,(((s.take k).length:Nat):Int),i)) (λ_=>()) (Eo s t k) (r:=some (.inr false)) (e:=some (.inl (s,t,s,(s.length:Int),(k:Int)))) (λn j hj=>?_) (λn=>?_) (n:=Aa) (by unfold Aa;omega)
  ·have e1:List.drop (Int.toNat 0) (List.take (Int.toNat (k:Int)) s)=s.take k:=by simp
   simp only[CI,Af,Ae hk,Ad (show k<4611686018427387904 by omega),e1,inner]
   cases hp:(List.range k).all (Eo s t k)with
   |true=>simp[hk,Nat.le_of_lt hk,G5 (show k<4611686018427387904 by omega)]
   |false=>simp[hk,Nat.le_of_lt hk]
  ·have h1:j<(s.take k).length:=by simp;omega
   have h2:k<t.length:=by omega
   have h3:j<t.length:=by omega
   have e2:(s.take k)[j]=s[j]:=by simp
   simp only[Ch,Af,Ae h1,Ae h2,Ae h3,Ad (show j<4611686018427387904 by omega),e2,Eo,EE hk,EE (show j<s.length by omega),EE h2,EE h3]
   by_cases h4:g0 s k=g0 s j
   ·by_cases h5:g0 t k=g0 t j<;>simp[h2,h3,h4,h5,show j<min k s.length by omega]
   ·simp[h4,show j<min k s.length by omega]
  ·have e3:(((s.take k).length:Nat):Int)=(k:Int):=by simp;omega
   simp only[Ch,e3];simp
 ·simp[CI]
section
variable {v n up:Int} {c:Con} {vals:List Int}
theorem DI {l:List Int} (h:l.length<=1099511627775):BT l=some l:=by
 unfold BT
 rw[if_pos (by unfold lim;simp;omega)];simp
end
end T
open Go Go.Va
namespace T
def Dz:Con:=([],0,[])
section
variable {a:Net} {steps:List Int}
end
end T
open Go Go.Va
namespace T
abbrev Dom:=List (List Bool)
def mk (bs:List Bool):List Int:=((List.range bs.length).filter λi=>bs.getD i false).map λi:Nat=>(i:Int)
def d2 (d:Dom) (v x:Nat):Bool:=(d.getD v []).getD x false
def CM (d:Dom) (v x:Nat):Dom:=d.set v ((d.getD v []).set x false)
structure DomOk (a:Net) (d:Dom):Prop where
 len:(d.length:Int)=a.1
 row: ∀r∈d,(r.length:Int)=a.2.1
theorem Ew {bs:List Bool} {x:Int}:x∈mk bs↔0<=x/\bs.getD x.toNat false=true:=by
 unfold mk
 rw[List.mem_map]
 constructor
 ·rintro ⟨i,hi,rfl⟩
  rw[List.mem_filter]at hi
  exact⟨by omega,by simpa using hi.2⟩
 ·rintro ⟨h0,h⟩
  refine⟨x.toNat,?_,by omega⟩
  rw[List.mem_filter,List.mem_range]
  refine⟨?_,h⟩
  rcases Nat.lt_or_ge x.toNat bs.length with h1|h1
  ·exact h1
  ·rw[List.getD_eq_getElem?_getD,List.getElem?_eq_none h1]at h;cases h
theorem DD {bs:List Bool}:(mk bs).length<=bs.length:=by
 unfold mk
 rw[List.length_map]
 have:=List.length_filter_le (λi=>bs.getD i false) (List.range bs.length)
 simpa using this
theorem Ao {α:Type} {l:List α} {i j:Nat} {y d:α}:(l.set i y).getD j d=if i=j/\j<l.length then y else l.getD j d:=by
 simp only[List.getD_eq_getElem?_getD,List.getElem?_set]
 by_cases h:i=j
 ·subst h
  by_cases h2:i<l.length
  ·simp[h2]
  ·simp[h2]
 ·simp[h]
theorem Jc {bs:List Bool} {x:Nat}:mk (bs.set x false)=(mk bs).filter λy=>y !=(x:Int):=by
 unfold mk
 rw[List.length_set,List.filter_map,List.filter_filter]
 congr 1
 apply List.filter_congr
 intro i hi
 have hi:=List.mem_range.1 hi
 rw[Ao]
 by_cases h:x=i
 ·subst h;simp[hi]
 ·rw[if_neg (by simp[h])]
  have:((i:Int) !=(x:Int))=true:=by simp;omega
  simp[Function.comp,this]
theorem JH {n:Nat}:mk (List.replicate n true)=(List.range n).map λi:Nat=>(i:Int):=by
 unfold mk
 rw[List.length_replicate]
 congr 1
 rw[List.filter_eq_self]
 intro i hi
 have:=List.mem_range.1 hi
 simp[List.getD_eq_getElem?_getD,List.getElem?_replicate,this]
theorem HB {d:Dom} {v x:Nat}:(CM d v x).map mk=(d.map mk).set v (mk ((d.getD v []).set x false)):=by
 unfold CM;rw[List.map_set]
theorem FP {a:Net} {d:Dom} {v x:Nat} (h:DomOk a d) (hv:v<d.length):DomOk a (CM d v x):=by
 refine⟨by unfold CM;rw[List.length_set];exact h.len,λr hr=>?_⟩
 unfold CM at hr
 rcases List.mem_or_eq_of_mem_set hr with hr|rfl
 ·exact h.row r hr
 ·rw[List.length_set,Ab hv];exact h.row _ (List.getElem_mem hv)
theorem Fb {d:Dom} {v x y:Nat} (hy:y≠x):d2 (CM d v x) v y=d2 d v y:=by
 unfold d2 CM
 rw[Ao]
 split
 ·rw[Ao,if_neg (by omega)]
 ·rfl
def mu (d:Dom):Nat:=(d.map λr=>r.countP id).sum
theorem Ij {α:Type} (f:α->Nat): ∀(l:List α) (i:Nat) (y:α) (hi:i<l.length),((l.set i y).map f).sum+f l[i]=(l.map f).sum+f y
 |x::l,0,y,_=>by simp;omega
 |x::l,i+1,y,hi=>by
  have:=Ij f l i y (by simpa using hi)
  simp only[List.set_cons_succ,List.map_cons,List.sum_cons,List.getElem_cons_succ];omega
theorem GP: ∀(r:List Bool) (x:Nat),r.getD x false=true->(r.set x false).countP id+1=r.countP id
 | [],x,h=>by simp at h
 |b::r,0,h=>by simp at h;subst h;simp
 |b::r,x+1,h=>by
  have:=GP r x (by simpa using h)
  rw[List.set_cons_succ,List.countP_cons,List.countP_cons];omega
theorem FM {d:Dom} {v x:Nat} (h:d2 d v x=true):mu (CM d v x)+1=mu d:=by
 unfold d2 at h
 rcases Nat.lt_or_ge v d.length with hv|hv
 ·have h1:=Ij (λr:List Bool=>r.countP id) d v ((d.getD v []).set x false) hv
  have h2:=GP _ _ h
  rw[Ab hv]at h1 h2
  unfold mu CM
  rw[Ab hv]
  omega
 ·rw[List.getD_eq_getElem?_getD (l:=d),List.getElem?_eq_none hv]at h;simp at h
theorem EO {d:Dom} {v x:Nat} (h:d2 d v x=true):v<d.length/\x<(d.getD v []).length:=by
 unfold d2 at h
 rcases Nat.lt_or_ge v d.length with hv|hv
 ·refine⟨hv,?_⟩
  rcases Nat.lt_or_ge x (d.getD v []).length with hx|hx
  ·exact hx
  ·rw[List.getD_eq_getElem?_getD,List.getElem?_eq_none hx]at h;cases h
 ·rw[List.getD_eq_getElem?_getD (l:=d),List.getElem?_eq_none hv]at h;simp at h
theorem GL {l:List Int} {x:Int} (h:l.length<=1048576):EA l x=some (decide (x∈l)):=by
 unfold EA
 rw[FT l (λn i=>C1 n (l,x,i)) (λy=>!decide (y=x)) (.inr true) (.inl ()) ?_ ?_ (by unfold Aa;omega)]
 ·by_cases hx:x∈l
  ·rw[if_neg]
   ·simp[hx]
   ·rw[List.all_eq_true];intro h;have:=h x hx;simp at this
  ·rw[if_pos]
   ·simp[hx]
   ·rw[List.all_eq_true];intro y hy;have:y≠x:=λe=>hx (e▸hy)
    simp[this]
 ·intro n k hk
  simp only[C1,Af,Ae hk,Ad (show k<4611686018427387904 by omega)]
  by_cases e:l[k]=x<;>simp[hk,e]
 ·intro n;simp[C1]
theorem D6 {l:List Int} {x:Int} (h:l.length<=1048576):C7 l x=some (l.filter λy=>y !=x):=by
 unfold C7
 have:=Co l.length (λn o i=>BB n (l,x,o,i)) (λk=>(l.take k).filter λy=>y !=x) (r:=some (l.filter λy=>y !=x)) (λn k hk=>?_) (λn=>?_) (n:=Aa) (by unfold Aa;omega)
 ·simp only[List.take_zero,List.filter_nil]at this
  rw[this];rfl
 ·have hlen:((l.take k).filter λy=>y !=x).length<=k:=Nat.le_trans (List.length_filter_le _ _) (by simp;omega)
  simp only[BB,Af,Ae hk,Ad (show k<4611686018427387904 by omega)]
  rw[List.take_succ_eq_append_getElem hk,List.filter_append]
  by_cases e:l[k]=x
  ·simp[hk,e]
  ·have:((l.take k).filter λy=>y !=x).length+1<=lim:=by unfold lim;omega
   simp[hk,e,this]
 ·simp[BB]
theorem FC {n:Nat} (h:n<=1048576):C9 n=some ((List.range n).map λi:Nat=>(i:Int)):=by
 unfold C9
 have:=Co n (λm o i=>BV m ((n:Int),o,i)) (λk=>(List.range k).map λi:Nat=>(i:Int)) (r:=some ((List.range n).map λi:Nat=>(i:Int))) (λm k hk=>?_) (λm=>?_) (n:=Aa) (by unfold Aa;omega)
 ·have e:((List.range 0).map λi:Nat=>(i:Int))= []:=rfl
  rw[e]at this;rw[this];rfl
 ·have e:((List.range k).map λi:Nat=>(i:Int))++ [(k:Int)]=(List.range (k+1)).map λi:Nat=>(i:Int):=by rw[List.range_succ];simp
  simp only[BV,Ad (show k<4611686018427387904 by omega),e]
  rw[if_pos (by simp;omega),if_pos (by unfold lim;simp;omega)]
 ·simp[BV]
def AC (a:Net):Dom:=List.replicate a.1.toNat (List.replicate a.2.1.toNat true)
theorem Cq {a:Net} (h:NetOk a):DomOk a (AC a):=by
 have h1:=h.hv
 have h2:=h.hn
 refine⟨by unfold AC;rw[List.length_replicate];omega,λr hr=>?_⟩
 unfold AC at hr
 rw[(List.mem_replicate.1 hr).2,List.length_replicate];omega
theorem C6 {a:Net} (h:NetOk a):CV a=some ((AC a).map mk):=by
 have h1:=h.hv
 have h2:=h.hn
 unfold CV
 have e1:a.2.1=((a.2.1.toNat:Nat):Int):=by omega
 have e0:a.1=((a.1.toNat:Nat):Int):=by omega
 have hid:C9 a.2.1=some (mk (List.replicate a.2.1.toNat true)):=by rw[JH,e1];exact FC (by omega)
 have:=Co a.1.toNat (λm o i=>CC m ((a.1,(a.2.1,a.2.2)),o,i)) (λk=>List.replicate k (mk (List.replicate a.2.1.toNat true))) (r:=some ((AC a).map mk)) (λm k hk=>?_) (λm=>?_) (n:=Aa) (by unfold Aa;omega)
 ·have e:List.replicate 0 (mk (List.replicate a.2.1.toNat true))= []:=rfl
  rw[e]at this;rw[this];rfl
 ·simp only[CC,Ad (show k<4611686018427387904 by omega),hid,Option.bind_some]
  rw[if_pos (by simp;omega),if_pos (by unfold lim;simp;omega),←List.replicate_succ']
 ·have e:(AC a).map mk=List.replicate a.1.toNat (mk (List.replicate a.2.1.toNat true)):=by unfold AC;rw[List.map_replicate]
  simp only[CC]
  rw[if_neg (by simp;omega),e]
theorem Bj {a:Net} (h:NetOk a):Bp a=some (AC a):=by
 have h1:=h.hv
 have h2:=h.hn
 unfold Bp
 rw[if_pos (by unfold lim;omega)]
 have hm: ∀(d:Dom) (k:Nat) (t10:Int) (hk:k<d.length),d[k].length=a.2.1.toNat->Bi Aa ((a.1,(a.2.1,a.2.2)),d,(k:Int),t10,(k:Int),((a.2.1.toNat:Nat):Int),0)=some ((a.1,(a.2.1,a.2.2)),d.set k (List.replicate a.2.1.toNat true),t10,(k:Int)):=by
  intro d k t10 hk hl
  have:=Co a.2.1.toNat (λm d i=>Bi m ((a.1,(a.2.1,a.2.2)),d,(k:Int),t10,(k:Int),((a.2.1.toNat:Nat):Int),i)) (λj=>d.set k (List.replicate j true++d[k].drop j)) (r:=some ((a.1,(a.2.1,a.2.2)),d.set k (List.replicate a.2.1.toNat true),t10,(k:Int))) (λm j hj=>?_) (λm=>?_) (n:=Aa) (by unfold Aa;omega)
  ·simpa using this
  ·have hx:j<(d[k]).length:=by omega
   have e:(List.replicate j true++d[k].drop j).set j true=List.replicate (j+1) true++d[k].drop (j+1):=by
    rw[List.set_append_right _ _ (by simp),List.length_replicate,Nat.sub_self,List.drop_eq_getElem_cons hx,List.set_cons_zero,List.replicate_succ',List.append_assoc];rfl
   simp only[Bi,Af,BS,Ae (show k<(d.set k (List.replicate j true++d[k].drop j)).length by simpa using hk),List.getElem_set_self,e,List.set_set,Ad (show j<4611686018427387904 by omega)]
   rw[if_pos (by simp;omega),if_pos (by simpa using hk),if_pos (by simp;omega)]
  ·simp only[Bi]
   rw[List.drop_of_length_le (by omega)];simp
 have:=J0 a.1.toNat (λm d i=>BE m ((a.1,(a.2.1,a.2.2)),d,((a.1.toNat:Nat):Int),i)) (λ_ _=>List.replicate a.2.1.toNat true) some (λm d k hk hl=>?_) (λm d hl=>?_) (n:=Aa) (by unfold Aa;omega) (a:=List.replicate a.1.toNat ([]:List Bool)) (by simp)
 ·have e2:(List.replicate a.1.toNat ([]:List Bool)).mapIdx (λ_ _=>List.replicate a.2.1.toNat true)=AC a:=by
   unfold AC;apply List.ext_getElem<;>simp
  rw[e2]at this
  simp only[List.length_replicate]
  rw[this];rfl
 ·have hkd:k<d.length:=by omega
  have hks:k<(d.set k (List.replicate (Int.toNat a.2.1) false)).length:=by simpa using hkd
  simp only[BE,Af,BS,Ae hks,List.getElem_set_self,List.length_replicate,Ad (show k<4611686018427387904 by omega),hm _ k _ hks (show((d.set k (List.replicate (Int.toNat a.2.1) false))[k]).length=a.2.1.toNat by simp),Option.bind_some,List.set_set]
  rw[if_pos (by simp;omega),if_pos (by unfold lim;omega),if_pos hkd,if_pos (by simpa using hkd)]
 ·simp[BE]
end T
open Go Go.Va
namespace T
def inD (d:Dom) (s t:List Int):Bool:=(List.range s.length).all λi=>d2 d (g0 s i).toNat (g0 t i).toNat
def CH (d:Dom) (c:Con) (p:Nat) (x:Int):Bool:=c.2.2.any λt=>decide (g0 t p=x)&&(agB c.1 t&&inD d c.1 t)
section
variable {a:Net} {c:Con} {d:Dom}
theorem Fq (h:ConOk a.1 a.2.1 c) (hd:DomOk a d) {i:Nat} (hi:i<c.1.length): ∃m:Nat,c.1[i]=(m:Int)/\g0 c.1 i=(m:Int)/\ ∃hm:m<d.length,((d[m]).length:Int)=a.2.1:=
 ⟨c.1[i].toNat,by have:=h.sv i hi;omega,by have:=h.sv i hi;rw[←EE hi];omega,by have:=h.sv i hi;have:=hd.len;omega,hd.row _ (List.getElem_mem _)⟩
theorem Jp (h:ConOk a.1 a.2.1 c) {t:List Int} (ht:t∈c.2.2) {i:Nat} (hi:i<c.1.length): ∃(x:Nat) (hit:i<t.length),t[i]=(x:Int)/\g0 t i=(x:Int)/\(x:Int)<a.2.1:=by
 have hl:=h.tl t ht
 have hit:i<t.length:=by omega
 have:=h.tv t ht i hit
 exact⟨t[i].toNat,hit,by omega,by rw[←EE hit];omega,by omega⟩
theorem Kg {r:List Bool} (hr:r.length<=1048576) {x:Nat}:EA (mk r) (x:Int)=some (r.getD x false):=by
 rw[GL (Nat.le_trans DD hr)]
 congr 1
 rw[Bool.eq_iff_iff,decide_eq_true_eq,Ew]
 simp
theorem JA (h:ConOk a.1 a.2.1 c) {t:List Int} (ht:t∈c.2.2) {i:Nat} (hi:i<c.1.length) (now:List (List Int)):
  BN Aa (t,now,(c.1,(c.2.1,c.2.2)),(i:Int),0)=if(List.range i).all (Eo c.1 t i)then some (.inl (t,now,(c.1,(c.2.1,c.2.2)),(i:Int)))else some (.inr false):=by
 have htl:=h.tl t ht
 have har:=h.ar
 have hsl:=h.sl
 refine Hp i (λn (_:Unit) k=>BN n (t,now,(c.1,(c.2.1,c.2.2)),(i:Int),k)) (λ_=>()) (Eo c.1 t i) (λn k hk=>?_) (λn=>?_) (n:=Aa) (by unfold Aa;omega)
 ·have h1:i<t.length:=by omega
  have h2:k<t.length:=by omega
  have h3:k<c.1.length:=by omega
  simp only[BN,Af,Ae h1,Ae h2,Ae h3,Ae hi,Ad (show k<4611686018427387904 by omega),Eo,←EE h1,←EE h2,←EE h3,←EE hi]
  by_cases h4:c.1[i]=c.1[k]
  ·by_cases h5:t[i]=t[k]
   ·simp[hk,hi,h1,h2,h3,h4,h5]
   ·simp[hk,hi,h1,h2,h3,h4,h5,Ne.symm h5,Ju,eq_comm]
  ·simp[hk,hi,h1,h2,h3,h4,Ne.symm h4,HZ,eq_comm]
 ·simp[BN]
theorem Gd (h:ConOk a.1 a.2.1 c) (hn:a.2.1<=4) (hd:DomOk a d) {t:List Int} (ht:t∈c.2.2):EB c t (d.map mk)=some (agB c.1 t&&inD d c.1 t):=by
 have htl:=h.tl t ht
 have har:=h.ar
 have hsl:=h.sl
 unfold EB
 have key:=Hp c.1.length (λn (_:Unit) i=>CB n (t,d.map mk,(c.1,(c.2.1,c.2.2)),i)) (λ_=>()) (λi=>d2 d (g0 c.1 i).toNat (g0 t i).toNat&&(List.range i).all (Eo c.1 t i)) (r:=some (.inr false)) (e:=some (.inl ())) (λn k hk=>?_) (λn=>?_) (n:=Aa) (by unfold Aa;omega)
 ·rw[key]
  have:((List.range c.1.length).all λi=>d2 d (g0 c.1 i).toNat (g0 t i).toNat&&(List.range i).all (Eo c.1 t i))=(agB c.1 t&&inD d c.1 t):=by
   unfold agB inD
   rw[Bool.eq_iff_iff,Bool.and_eq_true,List.all_eq_true,List.all_eq_true,List.all_eq_true]
   constructor
   ·intro h;exact⟨λi hi=>(Bool.and_eq_true _ _▸h i hi).2,λi hi=>(Bool.and_eq_true _ _▸h i hi).1⟩
   ·rintro ⟨h1,h2⟩ i hi;rw[Bool.and_eq_true];exact⟨h2 i hi,h1 i hi⟩
  rw[this]
  cases (agB c.1 t&&inD d c.1 t)<;>simp
 ·obtain⟨m,hm,hmg,hml,hrow⟩:=Fq h hd hk
  obtain⟨x,hkt,hx,hxg,hxn⟩:=Jp h ht hk
  have hml':m<(d.map mk).length:=by simpa using hml
  simp only[CB,Af,Ae hkt,Ae hk,hm,Ae hml',List.getElem_map,hx,Kg (show d[m].length<=1048576 by omega),hmg,hxg,Int.toNat_natCast,JA h ht hk,Option.bind_some,Ad (show k<4611686018427387904 by omega)]
  have e:d2 d m x=d[m].getD x false:=by unfold d2;rw[Ab hml]
  rw[e]
  cases d[m].getD x false with
  |false=>simp[hkt,hk,hml]
  |true=>cases (List.range k).all (Eo c.1 t k)<;>simp[hkt,hk,hml,G5 (show k<4611686018427387904 by omega)]
 ·rw[←htl];simp[CB]
theorem FB (h:ConOk a.1 a.2.1 c) (hn:a.2.1<=4) (hd:DomOk a d) {p:Nat} (hp:p<c.1.length) (x:Int):DT c (p:Int) x (d.map mk)=some (CH d c p x):=by
 have hmany:=h.many
 unfold DT
 have key:=FT c.2.2 (λn i=>BA n ((p:Int),x,d.map mk,(c.1,(c.2.1,c.2.2)),i)) (λt=>!(decide (g0 t p=x)&&(agB c.1 t&&inD d c.1 t))) (.inr true) (.inl ()) ?_ ?_ (n:=Aa) (by unfold Aa;omega)
 ·rw[key]
  have:(c.2.2.all λt=>!(decide (g0 t p=x)&&(agB c.1 t&&inD d c.1 t)))=!CH d c p x:=by
   unfold CH;rw[←List.not_any_eq_all_not]
  rw[this]
  cases CH d c p x<;>simp
 ·intro n k hk
  have ht:=List.getElem_mem hk
  have hpt:p<(c.2.2[k]).length:=by have:=h.tl _ ht;omega
  simp only[BA,Af,Ae hk,Ae hpt,Gd h hn hd ht,Option.bind_some,Ad (show k<4611686018427387904 by omega),←EE hpt]
  by_cases e:(c.2.2[k])[p]=x
  ·cases (agB c.1 c.2.2[k]&&inD d c.1 c.2.2[k])<;>simp[hk,hpt,e]
  ·simp[hk,hpt,e]
 ·intro n;simp[BA]
theorem HG (h:ConOk a.1 a.2.1 c) (hd:DomOk a d) {t:List Int} (ht:t∈c.2.2) (p x:Int) (b:Bool) (t16:List (List Int)) (t17 t18:Int):
  Ay Aa (d,p,x,(c.1,(c.2.1,c.2.2)),b,t16,t17,t18,t,(t.length:Int),0)=some (d,p,x,(c.1,(c.2.1,c.2.2)),b&&inD d c.1 t,t16,t17,t18):=by
 have htl:=h.tl t ht
 have har:=h.ar
 have hsl:=h.sl
 refine KO c.1.length (λn b i=>Ay n (d,p,x,(c.1,(c.2.1,c.2.2)),b,t16,t17,t18,t,(t.length:Int),i)) (λi=>d2 d (g0 c.1 i).toNat (g0 t i).toNat) (λb=>some (d,p,x,(c.1,(c.2.1,c.2.2)),b,t16,t17,t18)) (λn b k hk=>?_) (λn b=>?_) (n:=Aa) (by unfold Aa;omega) b
 ·obtain⟨m,hm,hmg,hml,hrow⟩:=Fq h hd hk
  obtain⟨y,hkt,hx,hxg,hxn⟩:=Jp h ht hk
  have hy:y<d[m].length:=by omega
  simp only[Ay,Af,Ae hkt,Ae hk,hm,Ae hml,hx,Ae hy,hmg,hxg,Int.toNat_natCast,Ad (show k<4611686018427387904 by omega)]
  have e:d2 d m y=d[m][y]:=by unfold d2;rw[Ab hml,Ab hy]
  rw[e]
  cases b<;>simp[hkt,hk,hml,hy]
 ·rw[←htl];simp[Ay]
theorem El (h:ConOk a.1 a.2.1 c) (hd:DomOk a d) {p:Nat} (hp:p<c.1.length) (x:Int):BY d c (p:Int) x=some (CH d c p x):=by
 have hmany:=h.many
 have har:=h.ar
 have hsl:=h.sl
 unfold BY
 have key:=FT c.2.2 (λn i=>Ax n (d,(p:Int),x,(c.1,(c.2.1,c.2.2)),c.2.2,(c.2.2.length:Int),i)) (λt=>!(decide (g0 t p=x)&&(agB c.1 t&&inD d c.1 t))) (.inr true) (.inl ()) ?_ ?_ (n:=Aa) (by unfold Aa;omega)
 ·rw[key]
  have:(c.2.2.all λt=>!(decide (g0 t p=x)&&(agB c.1 t&&inD d c.1 t)))=!CH d c p x:=by
   unfold CH;rw[←List.not_any_eq_all_not]
  rw[this]
  cases CH d c p x<;>simp
 ·intro n k hk
  have ht:=List.getElem_mem hk
  have htl:=h.tl _ ht
  have hpt:p<(c.2.2[k]).length:=by omega
  simp only[Ax,Af,Ae hk,Ae hpt,Gn (s:=c.1) (t:=c.2.2[k]) (by omega) htl,HG h hd ht,Option.bind_some,Ad (show k<4611686018427387904 by omega),←EE hpt]
  by_cases e:(c.2.2[k])[p]=x
  ·cases agB c.1 c.2.2[k]with
   |false=>simp[hk,hpt,e]
   |true=>cases inD d c.1 c.2.2[k]<;>simp[hk,hpt,e]
  ·simp[hk,hpt,e]
 ·intro n;simp[Ax]
end
end T
open Go Go.Va
namespace T
abbrev ASt:=Dom×List (Int×Int×Int)
def EJ (c:Con) (i p:Nat) (st:ASt) (x:Nat):ASt:=(CM st.1 (g0 c.1 p).toNat x,st.2++ [((i:Int),((p:Int),(x:Int)))])
def B1 (c:Con) (i p:Nat) (st:ASt) (x:Nat):ASt:=if d2 st.1 (g0 c.1 p).toNat x&&!CH st.1 c p x then EJ c i p st x else st
def BL (n:Nat) (c:Con) (i:Nat) (st:ASt) (p:Nat):ASt:=(List.range n).foldl (B1 c i p) st
def Dm (a:Net) (st:ASt) (i:Nat):ASt:=(List.range (a.2.2.getD i Dz).1.length).foldl (BL a.2.1.toNat (a.2.2.getD i Dz) i) st
def B0 (a:Net) (st:ASt):ASt:=(List.range a.2.2.length).foldl (Dm a) st
def EM (a:Net):Nat->ASt->ASt
 |0,st=>st
 |k+1,st=>if st.2.length<(B0 a st).2.length then EM a k (B0 a st)else B0 a st
structure AInv (a:Net) (K:Nat) (st:ASt):Prop where
 ok:DomOk a st.1
 sum:st.2.length+mu st.1=K
theorem BO {α β:Type} {P:α->Prop} {f:α->β->α}: ∀(l:List β),(∀s,∀x∈l,P s->P (f s x))-> ∀s,P s->P (l.foldl f s)
 | [],_,_,h=>h
 |x::l,hf,s,h=>BO l (λs y hy=>hf s y (List.mem_cons_of_mem _ hy)) _ (hf s x (by simp) h)
theorem FZ {a:Net} {K:Nat} {c:Con} {i p x:Nat} {st:ASt} (h:AInv a K st):AInv a K (B1 c i p st x)/\st.2.length<=(B1 c i p st x).2.length:=by
 unfold B1
 cases hb:d2 st.1 (g0 c.1 p).toNat x&&!CH st.1 c p x with
 |false=>exact⟨by simpa using h,by simp⟩
 |true=>
  rw[Bool.and_eq_true]at hb
  have h1:=FM hb.1
  have h2:=EO hb.1
  simp only[if_true,EJ]
  exact⟨⟨FP h.ok h2.1,by have:=h.sum;simp;omega⟩,by simp⟩
theorem Ej {a:Net} {K:Nat} {c:Con} {i p:Nat} (l:List Nat) {st:ASt} (h:AInv a K st):AInv a K (l.foldl (B1 c i p) st)/\st.2.length<=(l.foldl (B1 c i p) st).2.length:=
 BO (P:=λs=>AInv a K s/\st.2.length<=s.2.length) l (λs x _ hs=>⟨(FZ hs.1).1,Nat.le_trans hs.2 (FZ hs.1).2⟩) st ⟨h,Nat.le_refl _⟩
theorem DZ {a:Net} {K:Nat} {c:Con} {i n:Nat} (l:List Nat) {st:ASt} (h:AInv a K st):AInv a K (l.foldl (BL n c i) st)/\st.2.length<=(l.foldl (BL n c i) st).2.length:=
 BO (P:=λs=>AInv a K s/\st.2.length<=s.2.length) l (λs x _ hs=>⟨(Ej _ hs.1).1,Nat.le_trans hs.2 (Ej _ hs.1).2⟩) st ⟨h,Nat.le_refl _⟩
theorem DA {a:Net} {K:Nat} (l:List Nat) {st:ASt} (h:AInv a K st):AInv a K (l.foldl (Dm a) st)/\st.2.length<=(l.foldl (Dm a) st).2.length:=
 BO (P:=λs=>AInv a K s/\st.2.length<=s.2.length) l (λs x _ hs=>⟨(DZ _ hs.1).1,Nat.le_trans hs.2 (DZ _ hs.1).2⟩) st ⟨h,Nat.le_refl _⟩
theorem FF {a:Net} {K:Nat}: ∀(k:Nat) {st:ASt},AInv a K st->AInv a K (EM a k st)
 |0,_,h=>h
 |k+1,st,h=>by
  simp only[EM]
  split
  ·exact FF k (DA _ h).1
  ·exact(DA _ h).1
theorem Ir {c:Con} {i p:Nat} {st:ASt} {n:Nat} (hn:(st.1.getD (g0 c.1 p).toNat []).length=n):
  (mk (st.1.getD (g0 c.1 p).toNat [])).foldl (λs x=>if !CH s.1 c p x then EJ c i p s x.toNat else s) st=(List.range n).foldl (B1 c i p) st:=by
 have key: ∀(r0:List Bool) (l:List Nat) (s:ASt),l.Nodup->(∀y∈l,d2 s.1 (g0 c.1 p).toNat y=r0.getD y false)->
   l.foldl (λs y=>if r0.getD y false=true then(if !CH s.1 c p (y:Int)then EJ c i p s ((y:Int).toNat)else s)else s) s=l.foldl (B1 c i p) s:=by
  intro r0 l
  induction l with
  |nil=>intro s _ _;rfl
  |cons y l ih=>
   intro s hnd hr
   rw[List.foldl_cons,List.foldl_cons]
   rw[List.nodup_cons]at hnd
   have e:(if r0.getD y false=true then(if !CH s.1 c p (y:Int)then EJ c i p s ((y:Int).toNat)else s)else s)=B1 c i p s y:=by
    unfold B1
    rw[hr y (by simp)]
    cases r0.getD y false<;>cases CH s.1 c p (y:Int)<;>simp
   rw[e]
   refine ih _ hnd.2 λz hz=>?_
   rw[←hr z (List.mem_cons_of_mem _ hz)]
   have hzy:z≠y:=λe=>hnd.1 (e▸hz)
   unfold B1
   split
   ·exact Fb hzy
   ·rfl
 rw[←hn]
 have h:=key (st.1.getD (g0 c.1 p).toNat []) (List.range (st.1.getD (g0 c.1 p).toNat []).length) st List.nodup_range (λy _=>rfl)
 rw[←h]
 unfold mk
 rw[List.foldl_map,List.foldl_filter]
section
variable {a:Net} {K:Nat} {c:Con}
theorem Jt (hN:NetOk a) (h:ConOk a.1 a.2.1 c) (i:Nat) {p:Nat} (hp:p<c.1.length) (hK:K<=1000) {st:ASt} (hi:AInv a K st) (t8:Int):
  BM Aa ((a.1,(a.2.1,a.2.2)),st.2,st.1.map mk,t8,(i:Int),(c.1,(c.2.1,c.2.2)),(p:Int),mk (st.1.getD (g0 c.1 p).toNat []),0)=
   some ((a.1,(a.2.1,a.2.2)),(BL a.2.1.toNat c i st p).2,(BL a.2.1.toNat c i st p).1.map mk,t8,(i:Int),(c.1,(c.2.1,c.2.2)),(p:Int)):=by
 have hn:=hN.hn
 obtain⟨m,hm,hmg,hml,hrow⟩:=Fq h hi.ok hp
 have hrl:(st.1.getD m []).length=a.2.1.toNat:=by rw[Ab hml];omega
 have hvl:(mk (st.1.getD m [])).length<=4:=Nat.le_trans DD (by omega)
 have hfv:=Ir (c:=c) (i:=i) (p:=p) (st:=st) (n:=a.2.1.toNat) (by rw[hmg];exact hrl)
 unfold BL
 rw[←hfv,hmg,Int.toNat_natCast]
 generalize hvals:mk (st.1.getD m [])=vals at hvl⊢
 have hnn: ∀y∈vals,0<=y/\y.toNat<a.2.1.toNat:=λy hy=>by
  rw[←hvals,Ew]at hy
  refine⟨hy.1,?_⟩
  rcases Nat.lt_or_ge y.toNat (st.1.getD m []).length with h1|h1
  ·omega
  ·have:=hy.2;rw[List.getD_eq_getElem?_getD,List.getElem?_eq_none h1]at this;cases this
 have hst: ∀k,k<=vals.length->(DomOk a ((vals.take k).foldl (λs x=>if !CH s.1 c p x then EJ c i p s x.toNat else s) st).1)/\((vals.take k).foldl (λs x=>if !CH s.1 c p x then EJ c i p s x.toNat else s) st).2.length<=st.2.length+k:=by
  intro k
  induction k with
  |zero=>intro _;exact⟨by simpa using hi.ok,by simp⟩
  |succ k ih=>
   intro hk
   obtain⟨h1,h2⟩:=ih (by omega)
   rw[List.take_succ_eq_append_getElem hk,List.foldl_append,List.foldl_cons,List.foldl_nil]
   split
   ·refine⟨FP h1 ?_,?_⟩
    ·have:=h1.len;have:=hi.ok.len;rw[hmg,Int.toNat_natCast];omega
    ·unfold EJ at h2⊢
     rw[List.length_append,List.length_singleton];omega
   ·exact⟨h1,Nat.le_succ_of_le h2⟩
 have:=Co vals.length (λn (s:ASt) k=>BM n ((a.1,(a.2.1,a.2.2)),s.2,s.1.map mk,t8,(i:Int),(c.1,(c.2.1,c.2.2)),(p:Int),vals,k)) (λk=>(vals.take k).foldl (λs x=>if !CH s.1 c p x then EJ c i p s x.toNat else s) st)
  (r:=some ((a.1,(a.2.1,a.2.2)),(vals.foldl (λs x=>if !CH s.1 c p x then EJ c i p s x.toNat else s) st).2,(vals.foldl (λs x=>if !CH s.1 c p x then EJ c i p s x.toNat else s) st).1.map mk,t8,(i:Int),(c.1,(c.2.1,c.2.2)),(p:Int))) (λn k hk=>?_) (λn=>?_) (n:=Aa) (by unfold Aa;omega)
 ·exact this
 ·obtain⟨hok,hlen⟩:=hst k (by omega)
  have hsum:=hi.sum
  rw[List.take_succ_eq_append_getElem hk,List.foldl_append,List.foldl_cons,List.foldl_nil]
  generalize (vals.take k).foldl (λs x=>if !CH s.1 c p x then EJ c i p s x.toNat else s) st=s at hok hlen⊢
  obtain⟨sd,str⟩:=s
  dsimp only at hok hlen⊢
  have hmd:m<sd.length:=by have:=hok.len;have:=hi.ok.len;omega
  have hmd':m<(sd.map mk).length:=by simpa using hmd
  have hrow2:=hok.row _ (List.getElem_mem hmd)
  have hx:=hnn _ (List.getElem_mem hk)
  have ex:vals[k]=((vals[k].toNat:Nat):Int):=by omega
  have hw:=D6 (l:=mk sd[m]) (x:=vals[k]) (Nat.le_trans DD (by omega))
  have hmk:(mk sd[m]).filter (λy=>y !=vals[k])=mk ((sd.getD m []).set vals[k].toNat false):=by rw[Jc,Ab hmd,←ex]
  have hl1:str.length+1<=lim:=by unfold lim;omega
  simp only[BM,Af,Ae hk,FB h hn.2 hok hp,Option.bind_some,Ae hp,hm,Ae hmd',List.getElem_map,hw,hmk,BS,Ad (show k<4611686018427387904 by omega)]
  cases CH sd c p vals[k]with
  |true=>simp[hk]
  |false=>
   simp only[Bool.not_false,if_true,EJ,hmg,Int.toNat_natCast,HB,←ex]
   simp[hk,hp,hmd,hl1]
 ·rw[List.take_length];simp[BM]
theorem HT (hN:NetOk a) (h:ConOk a.1 a.2.1 c) (i:Nat) {p:Nat} (hp:p<c.1.length) (hK:K<=1000) {st:ASt} (hi:AInv a K st) (ch:Bool) (t15:List Con) (t16 t17:Int) (t23:List Int) (t24 t25:Int):
  Au Aa (st.1,(a.1,(a.2.1,a.2.2)),st.2,ch,(i:Int),(c.1,(c.2.1,c.2.2)),(p:Int),g0 c.1 p,t15,t16,t17,t23,t24,t25,((gd st.1 (g0 c.1 p) []).length:Int),0)=
   some ((BL a.2.1.toNat c i st p).1,(a.1,(a.2.1,a.2.2)),(BL a.2.1.toNat c i st p).2,ch||decide (st.2.length<(BL a.2.1.toNat c i st p).2.length),(i:Int),(c.1,(c.2.1,c.2.2)),t15,t16,t17,t23,t24,t25):=by
 have hn:=hN.hn
 obtain⟨m,hm,hmg,hml,hrow⟩:=Fq h hi.ok hp
 rw[hmg,Ae hml]
 have e0:((st.1[m]).length:Int)=((a.2.1.toNat:Nat):Int):=by omega
 rw[e0]
 unfold BL
 generalize a.2.1.toNat=N at e0⊢
 have:=Co N (λn (s:ASt×Bool) k=>Au n (s.1.1,(a.1,(a.2.1,a.2.2)),s.1.2,s.2,(i:Int),(c.1,(c.2.1,c.2.2)),(p:Int),(m:Int),t15,t16,t17,t23,t24,t25,((N:Nat):Int),k))
  (λk=>((List.range k).foldl (B1 c i p) st,ch||decide (st.2.length<((List.range k).foldl (B1 c i p) st).2.length)))
  (r:=some (((List.range N).foldl (B1 c i p) st).1,(a.1,(a.2.1,a.2.2)),((List.range N).foldl (B1 c i p) st).2,ch||decide (st.2.length<((List.range N).foldl (B1 c i p) st).2.length),(i:Int),(c.1,(c.2.1,c.2.2)),t15,t16,t17,t23,t24,t25)) (λn k hk=>?_) (λn=>?_) (n:=Aa) (by unfold Aa;omega)
 ·simpa using this
 ·obtain⟨hin,hle⟩:=Ej (c:=c) (i:=i) (p:=p) (List.range k) hi
  rw[List.range_succ,List.foldl_append,List.foldl_cons,List.foldl_nil]
  generalize (List.range k).foldl (B1 c i p) st=s at hin hle⊢
  obtain⟨sd,str⟩:=s
  have hok:=hin.ok
  have hsum:=hin.sum
  dsimp only at hok hsum hle⊢
  have hmd:m<sd.length:=by have:=hok.len;have:=hi.ok.len;omega
  have hrow2:=hok.row _ (List.getElem_mem hmd)
  have hk2:k<sd[m].length:=by omega
  have hl1:str.length+1<=lim:=by unfold lim;omega
  have ed:d2 sd m k=sd[m][k]:=by unfold d2;rw[Ab hmd,Ab hk2]
  simp only[Au,Af,Ae hmd,Ae hk2,El h hok hp,Option.bind_some,BS,Ad (show k<4611686018427387904 by omega),B1,hmg,Int.toNat_natCast,ed]
  cases sd[m][k]with
  |false=>simp[hk,hmd,hk2]
  |true=>
   cases CH sd c p (k:Int)with
   |true=>simp[hk,hmd,hk2]
   |false=>
    have e2:st.2.length<str.length+1:=by omega
    simp[hk,hmd,hk2,hl1,EJ,hmg,CM,Ab hmd,e2,List.getD_eq_getElem?_getD]
 ·simp[Au]
end
end T
open Go Go.Va
namespace T
section
variable {a:Net} {K:Nat}
theorem IR (hN:NetOk a) {i:Nat} (hi:i<a.2.2.length):ConOk a.1 a.2.1 (a.2.2.getD i Dz):=by
 rw[Ab hi];exact hN.con _ (List.getElem_mem hi)
theorem Js (hN:NetOk a) {c:Con} (h:ConOk a.1 a.2.1 c) (i:Nat) (hK:K<=1000) {st:ASt} (hi:AInv a K st) (t8:Int):
  Ca Aa ((a.1,(a.2.1,a.2.2)),st.2,st.1.map mk,t8,(i:Int),(c.1,(c.2.1,c.2.2)),0)=
   some ((a.1,(a.2.1,a.2.2)),((List.range c.1.length).foldl (BL a.2.1.toNat c i) st).2,((List.range c.1.length).foldl (BL a.2.1.toNat c i) st).1.map mk,t8,(i:Int)):=by
 have har:=h.ar
 have hsl:=h.sl
 have:=Co c.1.length (λn (s:ASt) k=>Ca n ((a.1,(a.2.1,a.2.2)),s.2,s.1.map mk,t8,(i:Int),(c.1,(c.2.1,c.2.2)),k)) (λk=>(List.range k).foldl (BL a.2.1.toNat c i) st)
  (r:=some ((a.1,(a.2.1,a.2.2)),((List.range c.1.length).foldl (BL a.2.1.toNat c i) st).2,((List.range c.1.length).foldl (BL a.2.1.toNat c i) st).1.map mk,t8,(i:Int))) (λn k hk=>?_) (λn=>?_) (n:=Aa) (by unfold Aa;omega)
 ·exact this
 ·have hin:=(DZ (c:=c) (i:=i) (n:=a.2.1.toNat) (List.range k) hi).1
  rw[List.range_succ,List.foldl_append,List.foldl_cons,List.foldl_nil]
  generalize (List.range k).foldl (BL a.2.1.toNat c i) st=s at hin⊢
  obtain⟨m,hm,hmg,hml,hrow⟩:=Fq h hin.ok hk
  have hml':m<(s.1.map mk).length:=by simpa using hml
  have key:=Jt hN h i hk hK hin t8
  rw[hmg,Int.toNat_natCast,Ab hml]at key
  simp only[Ca,Af,Ae hk,hm,Ae hml',List.getElem_map,key,Option.bind_some,Ad (show k<4611686018427387904 by omega)]
  simp[hk,hml]
 ·simp[Ca]
theorem J9 (hN:NetOk a) (hK:K<=1000) {st:ASt} (hi:AInv a K st) (t8:Int):
  Cl Aa ((a.1,(a.2.1,a.2.2)),st.2,st.1.map mk,t8,0)=some ((a.1,(a.2.1,a.2.2)),(B0 a st).2,(B0 a st).1.map mk,t8):=by
 have hc:=hN.hc
 have:=Co a.2.2.length (λn (s:ASt) k=>Cl n ((a.1,(a.2.1,a.2.2)),s.2,s.1.map mk,t8,k)) (λk=>(List.range k).foldl (Dm a) st)
  (r:=some ((a.1,(a.2.1,a.2.2)),(B0 a st).2,(B0 a st).1.map mk,t8)) (λn k hk=>?_) (λn=>?_) (n:=Aa) (by unfold Aa;omega)
 ·exact this
 ·have hin:=(DA (List.range k) hi).1
  rw[List.range_succ,List.foldl_append,List.foldl_cons,List.foldl_nil]
  generalize (List.range k).foldl (Dm a) st=s at hin⊢
  have key:=Js hN (IR hN hk) k hK hin t8
  rw[Ab hk]at key
  simp only[Cl,Af,Ae hk,key,Option.bind_some,Ad (show k<4611686018427387904 by omega),Dm,Ab hk]
  simp[hk]
 ·simp[Cl,B0]
theorem J8 (hN:NetOk a) (hK:K<=1000): ∀(k:Nat) (st:ASt),AInv a K st->mu st.1<k-> ∀(n:Nat),k<=n-> ∀t8:Int,t8<st.2.length->
  Dt n ((a.1,(a.2.1,a.2.2)),st.2,st.1.map mk,t8)=some (.inr ((EM a k st).1.map mk,(EM a k st).2)):=by
 intro k
 induction k with
 |zero=>intro st _ h;omega
 |succ k ih=>
  intro st hi hmu n hn t8 ht
  obtain⟨n,rfl⟩: ∃m,n=m+1:=⟨n-1,by omega⟩
  obtain⟨hin,hle⟩:=DA (List.range a.2.2.length) hi
  rw[show(List.range a.2.2.length).foldl (Dm a) st=B0 a st from rfl]at hin hle
  simp only[Dt,J9 hN hK hi,Option.bind_some]
  rw[if_pos (by simpa using ht)]
  simp only[EM]
  by_cases h:st.2.length<(B0 a st).2.length
  ·rw[if_pos h,if_neg (by simp;omega)]
   exact ih (B0 a st) hin (by have:=hi.sum;have:=hin.sum;omega) n (by omega) _ (by simpa using h)
  ·rw[if_neg h,if_pos (by simp;omega)]
theorem IC (hN:NetOk a) {c:Con} (h:ConOk a.1 a.2.1 c) (i:Nat) (hK:K<=1000) {st:ASt} (hi:AInv a K st) (ch:Bool) (t15:List Con) (t16 t17:Int):
  AW Aa (st.1,(a.1,(a.2.1,a.2.2)),st.2,ch,(i:Int),(c.1,(c.2.1,c.2.2)),t15,t16,t17,c.1,(c.1.length:Int),0)=
   some (((List.range c.1.length).foldl (BL a.2.1.toNat c i) st).1,(a.1,(a.2.1,a.2.2)),((List.range c.1.length).foldl (BL a.2.1.toNat c i) st).2,ch||decide (st.2.length<((List.range c.1.length).foldl (BL a.2.1.toNat c i) st).2.length),t15,t16,t17):=by
 have har:=h.ar
 have hsl:=h.sl
 have:=Co c.1.length (λn (s:ASt×Bool) k=>AW n (s.1.1,(a.1,(a.2.1,a.2.2)),s.1.2,s.2,(i:Int),(c.1,(c.2.1,c.2.2)),t15,t16,t17,c.1,(c.1.length:Int),k)) (λk=>((List.range k).foldl (BL a.2.1.toNat c i) st,ch||decide (st.2.length<((List.range k).foldl (BL a.2.1.toNat c i) st).2.length)))
  (r:=some (((List.range c.1.length).foldl (BL a.2.1.toNat c i) st).1,(a.1,(a.2.1,a.2.2)),((List.range c.1.length).foldl (BL a.2.1.toNat c i) st).2,ch||decide (st.2.length<((List.range c.1.length).foldl (BL a.2.1.toNat c i) st).2.length),t15,t16,t17)) (λn k hk=>?_) (λn=>?_) (n:=Aa) (by unfold Aa;omega)
 ·simpa using this
 ·obtain⟨hin,hle⟩:=DZ (c:=c) (i:=i) (n:=a.2.1.toNat) (List.range k) hi
  rw[List.range_succ,List.foldl_append,List.foldl_cons,List.foldl_nil]
  generalize (List.range k).foldl (BL a.2.1.toNat c i) st=s at hin hle⊢
  obtain⟨m,hm,hmg,hml,hrow⟩:=Fq h hin.ok hk
  have hle2:s.2.length<=(BL a.2.1.toNat c i s k).2.length:=(Ej _ hin).2
  have key:=λch=>HT hN h i hk hK hin ch t15 t16 t17 c.1 (c.1.length:Int) (k:Int)
  rw[hmg]at key
  simp only[AW,Af,Ae hk,hm,key,Option.bind_some,Ad (show k<4611686018427387904 by omega)]
  have e:(ch||decide (st.2.length<s.2.length)||decide (s.2.length<(BL a.2.1.toNat c i s k).2.length))=(ch||decide (st.2.length<(BL a.2.1.toNat c i s k).2.length)):=by
   rw[Bool.or_assoc];congr 1
   rw[Bool.eq_iff_iff];simp;omega
  rw[e]
  simp[hk,hml]
 ·simp[AW]
theorem IB (hN:NetOk a) (hK:K<=1000) {st:ASt} (hi:AInv a K st):
  AU Aa (st.1,(a.1,(a.2.1,a.2.2)),st.2,false,a.2.2,(a.2.2.length:Int),0)=some ((B0 a st).1,(a.1,(a.2.1,a.2.2)),(B0 a st).2,decide (st.2.length<(B0 a st).2.length)):=by
 have hc:=hN.hc
 have:=Co a.2.2.length (λn (s:ASt×Bool) k=>AU n (s.1.1,(a.1,(a.2.1,a.2.2)),s.1.2,s.2,a.2.2,(a.2.2.length:Int),k)) (λk=>((List.range k).foldl (Dm a) st,decide (st.2.length<((List.range k).foldl (Dm a) st).2.length)))
  (r:=some ((B0 a st).1,(a.1,(a.2.1,a.2.2)),(B0 a st).2,decide (st.2.length<(B0 a st).2.length))) (λn k hk=>?_) (λn=>?_) (n:=Aa) (by unfold Aa;omega)
 ·simpa using this
 ·obtain⟨hin,hle⟩:=DA (List.range k) hi
  rw[List.range_succ,List.foldl_append,List.foldl_cons,List.foldl_nil]
  generalize (List.range k).foldl (Dm a) st=s at hin hle⊢
  have hle2:s.2.length<=(Dm a s k).2.length:=(DZ _ hin).2
  have key:=IC hN (IR hN hk) k hK hin (decide (st.2.length<s.2.length)) a.2.2 (a.2.2.length:Int) (k:Int)
  rw[show(List.range (a.2.2.getD k Dz).1.length).foldl (BL a.2.1.toNat (a.2.2.getD k Dz) k) s=Dm a s k from rfl]at key
  have e:(decide (st.2.length<s.2.length)||decide (s.2.length<(Dm a s k).2.length))=decide (st.2.length<(Dm a s k).2.length):=by
   rw[Bool.eq_iff_iff];simp;omega
  rw[e,Ab hk]at key
  simp only[AU,Af,Ae hk,key,Option.bind_some,Ad (show k<4611686018427387904 by omega)]
  simp[hk]
 ·simp only[AU];rw[if_neg (by simp)];rfl
theorem IA (hN:NetOk a) (hK:K<=1000): ∀(k:Nat) (st:ASt),AInv a K st->mu st.1<k-> ∀(n:Nat),k+1<=n->
  Bn n (st.1,(a.1,(a.2.1,a.2.2)),st.2,true)=some (EM a k st):=by
 intro k
 induction k with
 |zero=>intro st _ h;omega
 |succ k ih=>
  intro st hi hmu n hn
  obtain⟨n,rfl⟩: ∃m,n=m+1:=⟨n-1,by omega⟩
  obtain⟨hin,hle⟩:=DA (List.range a.2.2.length) hi
  rw[show(List.range a.2.2.length).foldl (Dm a) st=B0 a st from rfl]at hin hle
  simp only[Bn,if_true,IB hN hK hi,Option.bind_some]
  simp only[EM]
  by_cases h:st.2.length<(B0 a st).2.length
  ·rw[if_pos h,decide_eq_true h]
   exact ih (B0 a st) hin (by have:=hi.sum;have:=hin.sum;omega) n (by omega)
  ·rw[if_neg h,decide_eq_false h]
   obtain⟨n,rfl⟩: ∃m,n=m+1:=⟨n-1,by omega⟩
   simp[Bn]
theorem FL {d:Dom} (hN:NetOk a) (h:DomOk a d):mu d<=36:=by
 have key: ∀(l:Dom),(∀r∈l,(r.length:Int)=a.2.1)->mu l<=l.length*4:=by
  intro l
  induction l with
  |nil=>intro _;simp[mu]
  |cons r l ih=>
   intro hr
   have h1:=ih λr' h'=>hr r' (List.mem_cons_of_mem _ h')
   have h2:=hr r (by simp)
   have h3:r.countP id<=r.length:=List.countP_le_length
   have h4:=hN.hn
   unfold mu at h1⊢
   rw[List.map_cons,List.sum_cons,List.length_cons];omega
 have h1:=key d h.row
 have h2:=h.len
 have h3:=hN.hv
 omega
def Bc (a:Net) (d:Dom):ASt:=EM a 40 (d,[])
theorem C2 (hN:NetOk a) {d:Dom} (h:DomOk a d):DomOk a (Bc a d).1/\(Bc a d).2.length<=36:=by
 have hi:AInv a (mu d) (d,[]):=⟨h,by simp⟩
 have h1:=FF 40 hi
 exact⟨h1.ok,by have:=h1.sum;have:=FL hN h;unfold Bc;omega⟩
theorem Du (hN:NetOk a) {d:Dom} (h:DomOk a d):Dl a (d.map mk)=some ((Bc a d).1.map mk,(Bc a d).2):=by
 have hi:AInv a (mu d) (d,[]):=⟨h,by simp⟩
 have hl:=h.len
 have hv:=hN.hv
 unfold Dl
 rw[if_pos (by unfold lim;simp;omega)]
 have:=J8 hN (by have:=FL hN h;omega) 40 (d,[]) hi (by have:=FL hN h;show mu d<40;omega) Aa (by unfold Aa;omega) (-1) (by simp)
 simp only[List.nil_append]
 dsimp only at this
 rw[this];rfl
theorem CK (hN:NetOk a) {d:Dom} (h:DomOk a d):BQ d a=some (Bc a d):=by
 have hi:AInv a (mu d) (d,[]):=⟨h,by simp⟩
 unfold BQ
 have:=IA hN (by have:=FL hN h;omega) 40 (d,[]) hi (by have:=FL hN h;show mu d<40;omega) Aa (by unfold Aa;omega)
 dsimp only at this
 rw[this];rfl
theorem D4 {r:List Bool} (h:r.length<=1048576):DK r=some (mk r):=by
 unfold DK
 have e: ∀k,k<r.length->mk (r.take (k+1))=mk (r.take k)++if r.getD k false then [(k:Int)]else []:=λk hk=>by
  unfold mk
  have h1:(r.take (k+1)).length=k+1:=by simp;omega
  have h2:(r.take k).length=k:=by simp;omega
  rw[h1,h2,List.range_succ,List.filter_append,List.map_append]
  have h3:(List.range k).filter (λi=>(r.take (k+1)).getD i false)=(List.range k).filter (λi=>(r.take k).getD i false):=by
   apply List.filter_congr
   intro i hi
   have:=List.mem_range.1 hi
   simp[List.getD_eq_getElem?_getD,List.getElem?_take,this,show i<k+1 by omega]
  rw[h3]
  have h4:(r.take (k+1)).getD k false=r.getD k false:=by simp[List.getD_eq_getElem?_getD,List.getElem?_take]
  simp only[List.filter_cons,List.filter_nil,h4]
  cases r.getD k false<;>simp
 have hlen: ∀k,(mk (r.take k)).length<=k:=λk=>Nat.le_trans DD (by simp;omega)
 have:=Co r.length (λn o i=>Ci n (o,r,(r.length:Int),i)) (λk=>mk (r.take k)) (r:=some (mk r)) (λn k hk=>?_) (λn=>?_) (n:=Aa) (by unfold Aa;omega)
 ·have e0:mk (r.take 0)= []:=by simp[mk]
  rw[e0]at this;rw[this];rfl
 ·have hl1:(mk (r.take k)).length+1<=lim:=by have:=hlen k;unfold lim;omega
  simp only[Ci,Af,Ae hk,Ad (show k<4611686018427387904 by omega),e k hk,Ab hk]
  cases r[k]<;>simp[hk,hl1]
 ·simp[Ci]
theorem Fk (hN:NetOk a) {d:Dom} (h:DomOk a d):Cr d=some (d.map mk):=by
 have hl:=h.len
 have hv:=hN.hv
 have hn:=hN.hn
 unfold Cr
 have:=Co d.length (λn o i=>Bv n (o,d,(d.length:Int),i)) (λk=>(d.take k).map mk) (r:=some (d.map mk)) (λn k hk=>?_) (λn=>?_) (n:=Aa) (by unfold Aa;omega)
 ·simp only[List.take_zero,List.map_nil]at this;rw[this];rfl
 ·have hr:=h.row _ (List.getElem_mem hk)
  have hl1:((d.take k).map mk).length+1<=lim:=by unfold lim;simp;omega
  simp only[Bv,Af,Ae hk,Ad (show k<4611686018427387904 by omega),D4 (show d[k].length<=1048576 by omega),Option.bind_some]
  rw[if_pos (by simp;omega),if_pos hk,if_pos (by simpa using hl1),List.take_succ_eq_append_getElem hk,List.map_append];rfl
 ·simp[Bv]
def Bd (d:Dom):Bool:=d.any λr=>decide ((mk r).length=0)
theorem Ek (hN:NetOk a) {d:Dom} (h:DomOk a d):BX d=some (Bd d):=by
 have hl:=h.len
 have hv:=hN.hv
 have hn:=hN.hn
 unfold BX
 rw[FT d (λn i=>Bb n (d,(d.length:Int),i)) (λr=>!decide ((mk r).length=0)) (.inr true) (.inl ()) ?_ ?_ (n:=Aa) (by unfold Aa;omega)]
 ·have:(d.all λr=>!decide ((mk r).length=0))=!Bd d:=by unfold Bd;rw[←List.not_any_eq_all_not]
  rw[this]
  cases Bd d<;>simp
 ·intro n k hk
  have hr:=h.row _ (List.getElem_mem hk)
  simp only[Bb,Af,Ae hk,Ad (show k<4611686018427387904 by omega),D4 (show d[k].length<=1048576 by omega),Option.bind_some]
  by_cases e:(mk d[k]).length=0
  ·simp[hk,List.length_eq_zero_iff.1 e]
  ·have:mk d[k]≠ []:=λh=>e (by rw[h];rfl)
   simp[hk,this]
 ·intro n;simp[Bb]
theorem FY (hN:NetOk a) {d:Dom} (h:DomOk a d):Eg (d.map mk)=some (Bd d):=by
 have hl:=h.len
 have hv:=hN.hv
 have hn:=hN.hn
 unfold Eg
 rw[FT (d.map mk) (λn i=>Cm n (d.map mk,i)) (λr=>!decide (r.length=0)) (.inr true) (.inl ()) ?_ ?_ (n:=Aa) (by unfold Aa;simp;omega)]
 ·have:((d.map mk).all λr=>!decide (r.length=0))=!Bd d:=by unfold Bd;rw[List.all_map,List.not_any_eq_all_not];rfl
  rw[this]
  cases Bd d<;>simp
 ·intro n k hk
  have hk':k<d.length:=by simpa using hk
  simp only[Cm,Af,Ae hk,Ad (show k<4611686018427387904 by omega)]
  by_cases e:(mk d[k]).length=0
  ·simp[hk',List.length_eq_zero_iff.1 e]
  ·have:mk d[k]≠ []:=λh=>e (by rw[h];rfl)
   simp[hk',this]
 ·intro n;simp[Cm]
theorem E4 {l:List (List Int)} (h:l.length<=1048576) (hr: ∀r∈l,r.length<=1048576):Ed l=some l:=by
 unfold Ed
 have:=Co l.length (λn o i=>CO n (l,o,i)) (λk=>l.take k) (r:=some l) (λn k hk=>?_) (λn=>?_) (n:=Aa) (by unfold Aa;omega)
 ·simp only[List.take_zero]at this;rw[this];rfl
 ·have:=hr _ (List.getElem_mem hk)
  have hl1:(l.take k).length+1<=lim:=by unfold lim;simp;omega
  simp only[CO,Af,Ae hk,Ad (show k<4611686018427387904 by omega),DI (show l[k].length<=1099511627775 by omega),Option.bind_some]
  rw[if_pos (by simp;omega),if_pos hk,if_pos (by simpa using hl1),List.take_succ_eq_append_getElem hk]
 ·simp[CO]
def Gf (a:Net):Bool×Bool:=if BH a then(Bd (Bc a (AC a)).1,true)else(false,false)
theorem Ft (h:FN a):DO a=some (Gf a):=by
 unfold DO Gf B3
 rw[Bl (a:=(a.1,(a.2.1,a.2.2))) h,show BH (a.1,(a.2.1,a.2.2))=BH a from rfl]
 cases hb:BH a with
 |false=>simp
 |true=>
  have hN:=CL hb
  have hf:=Cq hN
  simp only[Bj hN,CK hN hf,Ek hN (C2 hN hf).1,Option.bind_some,Bool.not_true,Bool.false_eq_true,if_false,if_true]
end
end T
open Go Go.Va
namespace T
abbrev Tr:=Int×Int×Int
end T
open Go Go.Va
namespace T
theorem w1:w64 1=1:=by rw[Hi];rfl
theorem w2:w64 2=2:=by rw[Hi];rfl
section
variable {a:Net}
def Dj (a:Net):List Tr×Bool:=if BH a then((Bc a (AC a)).2,true)else([],false)
theorem FU (h:FN a):DE a=some (Dj a):=by
 unfold DE Dj
 rw[Bl (a:=(a.1,(a.2.1,a.2.2))) h,show BH (a.1,(a.2.1,a.2.2))=BH a from rfl]
 cases hb:BH a with
 |false=>simp
 |true=>
  have hN:=CL hb
  have hf:=Cq hN
  simp only[Bj hN,CK hN hf,Option.bind_some,Bool.not_true,Bool.false_eq_true,if_false,if_true]
theorem FX (h:FN a):DG a=some (Dj a):=by
 unfold DG Dj
 rw[CA (a:=(a.1,(a.2.1,a.2.2))) h,show BH (a.1,(a.2.1,a.2.2))=BH a from rfl]
 cases hb:BH a with
 |false=>simp
 |true=>
  have hN:=CL hb
  have hf:=Cq hN
  simp only[C6 hN,Du hN hf,Option.bind_some,Bool.not_true,Bool.false_eq_true,if_false,if_true]
def CF (a:Net):List (List Int)×Bool:=if BH a then((Bc a (AC a)).1.map mk,true)else([],false)
theorem FJ (hN:NetOk a) {d:Dom} (h:DomOk a d):(d.map mk).length<=9/\ ∀r∈d.map mk,r.length<=4:=by
 have h1:=h.len
 have h2:=hN.hv
 have h3:=hN.hn
 refine⟨by simp;omega,λr hr=>?_⟩
 obtain⟨x,hx,rfl⟩:=List.mem_map.1 hr
 have:=h.row x hx
 exact Nat.le_trans DD (by omega)
theorem HJ:(CF a).1.length<=9/\ ∀r∈(CF a).1,r.length<=4:=by
 unfold CF
 split
 ·rename_i hb;have hN:=CL hb;exact FJ hN (C2 hN (Cq hN)).1
 ·simp
theorem Fs (h:FN a):C3 a=some (CF a):=by
 unfold C3 CF B3
 rw[Bl (a:=(a.1,(a.2.1,a.2.2))) h,show BH (a.1,(a.2.1,a.2.2))=BH a from rfl]
 cases hb:BH a with
 |false=>simp
 |true=>
  have hN:=CL hb
  have hf:=Cq hN
  simp only[Bj hN,CK hN hf,Fk hN (C2 hN hf).1,Option.bind_some,Bool.not_true,Bool.false_eq_true,if_false,if_true]
theorem Fy (h:FN a):C4 a=some (CF a):=by
 unfold C4 CF
 rw[CA (a:=(a.1,(a.2.1,a.2.2))) h,show BH (a.1,(a.2.1,a.2.2))=BH a from rfl]
 cases hb:BH a with
 |false=>simp
 |true=>
  have hN:=CL hb
  have hf:=Cq hN
  have hbd:=FJ hN (C2 hN hf).1
  simp only[C6 hN,Du hN hf,E4 (l:=(Bc a (AC a)).1.map mk) (by omega) (λr hr=>by have:=hbd.2 r hr;omega),Option.bind_some,Bool.not_true,Bool.false_eq_true,if_false,if_true]
end
end T
set_option linter.unusedVariables false
open Go Go.Va
namespace T
def BP:Nat->((List (List Bool))×Int×Int×Int×Int)->Option ((List (List Bool)))
 |0,_=>none
 |n+1,(d,v,value,t11,t12)=>
 if decide (t12<t11)then
 if inb v d then
 if inb t12 (gd d v [])then
 BP n (stt d v (stt (gd d v []) t12 (t12==value)),v,value,t11,w64 (t12+1))
 else none
 else none
 else
 some d
def DB (d:List (List Bool)) (v:Int) (value:Int):Option ((List (List Bool))):=
 if inb v d then
 (BP Aa (d,v,value,((gd d v []).length:Int),0)).bind λs1=>
 some s1
 else none
def Be:Nat->((Int×Int×(List ((List Int)×Int×(List (List Int)))))×(List (List Int))×Bool×Int×(List Int)×Int)->Option ((Int×Int×(List ((List Int)×Int×(List (List Int)))))×(List (List Int))×Bool×Int)
 |0,_=>none
 |n+1,(net,now,again,v,values,k)=>
 if decide (k<(values.length:Int))then
 if([]:List (List Int)).length+now.length<=lim then
 if inb k values then
 if inb v ([]++now)then
 (Dl (net.1,(net.2.1,net.2.2)) (stt ([]++now) v [gd values k 0])).bind λr2=>
 (Eg r2.1).bind λr3=>
 if r3 then
 if inb v now then
 if inb k values then
 (C7 (gd now v []) (gd values k 0)).bind λr4=>
 if inb v now then
 Be n ((net.1,(net.2.1,net.2.2)),stt now v r4,true,v,values,w64 (k+1))
 else none
 else none
 else none
 else
 Be n ((net.1,(net.2.1,net.2.2)),now,again,v,values,w64 (k+1))
 else none
 else none
 else none
 else
 some ((net.1,(net.2.1,net.2.2)),now,again,v)
def BK:Nat->((Int×Int×(List ((List Int)×Int×(List (List Int)))))×(List (List Int))×Bool×Int)->Option ((Int×Int×(List ((List Int)×Int×(List (List Int)))))×(List (List Int))×Bool)
 |0,_=>none
 |n+1,(net,now,again,v)=>
 if decide (v<net.1)then
 if inb v now then
 (Be Aa ((net.1,(net.2.1,net.2.2)),now,again,v,gd now v [],0)).bind λs2=>
 BK n ((s2.1.1,(s2.1.2.1,s2.1.2.2)),s2.2.1,s2.2.2.1,w64 (s2.2.2.2+1))
 else none
 else
 some ((net.1,(net.2.1,net.2.2)),now,again)
def Cf:Nat->((Int×Int×(List ((List Int)×Int×(List (List Int)))))×(List (List Int))×Bool)->Option ((List (List Int)))
 |0,_=>none
 |n+1,(net,now,again)=>
 if again then
 (BK Aa ((net.1,(net.2.1,net.2.2)),now,false,0)).bind λs2=>
 Cf n ((s2.1.1,(s2.1.2.1,s2.1.2.2)),s2.2.1,s2.2.2)
 else
 some now
def Dv (net:Int×Int×(List ((List Int)×Int×(List (List Int))))):Option ((List (List Int))):=
 (CV (net.1,(net.2.1,net.2.2))).bind λr1=>
 (Cf Aa ((net.1,(net.2.1,net.2.2)),r1,true)).bind λs2=>
 some s2
def Dh (net:Int×Int×(List ((List Int)×Int×(List (List Int))))):Option ((List (List Int))×Bool):=
 (Ct (net.1,(net.2.1,net.2.2))).bind λr1=>
 if !r1 then
 some ([],false)
 else
 (Dv (net.1,(net.2.1,net.2.2))).bind λr2=>
 (Ed r2).bind λr3=>
 some (r3,true)
def Bm:Nat->((List (List Bool))×(List (List Bool))×Int×Int)->Option ((List (List Bool)))
 |0,_=>none
 |n+1,(d,e,t9,t10)=>
 if decide (t10<t9)then
 if inb t10 d then
 if([]:List Bool).length+(gd d t10 []).length<=lim then
 if inb t10 e then
 Bm n (d,stt e t10 ([]++(gd d t10 [])),t9,w64 (t10+1))
 else none
 else none
 else none
 else
 some e
def CX (d:List (List Bool)):Option ((List (List Bool))):=
 if 0<=(d.length:Int)/\(d.length:Int)<=(d.length:Int)/\(d.length:Int)<=lim then
 (Bm Aa (d,List.replicate (Int.toNat (d.length:Int)) ([]:List Bool),(d.length:Int),0)).bind λs1=>
 some s1
 else none
def Az:Nat->((Int×Int×(List ((List Int)×Int×(List (List Int)))))×(List (List Bool))×Bool×Int×Int×Int×Int×Int)->Option ((Int×Int×(List ((List Int)×Int×(List (List Int)))))×(List (List Bool))×Bool×Int×Int)
 |0,_=>none
 |n+1,(net,d,changed,v,t12,t13,t20,t21)=>
 if decide (t21<t20)then
 if inb v d then
 if inb t21 (gd d v [])then
 if !(gd (gd d v []) t21 false)then
 Az n ((net.1,(net.2.1,net.2.2)),d,changed,v,t12,t13,t20,w64 (t21+1))
 else
 (CX d).bind λr2=>
 (DB r2 v t21).bind λr3=>
 (BQ r3 (net.1,(net.2.1,net.2.2))).bind λr4=>
 (BX r4.1).bind λr5=>
 if r5 then
 if inb v d then
 if inb t21 (gd d v [])then
 Az n ((net.1,(net.2.1,net.2.2)),stt d v (stt (gd d v []) t21 false),true,v,t12,t13,t20,w64 (t21+1))
 else none
 else none
 else
 Az n ((net.1,(net.2.1,net.2.2)),d,changed,v,t12,t13,t20,w64 (t21+1))
 else none
 else none
 else
 some ((net.1,(net.2.1,net.2.2)),d,changed,t12,t13)
def A9:Nat->((Int×Int×(List ((List Int)×Int×(List (List Int)))))×(List (List Bool))×Bool×Int×Int)->Option ((Int×Int×(List ((List Int)×Int×(List (List Int)))))×(List (List Bool))×Bool)
 |0,_=>none
 |n+1,(net,d,changed,t12,t13)=>
 if decide (t13<t12)then
 if inb t13 d then
 (Az Aa ((net.1,(net.2.1,net.2.2)),d,changed,t13,t12,t13,((gd d t13 []).length:Int),0)).bind λs2=>
 A9 n ((s2.1.1,(s2.1.2.1,s2.1.2.2)),s2.2.1,s2.2.2.1,s2.2.2.2.1,w64 (s2.2.2.2.2+1))
 else none
 else
 some ((net.1,(net.2.1,net.2.2)),d,changed)
def Bw:Nat->((Int×Int×(List ((List Int)×Int×(List (List Int)))))×(List (List Bool))×Bool)->Option ((List (List Bool)))
 |0,_=>none
 |n+1,(net,d,changed)=>
 if changed then
 (A9 Aa ((net.1,(net.2.1,net.2.2)),d,false,(d.length:Int),0)).bind λs2=>
 Bw n ((s2.1.1,(s2.1.2.1,s2.1.2.2)),s2.2.1,s2.2.2)
 else
 some d
def Cs (net:Int×Int×(List ((List Int)×Int×(List (List Int))))):Option ((List (List Bool))):=
 (Bp (net.1,(net.2.1,net.2.2))).bind λr1=>
 (Bw Aa ((net.1,(net.2.1,net.2.2)),r1,true)).bind λs2=>
 some s2
def Dc (net:Int×Int×(List ((List Int)×Int×(List (List Int))))):Option ((List (List Int))×Bool):=
 (Bk (net.1,(net.2.1,net.2.2))).bind λr1=>
 if !r1 then
 some ([],false)
 else
 (Cs (net.1,(net.2.1,net.2.2))).bind λr2=>
 (Cr r2).bind λr3=>
 some (r3,true)
end T
open Go Go.Va
namespace T
theorem Jj {a:Net} {d:Dom} {v x:Nat} (h:DomOk a d):DomOk a (CM d v x):=by
 rcases Nat.lt_or_ge v d.length with hv|hv
 ·exact FP h hv
 ·have:CM d v x=d:=by unfold CM;rw[List.set_eq_of_length_le hv]
  rw[this];exact h
def okT (a:Net) (d:Dom) (t:Tr):Bool:=
 decide (0<=t.1/\t.1<a.2.2.length)&&decide (0<=t.2.1/\t.2.1<(a.2.2.getD t.1.toNat Dz).1.length)&&decide (0<=t.2.2/\t.2.2<a.2.1)&&
  (d2 d (g0 (a.2.2.getD t.1.toNat Dz).1 t.2.1.toNat).toNat t.2.2.toNat&&!CH d (a.2.2.getD t.1.toNat Dz) t.2.1.toNat t.2.2)
def F7 (a:Net) (tr:List Tr):Nat->Dom
 |0=>AC a
 |k+1=>CM (F7 a tr k) (g0 (a.2.2.getD (tr.getD k (0,0,0)).1.toNat Dz).1 (tr.getD k (0,0,0)).2.1.toNat).toNat (tr.getD k (0,0,0)).2.2.toNat
section
variable {a:Net}
theorem H4 (hN:NetOk a) (tr:List Tr): ∀k,DomOk a (F7 a tr k)
 |0=>Cq hN
 |k+1=>Jj (H4 hN tr k)
def GH (a:Net) (tr:List Tr):Bool:=(List.range tr.length).all λk=>okT a (F7 a tr k) (tr.getD k (0,0,0))
theorem EH (hN:NetOk a) {tr:List Tr} (hl:tr.length<=40):
  Bx Aa ((a.1,(a.2.1,a.2.2)),AC a,tr,(tr.length:Int),0)=if GH a tr then some (.inl ())else some (.inr (false,true)):=by
 have hv:=hN.hv
 have hn:=hN.hn
 have hcs:=hN.hc
 refine Hp tr.length (λn d i=>Bx n ((a.1,(a.2.1,a.2.2)),d,tr,(tr.length:Int),i)) (λk=>F7 a tr k) (λk=>okT a (F7 a tr k) (tr.getD k (0,0,0))) (λn k hk=>?_) (λn=>?_) (n:=Aa) (by unfold Aa;omega)
 ·have hd:=H4 hN tr k
  simp only[F7]
  rw[Ab hk]
  generalize F7 a tr k=d at hd⊢
  have hgd:gd tr (k:Int) (0,(0,0))=tr[k]:=Ae hk
  generalize tr[k]=t at hgd⊢
  obtain⟨i,p,x⟩:=t
  simp only[Bx,Af,hgd,Option.bind_some,Ad (show k<4611686018427387904 by omega),okT]
  by_cases hi0:i<0
  ·simp[hk,hi0,show¬0<=i by omega]
  ·by_cases hi1:i≥(a.2.2.length:Int)
   ·simp[hk,hi0,hi1,show¬i<(a.2.2.length:Int) by omega]
   ·by_cases hx0:x<0
    ·simp[hk,hi0,hi1,hx0,show¬0<=x by omega]
    ·by_cases hx1:x≥a.2.1
     ·simp[hk,hi0,hi1,hx0,hx1,show¬x<a.2.1 by omega]
     ·obtain⟨i,rfl⟩: ∃m:Nat,i=m:=⟨i.toNat,by omega⟩
      obtain⟨x,rfl⟩: ∃m:Nat,x=m:=⟨x.toNat,by omega⟩
      have hi':i<a.2.2.length:=by omega
      have hC:=hN.con _ (List.getElem_mem hi')
      have har:=hC.ar
      have hsl:=hC.sl
      simp only[Int.toNat_natCast,Ae hi',Ab hi',Af]
      generalize a.2.2[i]=c at hC har hsl⊢
      by_cases hp0:p<0
      ·simp[hk,hi',hx1,hp0,show¬0<=p by omega]
      ·by_cases hp1:p≥(c.1.length:Int)
       ·simp[hk,hi',hx1,hp0,hp1,show¬p<(c.1.length:Int) by omega]
       ·obtain⟨p,rfl⟩: ∃m:Nat,p=m:=⟨p.toNat,by omega⟩
        have hp':p<c.1.length:=by omega
        obtain⟨m,hm,hmg,hml,hrow⟩:=Fq hC hd hp'
        have hxl:x<d[m].length:=by omega
        have hd2:d2 d m x=d[m][x]:=by unfold d2;rw[Ab hml,Ab hxl]
        simp only[Int.toNat_natCast,Ae hp',hm,hmg,Af,Ae hml,Ae hxl,El hC hd hp',Option.bind_some,BS,hd2,CM,Ab hml]
        have hx3:(x:Int)<a.2.1:=by omega
        cases d[m][x]with
        |false=>simp[hk,hi',hp',hml,hxl,show¬a.2.1<=(x:Int) by omega,hi0,hx0,hp0,show¬a.2.2.length<=i by omega,show¬c.1.length<=p by omega]
        |true=>cases CH d c p (x:Int)<;>simp[hk,hi',hp',hml,hxl,show¬a.2.1<=(x:Int) by omega,hx3,hi0,hx0,hp0,show¬a.2.2.length<=i by omega,show¬c.1.length<=p by omega]
 ·simp[Bx]
def Ia (a:Net) (tr:List Tr):Bool×Bool:=if BH a&&decide (tr.length<=40)then(GH a tr,true)else(false,false)
theorem Fu (h:FN a) (tr:List Tr):DP a tr=some (Ia a tr):=by
 unfold DP Ia
 rw[Bl (a:=(a.1,(a.2.1,a.2.2))) h,show BH (a.1,(a.2.1,a.2.2))=BH a from rfl]
 cases hb:BH a with
 |false=>simp
 |true=>
  have hN:=CL hb
  by_cases hl:tr.length<=40
  ·simp only[Option.bind_some,Bool.not_true,Bool.false_eq_true,if_false,Bj hN,EH hN hl]
   rw[if_neg (by simp;omega)]
   cases GH a tr<;>simp[hl]
  ·simp only[Option.bind_some,Bool.not_true,Bool.false_eq_true,if_false]
   rw[if_pos (by simp;omega)];simp[hl]
end
end T
open Go Go.Va
namespace T
def C0 (d:Dom) (v x:Nat):Dom:=d.set v ((d.getD v []).mapIdx λi _=>decide (i=x))
theorem Ki {r:List Bool} {x:Nat} (h:x<r.length):mk (r.mapIdx λi _=>decide (i=x))= [(x:Int)]:=by
 unfold mk
 rw[List.length_mapIdx]
 have e:(List.range r.length).filter (λi=>(r.mapIdx λi _=>decide (i=x)).getD i false)=(List.range r.length).filter (λi=>i==x):=by
  apply List.filter_congr
  intro i hi
  have:=List.mem_range.1 hi
  rw[Ab (by simpa using this),List.getElem_mapIdx]
  rw[Bool.eq_iff_iff];simp
 rw[e,List.filter_beq,List.nodup_range.count,if_pos (List.mem_range.2 h)]
 rfl
section
variable {a:Net}
theorem Gg {d:Dom} {v x:Nat} (h:DomOk a d):DomOk a (C0 d v x):=by
 refine⟨by unfold C0;rw[List.length_set];exact h.len,λr hr=>?_⟩
 unfold C0 at hr
 rcases Nat.lt_or_ge v d.length with hv|hv
 ·rcases List.mem_or_eq_of_mem_set hr with hr|rfl
  ·exact h.row r hr
  ·rw[List.length_mapIdx,Ab hv];exact h.row _ (List.getElem_mem hv)
 ·rw[List.set_eq_of_length_le hv]at hr;exact h.row r hr
theorem IX {d:Dom} {v x:Nat} (hv:v<d.length) (hx:x<d[v].length):(C0 d v x).map mk=(d.map mk).set v [(x:Int)]:=by
 unfold C0;rw[List.map_set,Ab hv,Ki hx]
theorem Hr (hN:NetOk a) {d:Dom} (h:DomOk a d) {v:Nat} (hv:v<d.length) (x:Nat):DB d (v:Int) (x:Int)=some (C0 d v x):=by
 have hn:=hN.hn
 have hr:=h.row _ (List.getElem_mem hv)
 unfold DB
 rw[if_pos (by rw[Af];exact hv),Ae hv]
 have:=J0 d[v].length (λn r i=>BP n (d.set v r,(v:Int),(x:Int),(d[v].length:Int),i)) (λi _=>decide (i=x)) (λr=>some (d.set v r)) (λn r k hk hl=>?_) (λn r hl=>?_) (n:=Aa) (by unfold Aa;omega) (a:=d[v]) rfl
 ·simp only[List.set_getElem_self]at this
  rw[this,Option.bind_some];unfold C0;rw[Ab hv]
 ·have hv':v<(d.set v r).length:=by simpa using hv
  have e:((k:Int)==(x:Int))=decide (k=x):=by rw[HZ,Bool.eq_iff_iff];simp;omega
  simp only[BP,Af,Ae hv',List.getElem_set_self,BS,List.set_set,e,Ad (show k<4611686018427387904 by omega)]
  rw[if_pos (by simp;omega),if_pos (by simpa using hv),if_pos (by omega)]
 ·simp[BP]
end
end T
open Go Go.Va
namespace T
def CR (a:Net) (v:Nat) (d:Dom) (x:Nat):Dom:=if d2 d v x&&Bd (Bc a (C0 d v x)).1 then CM d v x else d
def EY (a:Net) (d:Dom) (v:Nat):Dom:=(List.range a.2.1.toNat).foldl (CR a v) d
def Dk (a:Net) (d:Dom):Dom:=(List.range a.1.toNat).foldl (EY a) d
def Ce (a:Net):Nat->Dom->Dom
 |0,d=>d
 |k+1,d=>if mu (Dk a d)<mu d then Ce a k (Dk a d)else Dk a d
section
variable {a:Net}
def FE (a:Net) (d0 d:Dom):Prop:=DomOk a d/\mu d<=mu d0
theorem G3 {v x:Nat} {d0 d:Dom} (h:FE a d0 d):FE a d0 (CR a v d x):=by
 unfold CR
 split
 ·rename_i hb
  rw[Bool.and_eq_true]at hb
  exact⟨FP h.1 (EO hb.1).1,by have:=FM hb.1;have:=h.2;omega⟩
 ·exact h
theorem Gx {v:Nat} {d0:Dom} (l:List Nat) {d:Dom} (h:FE a d0 d):FE a d0 (l.foldl (CR a v) d):=BO (P:=FE a d0) l (λ_ _ _ hs=>G3 hs) d h
theorem D0 {d0:Dom} (l:List Nat) {d:Dom} (h:FE a d0 d):FE a d0 (l.foldl (EY a) d):=BO (P:=FE a d0) l (λ_ _ _ hs=>Gx _ hs) d h
theorem DM: ∀(k:Nat) {d:Dom},DomOk a d->DomOk a (Ce a k d)
 |0,_,h=>h
 |k+1,d,h=>by
  simp only[Ce]
  split
  ·exact DM k (D0 (d0:=d) _ ⟨h,Nat.le_refl _⟩).1
  ·exact(D0 (d0:=d) _ ⟨h,Nat.le_refl _⟩).1
theorem Gq (hN:NetOk a) {d:Dom} (h:DomOk a d):CX d=some d:=by
 have hl:=h.len
 have hv:=hN.hv
 have hn:=hN.hn
 unfold CX
 rw[if_pos (by unfold lim;omega)]
 have:=IW d (λn o i=>Bm n (d,o,(d.length:Int),i)) id some (λn o k hk hlo=>?_) (λn o hlo=>?_) (n:=Aa) (out:=List.replicate (Int.toNat (d.length:Int)) ([]:List Bool)) (by simp) (by unfold Aa;omega)
 ·rw[this];simp
 ·have hr:=h.row _ (List.getElem_mem hk)
  have hko:k<o.length:=by omega
  simp only[Bm,Af,Ae hk,BS,Ad (show k<4611686018427387904 by omega)]
  rw[if_pos (by simp;omega),if_pos hk,if_pos (by unfold lim;simp;omega),if_pos hko];rfl
 ·simp[Bm]
theorem IG (hN:NetOk a) {v:Nat} (hva:(v:Int)<a.1) {d0 d:Dom} (h:FE a d0 d) (t12 t13:Int):
  Az Aa ((a.1,(a.2.1,a.2.2)),d,decide (mu d<mu d0),(v:Int),t12,t13,((a.2.1.toNat:Nat):Int),0)=some ((a.1,(a.2.1,a.2.2)),EY a d v,decide (mu (EY a d v)<mu d0),t12,t13):=by
 have hn:=hN.hn
 have hv9:=hN.hv
 unfold EY
 obtain⟨N,hNN⟩: ∃N:Nat,a.2.1.toNat=N:=⟨_,rfl⟩
 rw[hNN]
 have:=Co N (λn (s:Dom×Bool) k=>Az n ((a.1,(a.2.1,a.2.2)),s.1,s.2,(v:Int),t12,t13,(N:Int),k)) (λk=>((List.range k).foldl (CR a v) d,decide (mu ((List.range k).foldl (CR a v) d)<mu d0)))
  (r:=some ((a.1,(a.2.1,a.2.2)),(List.range N).foldl (CR a v) d,decide (mu ((List.range N).foldl (CR a v) d)<mu d0),t12,t13)) (λn k hk=>?_) (λn=>?_) (n:=Aa) (by unfold Aa;omega)
 ·exact this
 ·have hin:=Gx (v:=v) (List.range k) h
  rw[List.range_succ,List.foldl_append,List.foldl_cons,List.foldl_nil]
  generalize (List.range k).foldl (CR a v) d=s at hin⊢
  obtain⟨hok,hle⟩:=hin
  have hvs:v<s.length:=by have:=hok.len;omega
  have hrow:=hok.row _ (List.getElem_mem hvs)
  have hk2:k<s[v].length:=by omega
  have ed:d2 s v k=s[v][k]:=by unfold d2;rw[Ab hvs,Ab hk2]
  have hfx:=Gg (v:=v) (x:=k) hok
  simp only[Az,Af,Ae hvs,Ae hk2,Gq hN hok,Hr hN hok hvs k,CK hN hfx,Ek hN (C2 hN hfx).1,Option.bind_some,BS,Ad (show k<4611686018427387904 by omega),CR,ed]
  cases hb:s[v][k]with
  |false=>simp[hk,hvs,hk2,hb]
  |true=>
   cases Bd (Bc a (C0 s v k)).1 with
   |false=>simp[hk,hvs,hk2,hb]
   |true=>
    have e2:mu (CM s v k)<mu d0:=by have:=FM (ed.trans hb);omega
    simp only[Bool.and_self,if_true,e2,decide_true]
    simp[hk,hvs,hk2,hb,CM,Ab hvs]
 ·simp[Az]
theorem IF (hN:NetOk a) {d:Dom} (h:DomOk a d):
  A9 Aa ((a.1,(a.2.1,a.2.2)),d,false,(d.length:Int),0)=some ((a.1,(a.2.1,a.2.2)),Dk a d,decide (mu (Dk a d)<mu d)):=by
 have hn:=hN.hn
 have hv9:=hN.hv
 have hl:=h.len
 have hi:FE a d d:=⟨h,Nat.le_refl _⟩
 have:=Co a.1.toNat (λn (s:Dom×Bool) k=>A9 n ((a.1,(a.2.1,a.2.2)),s.1,s.2,(d.length:Int),k)) (λk=>((List.range k).foldl (EY a) d,decide (mu ((List.range k).foldl (EY a) d)<mu d)))
  (r:=some ((a.1,(a.2.1,a.2.2)),Dk a d,decide (mu (Dk a d)<mu d))) (λn k hk=>?_) (λn=>?_) (n:=Aa) (by unfold Aa;omega)
 ·simpa using this
 ·have hin:=D0 (List.range k) hi
  rw[List.range_succ,List.foldl_append,List.foldl_cons,List.foldl_nil]
  generalize (List.range k).foldl (EY a) d=s at hin⊢
  have hvs:k<s.length:=by have:=hin.1.len;omega
  have hrow:=hin.1.row _ (List.getElem_mem hvs)
  have e0:((s[k]).length:Int)=((a.2.1.toNat:Nat):Int):=by omega
  have key:=IG hN (v:=k) (by omega) hin (d.length:Int) (k:Int)
  rw[←e0]at key
  simp only[A9,Af,Ae hvs,key,Option.bind_some,Ad (show k<4611686018427387904 by omega)]
  rw[if_pos (by simp;omega),if_pos hvs]
 ·simp only[A9]
  rw[if_neg (by simp;omega)];rfl
theorem G0 (hN:NetOk a): ∀(k:Nat) (d:Dom),DomOk a d->mu d<k-> ∀n,k+1<=n->Bw n ((a.1,(a.2.1,a.2.2)),d,true)=some (Ce a k d):=by
 intro k
 induction k with
 |zero=>intro d _ h;omega
 |succ k ih=>
  intro d hd hmu n hn
  obtain⟨n,rfl⟩: ∃m,n=m+1:=⟨n-1,by omega⟩
  have hp:=(D0 (d0:=d) (List.range a.1.toNat) ⟨hd,Nat.le_refl _⟩).1
  simp only[Bw,if_true,IF hN hd,Option.bind_some,Ce]
  by_cases h:mu (Dk a d)<mu d
  ·rw[if_pos h,decide_eq_true h]
   exact ih (Dk a d) hp (by omega) n (by omega)
  ·rw[if_neg h,decide_eq_false h]
   obtain⟨n,rfl⟩: ∃m,n=m+1:=⟨n-1,by omega⟩
   simp[Bw]
theorem HN {v n:Nat} {d:Dom} (hn:(d.getD v []).length=n):
  (mk (d.getD v [])).foldl (λs x=>if Bd (Bc a (C0 s v x.toNat)).1 then CM s v x.toNat else s) d=(List.range n).foldl (CR a v) d:=by
 have key: ∀(r0:List Bool) (l:List Nat) (s:Dom),l.Nodup->(∀y∈l,d2 s v y=r0.getD y false)->
   l.foldl (λs y=>if r0.getD y false=true then(if Bd (Bc a (C0 s v ((y:Int).toNat))).1 then CM s v ((y:Int).toNat)else s)else s) s=l.foldl (CR a v) s:=by
  intro r0 l
  induction l with
  |nil=>intro s _ _;rfl
  |cons y l ih=>
   intro s hnd hr
   rw[List.foldl_cons,List.foldl_cons]
   rw[List.nodup_cons]at hnd
   have e:(if r0.getD y false=true then(if Bd (Bc a (C0 s v ((y:Int).toNat))).1 then CM s v ((y:Int).toNat)else s)else s)=CR a v s y:=by
    unfold CR
    rw[hr y (by simp),Int.toNat_natCast]
    cases r0.getD y false<;>cases Bd (Bc a (C0 s v y)).1<;>simp
   rw[e]
   refine ih _ hnd.2 λz hz=>?_
   rw[←hr z (List.mem_cons_of_mem _ hz)]
   have hzy:z≠y:=λe=>hnd.1 (e▸hz)
   unfold CR
   split
   ·exact Fb hzy
   ·rfl
 rw[←hn]
 have h:=key (d.getD v []) (List.range (d.getD v []).length) d List.nodup_range (λy _=>rfl)
 rw[←h]
 unfold mk
 rw[List.foldl_map,List.foldl_filter]
theorem HW (hN:NetOk a) {v:Nat} (hva:(v:Int)<a.1) {d0 d:Dom} (h:FE a d0 d):
  Be Aa ((a.1,(a.2.1,a.2.2)),d.map mk,decide (mu d<mu d0),(v:Int),mk (d.getD v []),0)=some ((a.1,(a.2.1,a.2.2)),(EY a d v).map mk,decide (mu (EY a d v)<mu d0),(v:Int)):=by
 have hn:=hN.hn
 have hv9:=hN.hv
 have hvd:v<d.length:=by have:=h.1.len;omega
 have hrow0:=h.1.row _ (List.getElem_mem hvd)
 have hfv:=HN (a:=a) (v:=v) (d:=d) (n:=a.2.1.toNat) (by rw[Ab hvd];omega)
 unfold EY
 rw[←hfv]
 have hcur: ∀(l:List Nat) (s:Dom),l.Nodup->FE a d0 s-> ∀(pre:List Nat),True:=λ_ _ _ _ _=>trivial
 obtain⟨vals,hvals⟩: ∃vals,mk (d.getD v [])=vals:=⟨_,rfl⟩
 rw[hvals]
 have hvl:vals.length<=4:=by rw[←hvals];exact Nat.le_trans DD (by rw[Ab hvd];omega)
 have hnd:vals.Nodup:=by
  rw[←hvals];unfold mk
  exact List.Pairwise.map (λi:Nat=>(i:Int)) (λa b h e=>h (Int.ofNat.inj e)) (List.Pairwise.filter _ List.nodup_range)
 have hin: ∀y∈vals,0<=y/\d2 d v y.toNat=true:=λy hy=>by
  rw[←hvals,Ew]at hy;exact hy
 let S:Nat->Dom:=λk=>(vals.take k).foldl (λs x=>if Bd (Bc a (C0 s v x.toNat)).1 then CM s v x.toNat else s) d
 have hS: ∀k,k<=vals.length->FE a d0 (S k)/\ ∀j (hj:j<vals.length),k<=j->d2 (S k) v vals[j].toNat=true:=by
  intro k
  induction k with
  |zero=>intro _;exact⟨by simpa[S]using h,λj hj _=>by simpa[S]using (hin _ (List.getElem_mem hj)).2⟩
  |succ k ih=>
   intro hk
   obtain⟨h1,h2⟩:=ih (by omega)
   have hcurr:=h2 k (by omega) (Nat.le_refl _)
   have e:S (k+1)=if Bd (Bc a (C0 (S k) v (vals[k]'(by omega)).toNat)).1 then CM (S k) v (vals[k]'(by omega)).toNat else S k:=by
    simp only[S];rw[List.take_succ_eq_append_getElem (by omega),List.foldl_append];rfl
   rw[e]
   split
   ·refine⟨⟨FP h1.1 (EO hcurr).1,by have:=FM hcurr;have:=h1.2;omega⟩,λj hj hkj=>?_⟩
    have hne:vals[j]≠vals[k]'(by omega):=λe=>by
     have:=(List.getElem_inj hnd).1 e;omega
    have h3:=(hin _ (List.getElem_mem hj)).1
    have h4:=(hin _ (List.getElem_mem (show k<vals.length by omega))).1
    rw[Fb (by omega)]
    exact h2 j hj (by omega)
   ·exact⟨h1,λj hj hkj=>h2 j hj (by omega)⟩
 have:=Co vals.length (λn (s:Dom×Bool) k=>Be n ((a.1,(a.2.1,a.2.2)),s.1.map mk,s.2,(v:Int),vals,k)) (λk=>(S k,decide (mu (S k)<mu d0)))
  (r:=some ((a.1,(a.2.1,a.2.2)),(S vals.length).map mk,decide (mu (S vals.length)<mu d0),(v:Int))) (λn k hk=>?_) (λn=>?_) (n:=Aa) (by unfold Aa;omega)
 ·have e0:S 0=d:=rfl
  have e1:S vals.length=vals.foldl (λs x=>if Bd (Bc a (C0 s v x.toNat)).1 then CM s v x.toNat else s) d:=by simp only[S];rw[List.take_length]
  rw[e1]at this
  dsimp only at this
  rw[e0]at this
  exact this
 ·obtain⟨hsi,hcu⟩:=hS k (by omega)
  have hcu:=hcu k hk (Nat.le_refl _)
  have e:S (k+1)=if Bd (Bc a (C0 (S k) v (vals[k]'(by omega)).toNat)).1 then CM (S k) v (vals[k]'(by omega)).toNat else S k:=by
   simp only[S];rw[List.take_succ_eq_append_getElem (by omega),List.foldl_append];rfl
  simp only[e]
  generalize S k=s at hsi hcu⊢
  obtain⟨hok,hle⟩:=hsi
  have hvs:v<s.length:=by have:=hok.len;omega
  have hvs':v<(s.map mk).length:=by simpa using hvs
  have hrow:=hok.row _ (List.getElem_mem hvs)
  have hx:=(hin _ (List.getElem_mem hk)).1
  have ex:vals[k]=((vals[k].toNat:Nat):Int):=by omega
  have hxl:vals[k].toNat<s[v].length:=by have:=(EO hcu).2;rwa [Ab hvs]at this
  have hfx:=Gg (v:=v) (x:=vals[k].toNat) hok
  have hfm:=IX hvs hxl
  rw[←ex]at hfm
  have hw:=D6 (l:=mk s[v]) (x:=vals[k]) (Nat.le_trans DD (by omega))
  have hmk:(mk s[v]).filter (λy=>y !=vals[k])=mk ((s.getD v []).set vals[k].toNat false):=by rw[Jc,Ab hvs,←ex]
  have hl1:(s.map mk).length<=lim:=by have:=hok.len;unfold lim;simp;omega
  simp only[Be,Af,Ae hk,List.nil_append,hvs',BS,←hfm,Du hN hfx,FY hN (C2 hN hfx).1,Option.bind_some,Ae hvs',List.getElem_map,hw,hmk,Ad (show k<4611686018427387904 by omega)]
  cases Bd (Bc a (C0 s v vals[k].toNat)).1 with
  |false=>
   simp only[Bool.false_eq_true,if_false]
   rw[if_pos (by simp;omega),if_pos (by simpa using hl1),if_pos hk,if_pos trivial]
  |true=>
   have e2:mu (CM s v vals[k].toNat)<mu d0:=by have:=FM hcu;omega
   simp only[if_true,HB,e2,decide_true]
   rw[if_pos (by simp;omega),if_pos (by simpa using hl1),if_pos hk]
   simp[hk]
 ·simp[Be]
theorem GD (hN:NetOk a) {d:Dom} (h:DomOk a d):
  BK Aa ((a.1,(a.2.1,a.2.2)),d.map mk,false,0)=some ((a.1,(a.2.1,a.2.2)),(Dk a d).map mk,decide (mu (Dk a d)<mu d)):=by
 have hv9:=hN.hv
 have hl:=h.len
 have hi:FE a d d:=⟨h,Nat.le_refl _⟩
 have:=Co a.1.toNat (λn (s:Dom×Bool) k=>BK n ((a.1,(a.2.1,a.2.2)),s.1.map mk,s.2,k)) (λk=>((List.range k).foldl (EY a) d,decide (mu ((List.range k).foldl (EY a) d)<mu d)))
  (r:=some ((a.1,(a.2.1,a.2.2)),(Dk a d).map mk,decide (mu (Dk a d)<mu d))) (λn k hk=>?_) (λn=>?_) (n:=Aa) (by unfold Aa;omega)
 ·simpa using this
 ·have hin:=D0 (List.range k) hi
  rw[List.range_succ,List.foldl_append,List.foldl_cons,List.foldl_nil]
  generalize (List.range k).foldl (EY a) d=s at hin⊢
  have hvs:k<s.length:=by have:=hin.1.len;omega
  have hvs':k<(s.map mk).length:=by simpa using hvs
  have key:=HW hN (v:=k) (by omega) hin
  rw[Ab hvs]at key
  simp only[BK,Af,Ae hvs',List.getElem_map,key,Option.bind_some,Ad (show k<4611686018427387904 by omega)]
  rw[if_pos (by simp;omega),if_pos hvs']
 ·simp only[BK]
  rw[if_neg (by simp;omega)];rfl
theorem Fa (hN:NetOk a): ∀(k:Nat) (d:Dom),DomOk a d->mu d<k-> ∀n,k+1<=n->Cf n ((a.1,(a.2.1,a.2.2)),d.map mk,true)=some ((Ce a k d).map mk):=by
 intro k
 induction k with
 |zero=>intro d _ h;omega
 |succ k ih=>
  intro d hd hmu n hn
  obtain⟨n,rfl⟩: ∃m,n=m+1:=⟨n-1,by omega⟩
  have hp:=(D0 (d0:=d) (List.range a.1.toNat) ⟨hd,Nat.le_refl _⟩).1
  simp only[Cf,if_true,GD hN hd,Option.bind_some,Ce]
  by_cases h:mu (Dk a d)<mu d
  ·rw[if_pos h,decide_eq_true h]
   exact ih (Dk a d) hp (by omega) n (by omega)
  ·rw[if_neg h,decide_eq_false h]
   obtain⟨n,rfl⟩: ∃m,n=m+1:=⟨n-1,by omega⟩
   simp[Cf]
def E0 (a:Net):List (List Int)×Bool:=if BH a then((Ce a 40 (AC a)).map mk,true)else([],false)
theorem Jk:(E0 a).1.length<=9/\ ∀r∈(E0 a).1,r.length<=4:=by
 unfold E0
 split
 ·rename_i hb;have hN:=CL hb;exact FJ hN (DM 40 (Cq hN))
 ·simp
theorem EI (h:FN a):Dc a=some (E0 a):=by
 unfold Dc E0 Cs
 rw[Bl (a:=(a.1,(a.2.1,a.2.2))) h,show BH (a.1,(a.2.1,a.2.2))=BH a from rfl]
 cases hb:BH a with
 |false=>simp
 |true=>
  have hN:=CL hb
  have hf:=Cq hN
  have hmu:=FL hN hf
  simp only[Bj hN,G0 hN 40 (AC a) hf (by omega) Aa (by unfold Aa;omega),Fk hN (DM 40 hf),Option.bind_some,Bool.not_true,Bool.false_eq_true,if_false,if_true]
theorem EL (h:FN a):Dh a=some (E0 a):=by
 unfold Dh E0 Dv
 rw[CA (a:=(a.1,(a.2.1,a.2.2))) h,show BH (a.1,(a.2.1,a.2.2))=BH a from rfl]
 cases hb:BH a with
 |false=>simp
 |true=>
  have hN:=CL hb
  have hf:=Cq hN
  have hmu:=FL hN hf
  have hbd:=FJ hN (DM 40 hf)
  simp only[C6 hN,Fa hN 40 (AC a) hf (by omega) Aa (by unfold Aa;omega),E4 (l:=(Ce a 40 (AC a)).map mk) (by omega) (λr hr=>by have:=hbd.2 r hr;omega),Option.bind_some,Bool.not_true,Bool.false_eq_true,if_false,if_true]
end
end T
set_option linter.unusedVariables false
open Go Go.Va
namespace T
def F6 (r:Int×(List (List Int))) (t:List Int):Option (Bool):=
 if(t.length:Int) !=r.1 then
 some false
 else
 (DN r.2 t).bind λr1=>
 some r1.2
def BF:Nat->((List Int)×((List Int)×Int×(List (List Int)))×(List Int)×Int)->Option (((List Int)×Int×(List (List Int)))×(List Int))
 |0,_=>none
 |n+1,(values,c,t,i)=>
 if decide (i<(c.1.length:Int))then
 if inb i c.1 then
 if inb (gd c.1 i 0) values then
 if t.length+ [gd values (gd c.1 i 0) 0].length<=lim then
 BF n (values,(c.1,(c.2.1,c.2.2)),t++ [gd values (gd c.1 i 0) 0],w64 (i+1))
 else none
 else none
 else none
 else
 some ((c.1,(c.2.1,c.2.2)),t)
def Ds (c:(List Int)×Int×(List (List Int))) (values:List Int):Option (Bool):=
 (BF Aa (values,(c.1,(c.2.1,c.2.2)),[],0)).bind λs1=>
 (F6 (s1.1.2.1,s1.1.2.2) s1.2).bind λr2=>
 some r2
def Cv:Nat->((List Int)×(List Int)×(List Int)×Int×Int)->Option ((List Int))
 |0,_=>none
 |n+1,(g,h,t11,t12,t13)=>
 if decide (t13<t12)then
 if inb t13 t11 then
 if inb (gd t11 t13 0) g then
 if inb t13 h then
 Cv n (g,stt h t13 (gd g (gd t11 t13 0) 0),t11,t12,w64 (t13+1))
 else none
 else none
 else none
 else
 some h
def Do (f:List Int) (g:List Int):Option ((List Int)):=
 if 0<=(f.length:Int)/\(f.length:Int)<=(f.length:Int)/\(f.length:Int)<=lim then
 (Cv Aa (g,List.replicate (Int.toNat (f.length:Int)) (0:Int),f,(f.length:Int),0)).bind λs1=>
 some s1
 else none
end T
open Go Go.Va
namespace T
def DX (vs:List Int) (v:Int):Int:=vs.getD v.toNat 0
def Ei (vs:List Int) (c:Con):Bool:=decide (c.1.map (DX vs)∈c.2.2)
def KU (l:List Con) (vs:List Int):Bool:=l.all (Ei vs)
def KR (vars:List Int) (c:Con):Bool:=c.1.all λv=>decide (v∈vars)
def KS (a:Net) (vars:List Int):List Con:=a.2.2.filter (KR vars)
section
variable {a:Net}
theorem F8 {f g:List Int} (hf:f.length<=1048576) (hg: ∀v∈f,0<=v/\v<g.length):Do f g=some (f.map (DX g)):=by
 unfold Do
 rw[if_pos (by unfold lim;omega)]
 have:=IW f (λn o i=>Cv n (g,o,f,(f.length:Int),i)) (DX g) some (λn o k hk hlo=>?_) (λn o hlo=>?_) (n:=Aa) (out:=List.replicate (Int.toNat (f.length:Int)) (0:Int)) (by simp) (by unfold Aa;omega)
 ·simp only[this,Option.bind_some]
 ·have hko:k<o.length:=by omega
  have hv:=hg _ (List.getElem_mem hk)
  have e:gd g f[k] 0=DX g f[k]:=rfl
  simp only[Cv,Af,Ae hk,BS,Ad (show k<4611686018427387904 by omega),e]
  rw[if_pos (by simp;omega),if_pos hk,if_pos (show inb f[k] g from hv),if_pos hko]
 ·simp[Cv]
theorem E2 {v n:Int} {c:Con} (h:ConOk v n c) {vs:List Int} (hv:(vs.length:Int)=v):Ds c vs=some (Ei vs c):=by
 unfold Ds
 have hsl:=h.sl
 have har:=h.ar
 have hm:=h.many
 have:=Co c.1.length (λn (o:List Int) i=>BF n (vs,(c.1,(c.2.1,c.2.2)),o,i)) (λk=>(c.1.take k).map (DX vs)) (r:=some ((c.1,(c.2.1,c.2.2)),c.1.map (DX vs))) (λn k hk=>?_) (λn=>?_) (n:=Aa) (by unfold Aa;omega)
 ·simp only[List.take_zero,List.map_nil]at this
  simp only[this,Option.bind_some]
  unfold F6
  have hl:((c.1.map (DX vs)).length:Int)=c.2.1:=by rw[List.length_map];exact hsl
  rw[if_neg (by simpa using hsl)]
  obtain⟨q,e,_⟩:=E9 (list:=c.2.2) (t:=c.1.map (DX vs)) (k:=c.1.length) (by omega) (by omega) h.tl (by simp) h.inc
  simp only[e,Option.bind_some];rfl
 ·have hvk:=h.sv k hk
  have e:gd vs c.1[k] 0=DX vs c.1[k]:=rfl
  have hi:inb c.1[k] vs:=by unfold inb;omega
  simp only[BF,Af,Ae hk,e,Ad (show k<4611686018427387904 by omega)]
  rw[List.take_succ_eq_append_getElem hk,List.map_append]
  rw[if_pos (by simp;omega),if_pos hk,if_pos hi,if_pos (by unfold lim;simp;omega)];rfl
 ·simp only[BF,List.take_length]
  rw[if_neg (by simp)]
end
end T
open Go Go.Va
namespace T
abbrev T3:=List (List (List Bool))
abbrev T4:=List (List (List (List Bool)))
def JX (s:Nat) (c:List (List Bool)):Prop:=c.length=s/\ ∀x,x<s->(c.getD x []).length=s
def Ku (n s:Nat) (r:T3):Prop:=r.length=n/\ ∀j,j<n->JX s (r.getD j [])
def Ok4 (n s:Nat) (t:T4):Prop:=t.length=n/\ ∀i,i<n->Ku n s (t.getD i [])
def r4 (t:T4) (i j x y:Nat):Bool:=(((t.getD i []).getD j []).getD x []).getD y false
def s4 (t:T4) (i j x y:Nat) (b:Bool):T4:=t.set i ((t.getD i []).set j (((t.getD i []).getD j []).set x ((((t.getD i []).getD j []).getD x []).set y b)))
def Ok3 (n m:Nat) (u:T3):Prop:=u.length=n/\ ∀i,i<n->(u.getD i []).length=n/\ ∀j,j<n->((u.getD i []).getD j []).length=m
def r3 (u:T3) (i j p:Nat):Bool:=((u.getD i []).getD j []).getD p false
def s3 (u:T3) (i j p:Nat) (b:Bool):T3:=u.set i ((u.getD i []).set j (((u.getD i []).getD j []).set p b))
section
variable {n s m:Nat} {t:T4} {u:T3}
theorem Ok4.at (h:Ok4 n s t) {i j x:Nat} (hi:i<n) (hj:j<n) (hx:x<s):i<t.length/\j<(t.getD i []).length/\x<((t.getD i []).getD j []).length/\(((t.getD i []).getD j []).getD x []).length=s:=
 ⟨by rw[h.1];exact hi,by rw[(h.2 i hi).1];exact hj,by rw[((h.2 i hi).2 j hj).1];exact hx,((h.2 i hi).2 j hj).2 x hx⟩
theorem Ok3.at (h:Ok3 n m u) {i j:Nat} (hi:i<n) (hj:j<n):i<u.length/\j<(u.getD i []).length/\((u.getD i []).getD j []).length=m:=
 ⟨by rw[h.1];exact hi,by rw[(h.2 i hi).1];exact hj,(h.2 i hi).2 j hj⟩
theorem Ii (h:Ok4 n s t) {i j x y:Nat} {b:Bool}:Ok4 n s (s4 t i j x y b):=by
 unfold s4
 refine⟨by rw[List.length_set];exact h.1,λi' hi'=>?_⟩
 rw[Ao]
 split
 ·rename_i hc
  obtain⟨rfl,_⟩:=hc
  have hr:=h.2 i hi'
  refine⟨by rw[List.length_set];exact hr.1,λj' hj'=>?_⟩
  rw[Ao]
  split
  ·rename_i hc
   obtain⟨rfl,_⟩:=hc
   have hcl:=hr.2 j hj'
   refine⟨by rw[List.length_set];exact hcl.1,λx' hx'=>?_⟩
   rw[Ao]
   split
   ·rename_i hc
    obtain⟨rfl,_⟩:=hc
    rw[List.length_set];exact hcl.2 x hx'
   ·exact hcl.2 x' hx'
  ·exact hr.2 j' hj'
 ·exact h.2 i' hi'
theorem KH (h:Ok3 n m u) {i j p:Nat} {b:Bool}:Ok3 n m (s3 u i j p b):=by
 unfold s3
 refine⟨by rw[List.length_set];exact h.1,λi' hi'=>?_⟩
 rw[Ao]
 split
 ·rename_i hc
  obtain⟨rfl,_⟩:=hc
  have hr:=h.2 i hi'
  refine⟨by rw[List.length_set];exact hr.1,λj' hj'=>?_⟩
  rw[Ao]
  split
  ·rename_i hc
   obtain⟨rfl,_⟩:=hc
   rw[List.length_set];exact hr.2 j hj'
  ·exact hr.2 j' hj'
 ·exact h.2 i' hi'
theorem Ig (h:Ok4 n s t) {i j x y:Nat} {b:Bool} (hi:i<n) (hj:j<n) (hx:x<s) (hy:y<s) (i' j' x' y':Nat):
  r4 (s4 t i j x y b) i' j' x' y'=if i=i'/\j=j'/\x=x'/\y=y' then b else r4 t i' j' x' y':=by
 obtain⟨h1,h2,h3,h4⟩:=h.at hi hj hx
 unfold r4 s4
 rw[Ao]
 by_cases e1:i=i'
 ·subst e1
  rw[if_pos ⟨rfl,h1⟩,Ao]
  by_cases e2:j=j'
  ·subst e2
   rw[if_pos ⟨rfl,h2⟩,Ao]
   by_cases e3:x=x'
   ·subst e3
    rw[if_pos ⟨rfl,h3⟩,Ao]
    by_cases e4:y=y'
    ·subst e4;rw[if_pos ⟨rfl,by omega⟩,if_pos ⟨rfl,rfl,rfl,rfl⟩]
    ·rw[if_neg (by omega),if_neg (by omega)]
   ·rw[if_neg (by omega),if_neg (by omega)]
  ·rw[if_neg (by omega),if_neg (by omega)]
 ·rw[if_neg (by omega),if_neg (by omega)]
theorem KE (h:Ok3 n m u) {i j p:Nat} {b:Bool} (hi:i<n) (hj:j<n) (hp:p<m) (i' j' p':Nat):
  r3 (s3 u i j p b) i' j' p'=if i=i'/\j=j'/\p=p' then b else r3 u i' j' p':=by
 obtain⟨h1,h2,h3⟩:=h.at hi hj
 unfold r3 s3
 rw[Ao]
 by_cases e1:i=i'
 ·subst e1
  rw[if_pos ⟨rfl,h1⟩,Ao]
  by_cases e2:j=j'
  ·subst e2
   rw[if_pos ⟨rfl,h2⟩,Ao]
   by_cases e3:p=p'
   ·subst e3;rw[if_pos ⟨rfl,by omega⟩,if_pos ⟨rfl,rfl,rfl⟩]
   ·rw[if_neg (by omega),if_neg (by omega)]
  ·rw[if_neg (by omega),if_neg (by omega)]
 ·rw[if_neg (by omega),if_neg (by omega)]
end
structure Rel34 (n s:Nat) (t:T4) (u:T3):Prop where
 o4:Ok4 n s t
 o3:Ok3 n (s*s) u
 eq: ∀i j x y,i<j->j<n->x<s->y<s->r4 t i j x y=r3 u i j (x*s+y)/\r4 t j i y x=r3 u i j (x*s+y)
theorem Jw {s x y:Nat} (hx:x<s) (hy:y<s):x*s+y<s*s:=by
 have:(x+1)*s<=s*s:=Nat.mul_le_mul_right _ hx
 rw[Nat.succ_mul]at this;omega
theorem IQ {s x y x' y':Nat} (hy:y<s) (hy':y'<s) (h:x*s+y=x'*s+y'):x=x'/\y=y':=by
 have h1:(x*s+y)/s=x:=by rw[Nat.mul_comm,Nat.mul_add_div (by omega),Nat.div_eq_of_lt hy];omega
 have h2:(x'*s+y')/s=x':=by rw[Nat.mul_comm,Nat.mul_add_div (by omega),Nat.div_eq_of_lt hy'];omega
 have:x=x':=by rw[←h1,←h2,h]
 subst this
 exact⟨rfl,by omega⟩
theorem Rel34.drop {n s:Nat} {t:T4} {u:T3} (h:Rel34 n s t u) {i j x y:Nat} (hij:i<j) (hj:j<n) (hx:x<s) (hy:y<s):
  Rel34 n s (s4 (s4 t i j x y false) j i y x false) (s3 u i j (x*s+y) false):=by
 refine⟨Ii (Ii h.o4),KH h.o3,λi' j' x' y' h1 h2 h3 h4=>?_⟩
 have hi:i<n:=by omega
 rw[Ig (Ii h.o4) hj hi hy hx,Ig h.o4 hi hj hx hy,Ig (Ii h.o4) hj hi hy hx,Ig h.o4 hi hj hx hy,KE h.o3 hi hj (Jw hx hy)]
 obtain⟨e1,e2⟩:=h.eq i' j' x' y' h1 h2 h3 h4
 by_cases e:i=i'/\j=j'/\x=x'/\y=y'
 ·obtain⟨rfl,rfl,rfl,rfl⟩:=e
  simp
 ·have e3: ¬(i=i'/\j=j'/\x*s+y=x'*s+y'):=λ⟨q1,q2,q3⟩=>by
   have:=IQ hy h4 q3
   exact e ⟨q1,q2,this.1,this.2⟩
  have e4: ¬(j=i'/\i=j'/\y=x'/\x=y'):=by omega
  have e5: ¬(i=j'/\j=i'/\x=y'/\y=x'):=by omega
  have e6: ¬(j=j'/\i=i'/\y=y'/\x=x'):=by omega
  simp only[if_neg e,if_neg e3,if_neg e4,if_neg e5,if_neg e6]
  exact⟨e1,e2⟩
end T
open Go Go.Va
namespace T
section
variable {a:Net} {n s:Nat} {t:T4} {u:T3}
def V2 (n i j x y:Nat):List Int:=((List.replicate n (0:Int)).set i (x:Int)).set j (y:Int)
def fB (a:Net) (n i j x y:Nat):Bool:=KU (KS a [(i:Int),(j:Int)]) (V2 n i j x y)
end
end T
open Go Go.Va
namespace T
section
variable {a:Net} {n s:Nat} {t:T4} {u:T3}
def PA (n s i:Nat) (t:T4):Prop:=t.length=n/\ ∀i',i'<i->Ku n s (t.getD i' [])
def PB (n s i j:Nat) (t:T4):Prop:=PA n s i t/\(t.getD i []).length=n/\ ∀j',j'<j->JX s ((t.getD i []).getD j' [])
theorem PA.set {i:Nat} (h:PA n s i t) (r:T3):PA n s i (t.set i r):=by
 refine⟨by rw[List.length_set];exact h.1,λi' hi'=>?_⟩
 rw[Ao,if_neg (by omega)];exact h.2 i' hi'
theorem PB.set {i j:Nat} (h:PB n s i j t) (hi:i<n) (c:List (List Bool)):PB n s i j (t.set i ((t.getD i []).set j c)):=by
 have hl:=h.1.1
 refine⟨h.1.set _,?_,λj' hj'=>?_⟩
 ·rw[Ao,if_pos ⟨rfl,by omega⟩,List.length_set];exact h.2.1
 ·rw[Ao,if_pos ⟨rfl,by omega⟩,Ao,if_neg (by omega)];exact h.2.2 j' hj'
end
end T
open Go Go.Va
namespace T
section
variable {a:Net} {n s:Nat} {t:T4} {u:T3}
def cI (o:List Nat):List Int:=o.map λx:Nat=>(x:Int)
end
end T
set_option linter.unusedVariables false
open Go Go.Va
namespace T
def CD:Nat->((List Int)×(List Int)×Int×Int)->Option ((List Int))
 |0,_=>none
 |n+1,(b,t10,t11,t12)=>
 if decide (t12<t11)then
 if inb t12 t10 then
 if(0:Int)<=8 then
 if b.length+ [IntKind.wrap .u8 (YiD .i64 (gd t10 t12 0) 8),IntKind.wrap .u8 (gd t10 t12 0)].length<=lim then
 CD n (b++ [IntKind.wrap .u8 (YiD .i64 (gd t10 t12 0) 8),IntKind.wrap .u8 (gd t10 t12 0)],t10,t11,w64 (t12+1))
 else none
 else none
 else none
 else
 some b
def DC (list:List Int):Option (ByteArray):=
 if(0:Int)<=0/\(0:Int)<=(w64 (2*(list.length:Int)))/\(w64 (2*(list.length:Int)))<=lim then
 (CD Aa (List.replicate (Int.toNat 0) (0:Int),list,(list.length:Int),0)).bind λs1=>
 some (Ybp s1)
 else none
def Cj:Nat->((List ByteArray)×(List (List Int))×Int×Int)->Option ((List ByteArray))
 |0,_=>none
 |n+1,(set,t8,t9,t10)=>
 if decide (t10<t9)then
 if inb t10 t8 then
 (DC (gd t8 t10 [])).bind λr1=>
 Cj n (YhI set r1,t8,t9,w64 (t10+1))
 else none
 else
 some set
def Ee (r:Int×(List (List Int))):Option ((List ByteArray)):=
 (Cj Aa ([],r.2,(r.2.length:Int),0)).bind λs1=>
 some s1
end T
open Go Go.Va
namespace T
def kb (l:List Int):List Int:=l.flatMap λx=> [0,x]
def GJ (l:List Int):ByteArray:=Ybp (kb l)
theorem HI {x:Int} (h0:0<=x) (h1:x<256):IntKind.wrap .u8 x=x:=by
 simp[IntKind.wrap,IntKind.bits,IntKind.signed]
 omega
theorem IE {x:Int} (h0:0<=x) (h1:x<256):YiD .i64 x 8=0:=by
 unfold YiD
 have:(min (8:Int).toNat IntKind.i64.bits)=8:=by decide
 rw[this,Int.fdiv_eq_ediv_of_nonneg _ (by decide)]
 have:(2:Int)^8=256:=by decide
 rw[this];omega
theorem Fj {l:List Int} (hl:l.length<=1048576) (hv: ∀x∈l,0<=x/\x<256):DC l=some (GJ l):=by
 unfold DC
 have e2:w64 (2*(l.length:Int))=2*(l.length:Int):=AP (by omega) (by omega)
 rw[e2,if_pos (by unfold lim;omega)]
 have kbl: ∀k,k<=l.length->(kb (l.take k)).length=2*k:=by
  intro k hk
  have: ∀l:List Int,(kb l).length=2*l.length:=by
   intro l
   induction l with
   |nil=>rfl
   |cons x l ih=>unfold kb at ih⊢;simp only[List.flatMap_cons,List.length_append,ih,List.length_cons,List.length_nil];omega
  rw[this];simp;omega
 have:=Co l.length (λm o i=>CD m (o,l,(l.length:Int),i)) (λk=>kb (l.take k)) (r:=some (kb l)) (λm k hk=>?_) (λm=>?_) (n:=Aa) (by unfold Aa;omega)
 ·have e0:kb (l.take 0)= []:=rfl
  rw[e0]at this
  have:CD Aa (List.replicate (Int.toNat 0) (0:Int),l,(l.length:Int),0)=some (kb l):=this
  rw[this];rfl
 ·have hx:=hv _ (List.getElem_mem hk)
  have hlen:=kbl k (by omega)
  have e:kb (l.take (k+1))=kb (l.take k)++ [0,l[k]]:=by
   unfold kb;rw[List.take_succ_eq_append_getElem hk,List.flatMap_append];simp
  simp only[CD,Af,Ae hk,Ad (show k<4611686018427387904 by omega),HI hx.1 hx.2,IE hx.1 hx.2,HI (show(0:Int)<=0 by omega) (show(0:Int)<256 by omega),e]
  rw[if_pos (by simp;omega),if_pos hk,if_pos (by omega),if_pos (by unfold lim;simp;omega)]
 ·simp only[CD,List.take_length]
  rw[if_neg (by simp)]
theorem Fo: ∀(xs:List Int) (s:ByteArray),(xs.foldl (λs n=>s.push (UInt8.ofNat n.toNat)) s).data=s.data++(xs.map λn=>UInt8.ofNat n.toNat).toArray
 | [],s=>by simp
 |x::xs,s=>by
  rw[List.foldl_cons,Fo xs]
  apply Array.ext'
  simp[ByteArray.push]
theorem I3: ∀(l l':List Int),(∀x∈l,0<=x/\x<256)->(∀x∈l',0<=x/\x<256)->(kb l).map (λn=>UInt8.ofNat n.toNat)=(kb l').map (λn=>UInt8.ofNat n.toNat)->l=l'
 | [],[],_,_,_=>rfl
 | [],y::l',_,_,h=>by simp[kb]at h
 |x::l,[],_,_,h=>by simp[kb]at h
 |x::l,y::l',hv,hv',h=>by
  simp only[kb,List.flatMap_cons,List.map_append,List.map_cons,List.map_nil,List.cons_append,List.nil_append,List.cons.injEq,true_and]at h
  obtain⟨h1,h2⟩:=h
  have hx:=hv x (by simp)
  have hy:=hv' y (by simp)
  have h1:=congrArg UInt8.toNat h1
  simp only[UInt8.toNat_ofNat']at h1
  have:x=y:=by omega
  rw[this,I3 l l' (λz hz=>hv z (List.mem_cons_of_mem _ hz)) (λz hz=>hv' z (List.mem_cons_of_mem _ hz)) h2]
theorem I4 {l l':List Int} (hv: ∀x∈l,0<=x/\x<256) (hv': ∀x∈l',0<=x/\x<256) (h:GJ l=GJ l'):l=l':=by
 have h:=congrArg ByteArray.data h
 unfold GJ Ybp at h
 rw[Fo,Fo]at h
 have h:=congrArg Array.toList h
 simp only[Array.toList_append]at h
 exact I3 l l' hv hv' (List.append_cancel_left h)
theorem IN {a b:ByteArray}:(a==b)=decide (a=b):=by
 show(a.data==b.data)=_
 rw[Bool.eq_iff_iff,beq_iff_eq,decide_eq_true_eq]
 exact⟨λh=>ByteArray.ext h,λh=>congrArg ByteArray.data h⟩
theorem Hu {ks:List ByteArray} {s:ByteArray}:Xs ks s=true↔s∈ks:=by
 unfold Xs
 rw[List.any_eq_true]
 constructor
 ·rintro ⟨k,h1,h2⟩;rw[IN,decide_eq_true_eq]at h2;subst h2;exact h1
 ·intro h;exact⟨s,h,by rw[IN];simp⟩
theorem Jd {ks:List ByteArray} {s t:ByteArray}:t∈YhI ks s↔t∈ks∨t=s:=by
 unfold YhI
 by_cases h:Xs ks s=true
 ·rw[if_pos h]
  exact⟨.inl,λh'=>h'.elim id λe=>e▸Hu.1 h⟩
 ·rw[if_neg h];simp
def Ef (l:List (List Int)):List ByteArray:=l.foldl (λks t=>YhI ks (GJ t)) []
theorem I5 {l:List (List Int)} {s:ByteArray}:s∈Ef l↔ ∃t∈l,s=GJ t:=by
 have key: ∀(l:List (List Int)) (ks:List ByteArray),s∈l.foldl (λks t=>YhI ks (GJ t)) ks↔s∈ks∨ ∃t∈l,s=GJ t:=by
  intro l
  induction l with
  |nil=>intro ks;simp
  |cons t l ih=>
   intro ks
   rw[List.foldl_cons,ih,Jd]
   simp only[List.mem_cons,exists_eq_or_imp,or_assoc]
 unfold Ef;rw[key];simp
theorem FV {r:Int×List (List Int)} (hl:r.2.length<=1048576) (hv: ∀t∈r.2,t.length<=1048576/\ ∀x∈t,0<=x/\x<256):Ee r=some (Ef r.2):=by
 unfold Ee
 have:=Co r.2.length (λm o i=>Cj m (o,r.2,(r.2.length:Int),i)) (λk=>Ef (r.2.take k)) (r:=some (Ef r.2)) (λm k hk=>?_) (λm=>?_) (n:=Aa) (by unfold Aa;omega)
 ·have e0:Ef (r.2.take 0)= []:=rfl
  rw[e0]at this
  simp only[this,Option.bind_some]
 ·obtain⟨h1,h2⟩:=hv _ (List.getElem_mem hk)
  have e:Ef (r.2.take (k+1))=YhI (Ef (r.2.take k)) (GJ r.2[k]):=by
   unfold Ef;rw[List.take_succ_eq_append_getElem hk,List.foldl_append];rfl
  simp only[Cj,Af,Ae hk,Ad (show k<4611686018427387904 by omega),Fj h1 h2,Option.bind_some,e]
  rw[if_pos (by simp;omega),if_pos hk]
 ·simp only[Cj,List.take_length]
  rw[if_neg (by simp)]
theorem Iv {l:List (List Int)} {t:List Int} (hl: ∀t∈l,∀x∈t,0<=x/\x<256) (ht: ∀x∈t,0<=x/\x<256):Xs (Ef l) (GJ t)=decide (t∈l):=by
 rw[Bool.eq_iff_iff,Hu,decide_eq_true_eq,I5]
 constructor
 ·rintro ⟨u,h1,h2⟩;rw[I4 ht (hl u h1) h2];exact h1
 ·intro h;exact⟨t,h,rfl⟩
def dg (b:Nat):Nat->Nat->List Nat
 |0,_=> []
 |k+1,i=>dg b k (i/b)++ [i%b]
theorem IT {b:Nat}: ∀ {k i:Nat},(dg b k i).length=k
 |0,_=>rfl
 |k+1,i=>by simp[dg,IT (k:=k)]
theorem IP {o:List Nat}:(cI o).length=o.length:=by unfold cI;simp
end T
set_option linter.unusedVariables false
open Go Go.Va
namespace T
def B6:Nat->(Int×(List Int)×Int)->Option ((List Int))
 |0,_=>none
 |n+1,(size,out,i)=>
 if decide (i<size)then
 if out.length+ [(-1)].length<=lim then
 B6 n (size,out++ [(-1)],w64 (i+1))
 else none
 else
 some out
def Ey (size:Int):Option ((List Int)):=
 (B6 Aa (size,[],0)).bind λs1=>
 some s1
def CP:Nat->(Int×Int×(List Int)×Int)->Option ((List Int))
 |0,_=>none
 |n+1,(n_,at_,out,i)=>
 if decide (i≥0)then
 if n_≠0 then
 if inb i out then
 if n_≠0 then
 CP n (n_,w64 (Int.tdiv at_ n_),stt out i (Int.tmod at_ n_),w64 (i-1))
 else none
 else none
 else none
 else
 some out
def E5 (n_:Int) (arity:Int) (at_:Int):Option ((List Int)):=
 if 0<=arity/\arity<=arity/\arity<=lim then
 (CP Aa (n_,at_,List.replicate (Int.toNat arity) (0:Int),w64 (arity-1))).bind λs1=>
 some s1
 else none
def Cp (a:Int) (b:Int):Option (Int):=
 if decide (a>b)then
 some a
 else
 some b
def BI:Nat->((List Int)×Int×Int)->Option ((List Int))
 |0,_=>none
 |n+1,(list,t8,t9)=>
 if decide (t9<t8)then
 if inb t9 list then
 BI n (stt list t9 (-1),t8,w64 (t9+1))
 else none
 else
 some list
def D3 (many:Int):Option ((List Int)):=
 if 0<=many/\many<=many/\many<=lim then
 (BI Aa (List.replicate (Int.toNat many) (0:Int),((List.replicate (Int.toNat many) (0:Int)).length:Int),0)).bind λs1=>
 some s1
 else none
end T
open Go Go.Va
namespace T
theorem KJ {a b:Nat} (ha:a<4611686018427387904):w64 (Int.tdiv (a:Int) (b:Int))=((a/b:Nat):Int):=by
 rw[Int.tdiv_eq_ediv_of_nonneg (by omega),←Int.natCast_ediv]
 have:=Nat.div_le_self a b
 generalize a/b=q at this
 exact AP (by omega) (by omega)
theorem KM {a b:Nat}:Int.tmod (a:Int) (b:Int)=((a%b:Nat):Int):=by
 rw[Int.tmod_eq_emod_of_nonneg (by omega),←Int.natCast_emod]
section
variable {n:Nat}
end
end T
open Go Go.Va
namespace T
abbrev D1:=Int×List (List Int)
theorem Ka {l:List Nat} {s:List Nat} {x y:Nat}:(cI (l++x::s)).set l.length (y:Int)=cI (l++y::s):=by
 unfold cI
 rw[List.map_append,List.map_append,List.map_cons,List.map_cons,List.set_append_right _ _ (by simp)]
 simp
theorem Iu {b:Nat} (hb:0<b): ∀(j i f:Nat) (s:List Nat),j<f->i<4611686018427387904->j<=1000->
  CP f ((b:Int),(i:Int),cI (List.replicate j 0++s),(j:Int)-1)=some (cI (dg b j i++s)):=by
 intro j
 induction j with
 |zero=>
  intro i f s hf hi hj
  obtain⟨f,rfl⟩: ∃z,f=z+1:=⟨f-1,by omega⟩
  simp only[CP]
  rw[if_neg (by simp)];rfl
 |succ j ih=>
  intro i f s hf hi hj
  obtain⟨f,rfl⟩: ∃z,f=z+1:=⟨f-1,by omega⟩
  have e1:((j+1:Nat):Int)-1=(j:Int):=by omega
  have hz:List.replicate (j+1) 0++s=List.replicate j 0++0::s:=by rw[List.replicate_succ'];simp
  have hlen:j<(cI (List.replicate j 0++0::s)).length:=by rw[IP];simp
  have hset:=Ka (l:=List.replicate j 0) (s:=s) (x:=0) (y:=i%b)
  rw[List.length_replicate]at hset
  have w2:w64 ((j:Int)-1)=(j:Int)-1:=AP (by omega) (by omega)
  have hle:=Nat.div_le_self i b
  rw[e1,hz]
  simp only[CP,KJ hi,KM,Af,hlen,BS,hset,w2]
  rw[if_pos (by simp),if_pos (by omega),if_pos trivial,if_pos (by omega),ih (i/b) f _ (by omega) (by omega) (by omega)]
  simp[dg]
theorem Gz {b k i:Nat} (hb:0<b) (hk:k<=1000) (hi:i<4611686018427387904):E5 (b:Int) (k:Int) (i:Int)=some (cI (dg b k i)):=by
 have h:=Iu hb k i Aa [] (by unfold Aa;omega) hi hk
 have e:cI (List.replicate k 0++ [])=List.replicate (Int.toNat (k:Int)) (0:Int):=by unfold cI;simp
 rw[e,List.append_nil]at h
 unfold E5
 rw[AP (x:=(k:Int)-1) (by omega) (by omega),h,if_pos (by unfold lim;omega)];rfl
section
variable {n k m:Nat} {r:D1}
end
end T
open Go Go.Va
namespace T
section
variable {n k m:Nat} {r:D1} {rels:List D1}
theorem Gc (a b:Nat):Cp (a:Int) (b:Int)=some ((max a b:Nat):Int):=by
 unfold Cp
 by_cases h:(a:Int)>(b:Int)
 ·rw[if_pos (by simpa using h)];congr 2;omega
 ·rw[if_neg (by simpa using h)];congr 2;omega
end
end T
open Go Go.Va
namespace T
def Cc {σ:Type} (cb:List Int->σ->Option (σ×Bool)):List (List Int)->σ->Option (σ×Bool)
 | [],s=>some (s,true)
 |t::l,s=>match cb t s with|some (s',true)=>Cc cb l s'|some (s',false)=>some (s',false)|none=>none
theorem Es {σ:Type} {cb:List Int->σ->Option (σ×Bool)}: ∀(l l':List (List Int)) (s:σ),Cc cb (l++l') s=match Cc cb l s with|some (s',true)=>Cc cb l' s'|some (s',false)=>some (s',false)|none=>none
 | [],l',s=>rfl
 |t::l,l',s=>by
  simp only[List.cons_append,Cc]
  cases hc:cb t s with
  |none=>rfl
  |some q=>
   obtain⟨s',b⟩:=q
   cases b with
   |false=>rfl
   |true=>exact Es l l' s'
def D9 (given:List Int) (at' x:Nat):Bool:=!(decide (given.getD at' 0≥0)&&given.getD at' 0 !=(x:Int))
def Dw (n:Nat) (given:List Int) (ok:List Int->Bool):Nat->List Int->List (List Int)
 |0,pre=> [pre]
 |m+1,pre=>(List.range n).flatMap λx=>if D9 given pre.length x&&ok (pre++ [(x:Int)])then Dw n given ok m (pre++ [(x:Int)])else []
section
variable {n k:Nat} {rels:List D1} {given:List Int}
end
end T
open Go Go.Va
namespace T
section
variable {n k:Nat} {rels:List D1} {given:List Int}
theorem H6 {ok:List Int->Bool}: ∀(m:Nat) (pre:List Int),(Dw n given ok m pre).length<=n^m
 |0,pre=>by simp[Dw]
 |m+1,pre=>by
  simp only[Dw]
  have key: ∀(l:List Nat),(l.flatMap λx=>if D9 given pre.length x&&ok (pre++ [(x:Int)])then Dw n given ok m (pre++ [(x:Int)])else []).length<=l.length*n^m:=by
   intro l
   induction l with
   |nil=>simp
   |cons x l ih=>
    rw[List.flatMap_cons,List.length_append,List.length_cons,Nat.succ_mul]
    have:(if D9 given pre.length x&&ok (pre++ [(x:Int)])then Dw n given ok m (pre++ [(x:Int)])else []).length<=n^m:=by
     split
     ·exact H6 m _
     ·simp
    omega
  have:=key (List.range n)
  rw[List.length_range]at this
  rw[Nat.pow_succ,Nat.mul_comm]
  exact this
theorem H7 {ok:List Int->Bool}: ∀(m:Nat) (pre t:List Int),t∈Dw n given ok m pre->t.length=pre.length+m/\((∀x∈pre,0<=x/\x<(n:Int))-> ∀x∈t,0<=x/\x<(n:Int))
 |0,pre,t,h=>by simp only[Dw,List.mem_singleton]at h;subst h;exact⟨rfl,λh=>h⟩
 |m+1,pre,t,h=>by
  simp only[Dw,List.mem_flatMap]at h
  obtain⟨x,hx,h⟩:=h
  have hx:=List.mem_range.1 hx
  split at h
  ·obtain⟨h1,h2⟩:=H7 m _ t h
   refine⟨by rw[h1];simp;omega,λhp=>h2 λy hy=>?_⟩
   rcases List.mem_append.1 hy with h3|h3
   ·exact hp y h3
   ·rw[List.mem_singleton.1 h3];omega
  ·simp at h
end
end T
open Go Go.Va
namespace T
theorem IY {N:Nat} (h:N<=1000):D3 (N:Int)=some (List.replicate N (-1)):=by
 unfold D3
 rw[Int.toNat_natCast,if_pos (by unfold lim;omega)]
 have:=Co N (λf o i=>BI f (o,((List.replicate N (0:Int)).length:Int),i)) (λj=>List.replicate j (-1)++List.replicate (N-j) (0:Int)) (r:=some (List.replicate N (-1))) (λf j hj=>?_) (λf=>?_) (n:=Aa) (by unfold Aa;omega)
 ·have this:BI Aa (List.replicate N (0:Int),((List.replicate N (0:Int)).length:Int),0)=_:=this
  rw[this];rfl
 ·have hin:j<(List.replicate j (-1)++List.replicate (N-j) (0:Int)).length:=by simp;omega
  have e:(List.replicate j (-1)++List.replicate (N-j) (0:Int)).set j (-1)=List.replicate (j+1) (-1)++List.replicate (N-(j+1)) (0:Int):=by
   rw[show N-j=(N-(j+1))+1 by omega,List.replicate_succ,List.set_append_right _ _ (by simp),List.replicate_succ']
   simp
  simp only[BI,Af,hin,BS,e,if_true,Ad (show j<4611686018427387904 by omega)]
  rw[if_pos (by simp;omega)]
 ·simp only[BI]
  rw[if_neg (by simp)];simp
theorem IZ {N:Nat} (h:N<=1000):Ey (N:Int)=some (List.replicate N (-1)):=by
 unfold Ey
 have:=Co N (λf o i=>B6 f ((N:Int),o,i)) (λj=>List.replicate j (-1)) (r:=some (List.replicate N (-1))) (λf j hj=>?_) (λf=>?_) (n:=Aa) (by unfold Aa;omega)
 ·have this:B6 Aa ((N:Int),[],0)=_:=this
  rw[this];rfl
 ·simp only[B6,List.replicate_succ',Ad (show j<4611686018427387904 by omega)]
  rw[if_pos (by simp;omega),if_pos (by simp;unfold lim;omega)]
 ·simp only[B6]
  rw[if_neg (by simp)]
end T
open Go Go.Va
namespace T
section
variable {n:Int} {rels:List D1}
end
def Ga (V:List Int) (x:Nat):Int:=match V.findIdx? (λy=>y==(x:Int))with|some i=>(i:Int)|none=> -1
section
variable {n:Nat} {t:List Int}
end
section
variable {n m:Nat} {t:List Int} {r:D1} {rels:List D1}
end
end T
open Go Go.Va
namespace T
section
variable {α:Type} {nw old:Nat->α} {N i:Nat}
end
def pr4 (p:Int):Prop:=p=2∨p=3∨p=5∨p=7
def Ie (p:Int) (W:Nat) (r:List Int):Prop:=r.length=W/\ ∀x∈r,0<=x/\x<p
section
variable {p:Int} {W:Nat} {r row:List Int}
theorem Km (h:Ie p W r) {i:Nat} (hi:i<W):0<=r.getD i 0/\r.getD i 0<p:=by
 have:i<r.length:=by rw[h.1];exact hi
 rw[Ab this];exact h.2 _ (List.getElem_mem this)
end
abbrev ES:=List (List Int)×List Int×List (List Int)
structure ESok (p:Int) (W N v:Nat) (s:ES):Prop where
 t: ∀r∈s.1,Ie p W r
 l: ∀r∈s.2.2,Ie p W r
 bl:s.2.1.length=s.1.length
 n:s.1.length+s.2.2.length=N
 bv: ∀x∈s.2.1,0<=x/\x<(v:Int)
 bn:s.2.1.Nodup
section
variable {p:Int} {W N:Nat}
end
end T
open Go Go.Va
namespace T
section
variable {p:Int} {W N V:Nat}
theorem Iz {b:List Int} {u:Nat} (h:(u:Int)∉b):Ga b u= -1:=by
 unfold Ga
 have h1:(b.findIdx? λy=>y==(u:Int))=none:=by
  rw[List.findIdx?_eq_none_iff]
  intro y hy
  simp only[beq_eq_false_iff_ne]
  intro e;exact h (e▸hy)
 rw[h1]
theorem If {b:List Int} {u:Nat} (h:(u:Int)∈b): ∃i,∃hi:i<b.length,Ga b u=(i:Int)/\b[i]=(u:Int):=by
 unfold Ga
 have h1:(b.findIdx? λy=>y==(u:Int)).isSome=true:=by
  rw[List.findIdx?_isSome,List.any_eq_true]
  exact⟨_,h,by simp⟩
 obtain⟨i,hi⟩:=Option.isSome_iff_exists.1 h1
 rw[hi]
 obtain⟨g1,g2,_⟩:=List.findIdx?_eq_some_iff_getElem.1 hi
 exact⟨i,g1,rfl,by simpa using g2⟩
end
end T
open Go Go.Va
namespace T
def Kz (N:Nat) (b:List Int):List Int:=((List.range N).filter λv:Nat=>!decide ((v:Int)∈b)).map λv:Nat=>(v:Int)
section
variable {p:Int} {W N V:Nat}
theorem Jg {b:List Int} {u:Nat}:Ga b u<0↔(u:Int)∉b:=by
 by_cases h:(u:Int)∈b
 ·obtain⟨i,hi,h1,_⟩:=If h
  rw[h1];simp[h]
 ·rw[Iz h];simp[h]
def Jl (V:Nat) (s:ES) (u:Nat):Int:=if Ga s.2.1 u<0 then 0 else(s.1.getD (Ga s.2.1 u).toNat []).getD V 0
def KI (V:Nat) (s:ES):List Int:=(List.range V).map (Jl V s)
end
end T
open Go Go.Va
namespace T
def cg (p a b:Int):Prop:= ∃k,a=b+p*k
section
variable {p a b c d:Int}
theorem H3 (h:a=b):cg p a b:=⟨0,by rw[h];simp⟩
theorem Kb (h:cg p a b) (g:cg p c d):cg p (a+c) (b+d):=by obtain⟨k,h⟩:=h;obtain⟨m,g⟩:=g;exact⟨k+m,by grind⟩
theorem Kc (x:Int) (h:cg p a b):cg p (x*a) (x*b):=by obtain⟨k,h⟩:=h;exact⟨x*k,by grind⟩
end
inductive Sp (p:Int) (V:Nat) (A:List (List Int)):(Nat->Int)->Prop
 |zero:Sp p V A λ_=>0
 |add {f:Nat->Int} (r:List Int) (c:Int):r∈A->Sp p V A f->Sp p V A λi=>f i+c*r.getD i 0
 |cgr {f g:Nat->Int}:Sp p V A f->(∀i,i<V->cg p (g i) (f i))->Sp p V A g
section
variable {p:Int} {V W N:Nat} {A B:List (List Int)} {f g:Nat->Int}
theorem Sp.lin (hf:Sp p V A f) (hg:Sp p V A g) (c:Int):Sp p V A λi=>f i+c*g i:=by
 induction hg with
 |zero=>exact hf.cgr λi _=>H3 (by simp)
 |add r d hr _ ih=>exact(ih.add r (c*d) hr).cgr λi _=>H3 (by grind)
 |cgr _ h ih=>exact ih.cgr λi hi=>Kb (H3 rfl) (Kc c (h i hi))
theorem Sp.mem {r:List Int} (h:r∈A):Sp p V A λi=>r.getD i 0:=(Sp.add r 1 h .zero).cgr λi _=>H3 (by simp)
theorem Sp.sub (h: ∀r∈A,Sp p V B λi=>r.getD i 0) (hf:Sp p V A f):Sp p V B f:=by
 induction hf with
 |zero=>exact .zero
 |add r c hr _ ih=>exact ih.lin (h r hr) c
 |cgr _ h ih=>exact ih.cgr h
def eqSp (p:Int) (V:Nat) (A B:List (List Int)):Prop:= ∀f,Sp p V A f↔Sp p V B f
theorem Jy (h: ∀r∈A,Sp p V B λi=>r.getD i 0) (g: ∀r∈B,Sp p V A λi=>r.getD i 0):eqSp p V A B:=λ_=>⟨Sp.sub h,Sp.sub g⟩
end
end T
open Go Go.Va
namespace T
section
variable {p:Int} {V W N:Nat} {A B:List (List Int)} {f g:Nat->Int}
theorem FH {α:Type} {l:List α} {i:Nat} {d:α} (hi:i<l.length):l.getD i d∈l:=by rw[Ab hi];exact List.getElem_mem hi
end
end T
open Go Go.Va
namespace T
section
variable {p:Int} {V W N:Nat} {A B C D:List (List Int)} {f g:Nat->Int}
theorem eqSp.symm (h:eqSp p V A B):eqSp p V B A:=λf=>(h f).symm
theorem eqSp.trans (h:eqSp p V A B) (g:eqSp p V B C):eqSp p V A C:=λf=>(h f).trans (g f)
theorem eqSp.app (h:eqSp p V A B):eqSp p V (A++C) (B++C):=by
 have key: ∀ {A B:List (List Int)},eqSp p V A B-> ∀r∈A++C,Sp p V (B++C) λi=>r.getD i 0:=fun {A B} h r hr=>by
  rcases List.mem_append.1 hr with hr|hr
  ·exact Sp.sub (λq hq=>Sp.mem (List.mem_append_left _ hq)) ((h _).1 (Sp.mem hr))
  ·exact Sp.mem (List.mem_append_right _ hr)
 exact Jy (key h) (key h.symm)
end
end T
open Go Go.Va
namespace T
def i64 (x:Int):Prop:= -9223372036854775808<=x/\x<=9223372036854775807
section
variable {c:List Int} {ar:Int}
end
end T
set_option linter.unusedVariables false
open Go Go.Va
namespace T
def B8:Nat->((List ((List Int)×Int×(List (List Int))))×(List (List ((List Int)×Int×(List (List Int)))))×Int×Int×Int)->Option ((List ((List Int)×Int×(List (List Int))))×(List (List ((List Int)×Int×(List (List Int)))))×Int×Int)
 |0,_=>none
 |n+1,(list,out,i,most,k)=>
 if inb i list then
 if decide (k<(((gd list i ([],(0,[]))).1).length:Int))then
 if inb i list then
 if inb k ((gd list i ([],(0,[]))).1)then
 (Cp most (gd ((gd list i ([],(0,[]))).1) k 0)).bind λr1=>
 B8 n (list,out,i,r1,w64 (k+1))
 else none
 else none
 else
 some (list,out,i,most)
 else none
def B7:Nat->((List ((List Int)×Int×(List (List Int))))×(List (List ((List Int)×Int×(List (List Int)))))×Int)->Option ((List (List ((List Int)×Int×(List (List Int))))))
 |0,_=>none
 |n+1,(list,out,i)=>
 if decide (i<(list.length:Int))then
 (B8 Aa (list,out,i,0,0)).bind λs1=>
 if inb s1.2.2.2 s1.2.1 then
 if inb s1.2.2.1 s1.1 then
 if(gd s1.2.1 s1.2.2.2 []).length+ [gd s1.1 s1.2.2.1 ([],(0,[]))].length<=lim then
 if inb s1.2.2.2 s1.2.1 then
 if s1.2.2.2=s1.2.2.2 then
 B7 n (s1.1,stt s1.2.1 s1.2.2.2 ((gd s1.2.1 s1.2.2.2 [])++ [gd s1.1 s1.2.2.1 ([],(0,[]))]),w64 (s1.2.2.1+1))
 else none
 else none
 else none
 else none
 else none
 else
 some out
def Ez (vars:Int) (list:List ((List Int)×Int×(List (List Int)))):Option ((List (List ((List Int)×Int×(List (List Int)))))):=
 if 0<=vars/\vars<=vars/\vars<=lim then
 (B7 Aa (list,List.replicate (Int.toNat vars) ([]:List ((List Int)×Int×(List (List Int)))),0)).bind λs1=>
 some s1
 else none
def AA (rec:(Int×(List (List ((List Int)×Int×(List (List Int)))))×(List Int)×(List Int)×((List (List Int))×(Int×Int×Bool)))->Option (((List (List Int))×(Int×Int×Bool)))):Nat->(Int×(List (List ((List Int)×Int×(List (List Int)))))×(List Int)×(List Int)×((List (List Int))×(Int×Int×Bool))×((List (List Int))×(Int×Int×Bool))×Int×Int×(List Int)×Bool×Int)->Option (Int×(List (List ((List Int)×Int×(List (List Int)))))×(List Int)×(List Int)×((List (List Int))×(Int×Int×Bool))×((List (List Int))×(Int×Int×Bool))×Int×Int×(List Int)×Bool)
 |0,_=>none
 |n+1,(t0,t1,t2,t3,t9,t10,t11,t12,t13,t14,t15)=>
 if inb t11 t1 then
 if decide (t15<((gd t1 t11 []).length:Int))then
 if t14 then
 if inb t11 t1 then
 if inb t15 (gd t1 t11 [])then
 (Ds (gd (gd t1 t11 []) t15 ([],(0,[]))) t13).bind λr3=>
 AA rec n (t0,t1,t2,t3,(t9.1,(t9.2.1,(t9.2.2.1,t9.2.2.2))),(t10.1,(t10.2.1,(t10.2.2.1,t10.2.2.2))),t11,t12,t13,r3,w64 (t15+1))
 else none
 else none
 else
 some (t0,t1,t2,t3,(t9.1,(t9.2.1,(t9.2.2.1,t9.2.2.2))),(t10.1,(t10.2.1,(t10.2.2.1,t10.2.2.2))),t11,t12,t13,t14)
 else
 some (t0,t1,t2,t3,(t9.1,(t9.2.1,(t9.2.2.1,t9.2.2.2))),(t10.1,(t10.2.1,(t10.2.2.1,t10.2.2.2))),t11,t12,t13,t14)
 else none
def An (rec:(Int×(List (List ((List Int)×Int×(List (List Int)))))×(List Int)×(List Int)×((List (List Int))×(Int×Int×Bool)))->Option (((List (List Int))×(Int×Int×Bool)))):Nat->(Int×(List (List ((List Int)×Int×(List (List Int)))))×(List Int)×(List Int)×((List (List Int))×(Int×Int×Bool))×((List (List Int))×(Int×Int×Bool))×Int×Int)->Option (((List (List Int))×(Int×Int×Bool))×((List (List Int))×(Int×Int×Bool)))
 |0,_=>none
 |n+1,(t0,t1,t2,t3,t9,t10,t11,t12)=>
 if decide (t12<t0)then
 if t9.2.2.2 then
 if !(decide (t9.2.1>0))then
 if inb t11 t2 then
 if decide ((gd t2 t11 0)≥0)then
 if inb t11 t2 then
 if(gd t2 t11 0) !=t12 then
 An rec n (t0,t1,t2,t3,(t9.1,(t9.2.1,(t9.2.2.1,t9.2.2.2))),(t10.1,(t10.2.1,(t10.2.2.1,t10.2.2.2))),t11,w64 (t12+1))
 else
 (BT t3).bind λr2=>
 if r2.length+ [t12].length<=lim then
 (AA rec Aa (t0,t1,t2,t3,(t9.1,(t9.2.1,(t9.2.2.1,t9.2.2.2))),(t10.1,(t10.2.1,(t10.2.2.1,t10.2.2.2))),t11,t12,r2++ [t12],true,0)).bind λs3=>
 if s3.2.2.2.2.2.2.2.2.2 then
 (rec (s3.1,s3.2.1,s3.2.2.1,s3.2.2.2.2.2.2.2.2.1,(s3.2.2.2.2.1.1,(s3.2.2.2.2.1.2.1,(s3.2.2.2.2.1.2.2.1,s3.2.2.2.2.1.2.2.2))))).bind λr4=>
 An rec n (s3.1,s3.2.1,s3.2.2.1,s3.2.2.2.1,(r4.1,(r4.2.1,(r4.2.2.1,r4.2.2.2))),(s3.2.2.2.2.2.1.1,(s3.2.2.2.2.2.1.2.1,(s3.2.2.2.2.2.1.2.2.1,s3.2.2.2.2.2.1.2.2.2))),s3.2.2.2.2.2.2.1,w64 (s3.2.2.2.2.2.2.2.1+1))
 else
 An rec n (s3.1,s3.2.1,s3.2.2.1,s3.2.2.2.1,(s3.2.2.2.2.1.1,(s3.2.2.2.2.1.2.1,(s3.2.2.2.2.1.2.2.1,s3.2.2.2.2.1.2.2.2))),(s3.2.2.2.2.2.1.1,(s3.2.2.2.2.2.1.2.1,(s3.2.2.2.2.2.1.2.2.1,s3.2.2.2.2.2.1.2.2.2))),s3.2.2.2.2.2.2.1,w64 (s3.2.2.2.2.2.2.2.1+1))
 else none
 else none
 else
 (BT t3).bind λr5=>
 if r5.length+ [t12].length<=lim then
 (AA rec Aa (t0,t1,t2,t3,(t9.1,(t9.2.1,(t9.2.2.1,t9.2.2.2))),(t10.1,(t10.2.1,(t10.2.2.1,t10.2.2.2))),t11,t12,r5++ [t12],true,0)).bind λs6=>
 if s6.2.2.2.2.2.2.2.2.2 then
 (rec (s6.1,s6.2.1,s6.2.2.1,s6.2.2.2.2.2.2.2.2.1,(s6.2.2.2.2.1.1,(s6.2.2.2.2.1.2.1,(s6.2.2.2.2.1.2.2.1,s6.2.2.2.2.1.2.2.2))))).bind λr7=>
 An rec n (s6.1,s6.2.1,s6.2.2.1,s6.2.2.2.1,(r7.1,(r7.2.1,(r7.2.2.1,r7.2.2.2))),(s6.2.2.2.2.2.1.1,(s6.2.2.2.2.2.1.2.1,(s6.2.2.2.2.2.1.2.2.1,s6.2.2.2.2.2.1.2.2.2))),s6.2.2.2.2.2.2.1,w64 (s6.2.2.2.2.2.2.2.1+1))
 else
 An rec n (s6.1,s6.2.1,s6.2.2.1,s6.2.2.2.1,(s6.2.2.2.2.1.1,(s6.2.2.2.2.1.2.1,(s6.2.2.2.2.1.2.2.1,s6.2.2.2.2.1.2.2.2))),(s6.2.2.2.2.2.1.1,(s6.2.2.2.2.2.1.2.1,(s6.2.2.2.2.2.1.2.2.1,s6.2.2.2.2.2.1.2.2.2))),s6.2.2.2.2.2.2.1,w64 (s6.2.2.2.2.2.2.2.1+1))
 else none
 else none
 else
 some ((t9.1,(t9.2.1,(t9.2.2.1,t9.2.2.2))),(t10.1,(t10.2.1,(t10.2.2.1,t10.2.2.2))))
 else
 if !false then
 if inb t11 t2 then
 if decide ((gd t2 t11 0)≥0)then
 if inb t11 t2 then
 if(gd t2 t11 0) !=t12 then
 An rec n (t0,t1,t2,t3,(t9.1,(t9.2.1,(t9.2.2.1,t9.2.2.2))),(t10.1,(t10.2.1,(t10.2.2.1,t10.2.2.2))),t11,w64 (t12+1))
 else
 (BT t3).bind λr8=>
 if r8.length+ [t12].length<=lim then
 (AA rec Aa (t0,t1,t2,t3,(t9.1,(t9.2.1,(t9.2.2.1,t9.2.2.2))),(t10.1,(t10.2.1,(t10.2.2.1,t10.2.2.2))),t11,t12,r8++ [t12],true,0)).bind λs9=>
 if s9.2.2.2.2.2.2.2.2.2 then
 (rec (s9.1,s9.2.1,s9.2.2.1,s9.2.2.2.2.2.2.2.2.1,(s9.2.2.2.2.1.1,(s9.2.2.2.2.1.2.1,(s9.2.2.2.2.1.2.2.1,s9.2.2.2.2.1.2.2.2))))).bind λr10=>
 An rec n (s9.1,s9.2.1,s9.2.2.1,s9.2.2.2.1,(r10.1,(r10.2.1,(r10.2.2.1,r10.2.2.2))),(s9.2.2.2.2.2.1.1,(s9.2.2.2.2.2.1.2.1,(s9.2.2.2.2.2.1.2.2.1,s9.2.2.2.2.2.1.2.2.2))),s9.2.2.2.2.2.2.1,w64 (s9.2.2.2.2.2.2.2.1+1))
 else
 An rec n (s9.1,s9.2.1,s9.2.2.1,s9.2.2.2.1,(s9.2.2.2.2.1.1,(s9.2.2.2.2.1.2.1,(s9.2.2.2.2.1.2.2.1,s9.2.2.2.2.1.2.2.2))),(s9.2.2.2.2.2.1.1,(s9.2.2.2.2.2.1.2.1,(s9.2.2.2.2.2.1.2.2.1,s9.2.2.2.2.2.1.2.2.2))),s9.2.2.2.2.2.2.1,w64 (s9.2.2.2.2.2.2.2.1+1))
 else none
 else none
 else
 (BT t3).bind λr11=>
 if r11.length+ [t12].length<=lim then
 (AA rec Aa (t0,t1,t2,t3,(t9.1,(t9.2.1,(t9.2.2.1,t9.2.2.2))),(t10.1,(t10.2.1,(t10.2.2.1,t10.2.2.2))),t11,t12,r11++ [t12],true,0)).bind λs12=>
 if s12.2.2.2.2.2.2.2.2.2 then
 (rec (s12.1,s12.2.1,s12.2.2.1,s12.2.2.2.2.2.2.2.2.1,(s12.2.2.2.2.1.1,(s12.2.2.2.2.1.2.1,(s12.2.2.2.2.1.2.2.1,s12.2.2.2.2.1.2.2.2))))).bind λr13=>
 An rec n (s12.1,s12.2.1,s12.2.2.1,s12.2.2.2.1,(r13.1,(r13.2.1,(r13.2.2.1,r13.2.2.2))),(s12.2.2.2.2.2.1.1,(s12.2.2.2.2.2.1.2.1,(s12.2.2.2.2.2.1.2.2.1,s12.2.2.2.2.2.1.2.2.2))),s12.2.2.2.2.2.2.1,w64 (s12.2.2.2.2.2.2.2.1+1))
 else
 An rec n (s12.1,s12.2.1,s12.2.2.1,s12.2.2.2.1,(s12.2.2.2.2.1.1,(s12.2.2.2.2.1.2.1,(s12.2.2.2.2.1.2.2.1,s12.2.2.2.2.1.2.2.2))),(s12.2.2.2.2.2.1.1,(s12.2.2.2.2.2.1.2.1,(s12.2.2.2.2.2.1.2.2.1,s12.2.2.2.2.2.1.2.2.2))),s12.2.2.2.2.2.2.1,w64 (s12.2.2.2.2.2.2.2.1+1))
 else none
 else none
 else
 some ((t9.1,(t9.2.1,(t9.2.2.1,t9.2.2.2))),(t10.1,(t10.2.1,(t10.2.2.1,t10.2.2.2))))
 else
 some ((t9.1,(t9.2.1,(t9.2.2.1,t9.2.2.2))),(t10.1,(t10.2.1,(t10.2.2.1,t10.2.2.2))))
def DS (rec:(Int×(List (List ((List Int)×Int×(List (List Int)))))×(List Int)×(List Int)×((List (List Int))×(Int×Int×Bool)))->Option (((List (List Int))×(Int×Int×Bool)))) (t0:Int) (t1:List (List ((List Int)×Int×(List (List Int))))) (t2:List Int) (t3:List Int) (t4:(List (List Int))×(Int×Int×Bool)):Option (((List (List Int))×(Int×Int×Bool))):=
 if(t3.length:Int)==(t1.length:Int)then
 if decide ((t4.1.length:Int)<t4.2.2.1)then
 (BT t3).bind λr1=>
 if t4.1.length+ [r1].length<=lim then
 some (t4.1++ [r1],(w64 (t4.2.1+1),(t4.2.2.1,t4.2.2.2)))
 else none
 else
 some (t4.1,(w64 (t4.2.1+1),(t4.2.2.1,t4.2.2.2)))
 else
 (An rec Aa (t0,t1,t2,t3,(t4.1,(t4.2.1,(t4.2.2.1,t4.2.2.2))),([],(0,(0,false))),(t3.length:Int),0)).bind λs2=>
 some (s2.1.1,(s2.1.2.1,(s2.1.2.2.1,s2.1.2.2.2)))
def Ap:Nat->(Int×(List (List ((List Int)×Int×(List (List Int)))))×(List Int)×(List Int)×((List (List Int))×(Int×Int×Bool)))->Option (((List (List Int))×(Int×Int×Bool)))
 |0,_=>none
 |d+1,x=>DS (Ap d) x.1 x.2.1 x.2.2.1 x.2.2.2.1 x.2.2.2.2
def CT (net:Int×Int×(List ((List Int)×Int×(List (List Int))))) (list:List ((List Int)×Int×(List (List Int)))) (partial_:List Int) (most:Int) (one:Bool):Option (((List (List Int))×(Int×Int×Bool))):=
 (Ez net.1 list).bind λr1=>
 (Ap Aa (net.2.1,r1,partial_,[],([],(0,(most,one))))).bind λr2=>
 some (r2.1,(r2.2.1,(r2.2.2.1,r2.2.2.2)))
def Bh:Nat->((Int×((List (List (List Int)))×(List (List (List ByteArray)))))×((List Int)×Int×(List (List Int)))×Int×(List ((List Int)×Int×(List (List Int))))×Int×Int×(List Int)×Int×Int)->Option ((Int×((List (List (List Int)))×(List (List (List ByteArray)))))×((List Int)×Int×(List (List Int)))×Int×(List ((List Int)×Int×(List (List Int))))×Int×Int)
 |0,_=>none
 |n+1,(t3,t5,t6,t20,t21,t22,t27,t28,t29)=>
 if decide (t29<t28)then
 if inb t29 t27 then
 Bh n ((t3.1,(t3.2.1,t3.2.2)),(t5.1,(t5.2.1,t5.2.2)),Yiv t6 (gd t27 t29 0),t20,t21,t22,t27,t28,w64 (t29+1))
 else none
 else
 some ((t3.1,(t3.2.1,t3.2.2)),(t5.1,(t5.2.1,t5.2.2)),t6,t20,t21,t22)
def Bg:Nat->((Int×((List (List (List Int)))×(List (List (List ByteArray)))))×(List ((List Int)×Int×(List (List Int))))×Int×Int)->Option ((Int×((List (List (List Int)))×(List (List (List ByteArray))))))
 |0,_=>none
 |n+1,(t3,t20,t21,t22)=>
 if decide (t22<t21)then
 if inb t22 t20 then
 (Bh Aa ((t3.1,(t3.2.1,t3.2.2)),((gd t20 t22 ([],(0,[]))).1,(((gd t20 t22 ([],(0,[]))).2).1,((gd t20 t22 ([],(0,[]))).2).2)),0,t20,t21,t22,(gd t20 t22 ([],(0,[]))).1,(((gd t20 t22 ([],(0,[]))).1).length:Int),0)).bind λs1=>
 if inb s1.2.2.1 s1.1.2.1 then
 if(gd s1.1.2.1 s1.2.2.1 []).length+ [s1.2.1.1].length<=lim then
 if inb s1.2.2.1 s1.1.2.1 then
 if s1.2.2.1=s1.2.2.1 then
 if inb s1.2.2.1 s1.1.2.2 then
 (Ee (s1.2.1.2.1,s1.2.1.2.2)).bind λr2=>
 if(gd s1.1.2.2 s1.2.2.1 []).length+ [r2].length<=lim then
 if inb s1.2.2.1 s1.1.2.2 then
 if s1.2.2.1=s1.2.2.1 then
 Bg n ((s1.1.1,(stt s1.1.2.1 s1.2.2.1 ((gd s1.1.2.1 s1.2.2.1 [])++ [s1.2.1.1]),stt s1.1.2.2 s1.2.2.1 ((gd s1.1.2.2 s1.2.2.1 [])++ [r2]))),s1.2.2.2.1,s1.2.2.2.2.1,w64 (s1.2.2.2.2.2+1))
 else none
 else none
 else none
 else none
 else none
 else none
 else none
 else none
 else none
 else
 some (t3.1,(t3.2.1,t3.2.2))
def CG (t0:Int×Int×(List ((List Int)×Int×(List (List Int))))):Option ((Bool×Int×(List (List (List Int)))×(List (List (List ByteArray))))):=
 if 0<=t0.1/\t0.1<=t0.1/\t0.1<=lim then
 if 0<=t0.1/\t0.1<=t0.1/\t0.1<=lim then
 (Bg Aa ((t0.2.1,(List.replicate (Int.toNat t0.1) ([]:List (List Int)),List.replicate (Int.toNat t0.1) ([]:List (List ByteArray)))),t0.2.2,(t0.2.2.length:Int),0)).bind λs1=>
 some (true,(s1.1,(s1.2.1,s1.2.2)))
 else none
 else none
def FI (list:List Int):Option ((Bool×(List Int))):=
 if([]:List Int).length+list.length<=lim then
 some (true,[]++list)
 else none
def BZ (values:List Int) (t1:Bool×(List Int)):Option ((Bool×(List Int))×Bool):=
 (FI values).bind λr1=>
 some ((r1.1,r1.2),false)
def Ak (rec:(Int×(List Int)×(Bool×(List Int))×(Bool×Int×(List (List (List Int)))×(List (List (List ByteArray))))×(List Int)×Unit)->Option ((List Int)×(Bool×(List Int))×(Bool×Int×(List (List (List Int)))×(List (List (List ByteArray))))×(List Int)×Bool)):Nat->(Int×(List Int)×(Bool×(List Int))×(Bool×Int×(List (List (List Int)))×(List (List (List ByteArray))))×(List Int)×Unit×Int×Bool×(List (List Int))×Int×Int)->Option (Int×(List Int)×(Bool×(List Int))×(Bool×Int×(List (List (List Int)))×(List (List (List ByteArray))))×(List Int)×Unit×Int×Bool)
 |0,_=>none
 |n+1,(t0,t1,t2,t3,t4,t5,t8,t9,t50,t51,t52)=>
 if decide (t52<t51)then
 if inb t52 t50 then
 if t9 then
 if t3.1=true then
 if inb t0 t3.2.2.2 then
 if inb t52 (gd t3.2.2.2 t0 [])then
 (Do (gd t50 t52 []) t1).bind λr2=>
 (DC r2).bind λr3=>
 Ak rec n (t0,t1,(t2.1,t2.2),t3,t4,(),t8,Xs (gd (gd t3.2.2.2 t0 []) t52 []) r3,t50,t51,w64 (t52+1))
 else none
 else none
 else none
 else
 Ak rec n (t0,t1,(t2.1,t2.2),t3,t4,(),t8,false,t50,t51,w64 (t52+1))
 else none
 else
 some (t0,t1,(t2.1,t2.2),t3,t4,(),t8,t9)
def Ai (rec:(Int×(List Int)×(Bool×(List Int))×(Bool×Int×(List (List (List Int)))×(List (List (List ByteArray))))×(List Int)×Unit)->Option ((List Int)×(Bool×(List Int))×(Bool×Int×(List (List (List Int)))×(List (List (List ByteArray))))×(List Int)×Bool)):Nat->(Int×(List Int)×(Bool×(List Int))×(Bool×Int×(List (List (List Int)))×(List (List (List ByteArray))))×(List Int)×Unit×Int)->Option (((List Int)×(Bool×(List Int))×(Bool×Int×(List (List (List Int)))×(List (List (List ByteArray))))×(List Int)×Unit)⊕((List Int)×(Bool×(List Int))×(Bool×Int×(List (List (List Int)))×(List (List (List ByteArray))))×(List Int)×Unit×Bool))
 |0,_=>none
 |n+1,(t0,t1,t2,t3,t4,t5,t8)=>
 if t3.1=true then
 if decide (t8<t3.2.1)then
 if inb t0 t4 then
 if decide ((gd t4 t0 0)≥0)then
 if inb t0 t4 then
 if(gd t4 t0 0) !=t8 then
 Ai rec n (t0,t1,(t2.1,t2.2),t3,t4,(),w64 (t8+1))
 else
 if inb t0 t1 then
 if t3.1=true then
 if inb t0 t3.2.2.1 then
 (Ak rec Aa (t0,stt t1 t0 t8,(t2.1,t2.2),t3,t4,(),t8,true,gd t3.2.2.1 t0 [],((gd t3.2.2.1 t0 []).length:Int),0)).bind λs2=>
 if s2.2.2.2.2.2.2.2 then
 (rec (w64 (s2.1+1),s2.2.1,(s2.2.2.1.1,s2.2.2.1.2),s2.2.2.2.1,s2.2.2.2.2.1,())).bind λr3=>
 if !r3.2.2.2.2 then
 some (.inr (r3.1,(r3.2.1.1,r3.2.1.2),r3.2.2.1,r3.2.2.2.1,(),false))
 else
 Ai rec n (s2.1,r3.1,(r3.2.1.1,r3.2.1.2),r3.2.2.1,r3.2.2.2.1,(),w64 (s2.2.2.2.2.2.2.1+1))
 else
 Ai rec n (s2.1,s2.2.1,(s2.2.2.1.1,s2.2.2.1.2),s2.2.2.2.1,s2.2.2.2.2.1,(),w64 (s2.2.2.2.2.2.2.1+1))
 else none
 else none
 else none
 else none
 else
 if inb t0 t1 then
 if t3.1=true then
 if inb t0 t3.2.2.1 then
 (Ak rec Aa (t0,stt t1 t0 t8,(t2.1,t2.2),t3,t4,(),t8,true,gd t3.2.2.1 t0 [],((gd t3.2.2.1 t0 []).length:Int),0)).bind λs4=>
 if s4.2.2.2.2.2.2.2 then
 (rec (w64 (s4.1+1),s4.2.1,(s4.2.2.1.1,s4.2.2.1.2),s4.2.2.2.1,s4.2.2.2.2.1,())).bind λr5=>
 if !r5.2.2.2.2 then
 some (.inr (r5.1,(r5.2.1.1,r5.2.1.2),r5.2.2.1,r5.2.2.2.1,(),false))
 else
 Ai rec n (s4.1,r5.1,(r5.2.1.1,r5.2.1.2),r5.2.2.1,r5.2.2.2.1,(),w64 (s4.2.2.2.2.2.2.1+1))
 else
 Ai rec n (s4.1,s4.2.1,(s4.2.2.1.1,s4.2.2.1.2),s4.2.2.2.1,s4.2.2.2.2.1,(),w64 (s4.2.2.2.2.2.2.1+1))
 else none
 else none
 else none
 else none
 else
 some (.inl (t1,(t2.1,t2.2),t3,t4,()))
 else none
def AT (rec:(Int×(List Int)×(Bool×(List Int))×(Bool×Int×(List (List (List Int)))×(List (List (List ByteArray))))×(List Int)×Unit)->Option ((List Int)×(Bool×(List Int))×(Bool×Int×(List (List (List Int)))×(List (List (List ByteArray))))×(List Int)×Bool)) (t0:Int) (t1:List Int) (t2:Bool×(List Int)) (t3:Bool×Int×(List (List (List Int)))×(List (List (List ByteArray)))) (t4:List Int) (t5:Unit):Option ((List Int)×(Bool×(List Int))×(Bool×Int×(List (List (List Int)))×(List (List (List ByteArray))))×(List Int)×Bool):=
 if t0==(t1.length:Int)then
  (BZ t1 (t2.1,t2.2)).bind λr1=>
   some (t1,(r1.1.1,r1.1.2),t3,t4,r1.2)
 else
  (Ai rec Aa (t0,t1,(t2.1,t2.2),t3,t4,(),0)).bind λs2=>
   match s2 with
   | .inl s3=>
    some (s3.1,(s3.2.1.1,s3.2.1.2),s3.2.2.1,s3.2.2.2.1,true)
   | .inr s4=>
    some (s4.1,(s4.2.1.1,s4.2.1.2),s4.2.2.1,s4.2.2.2.1,s4.2.2.2.2.2)
def Am:Nat->(Int×(List Int)×(Bool×(List Int))×(Bool×Int×(List (List (List Int)))×(List (List (List ByteArray))))×(List Int)×Unit)->Option ((List Int)×(Bool×(List Int))×(Bool×Int×(List (List (List Int)))×(List (List (List ByteArray))))×(List Int)×Bool)
 |0,_=>none
 |d+1,x=>AT (Am d) x.1 x.2.1 x.2.2.1 x.2.2.2.1 x.2.2.2.2.1 x.2.2.2.2.2
def Bt (s:Bool×Int×(List (List (List Int)))×(List (List (List ByteArray)))) (partial_:List Int) (found:Bool×(List Int)):Option ((Bool×(List Int))):=
 if 0<=(partial_.length:Int)/\(partial_.length:Int)<=(partial_.length:Int)/\(partial_.length:Int)<=lim then
 (Am Aa (0,List.replicate (Int.toNat (partial_.length:Int)) (0:Int),(found.1,found.2),s,partial_,())).bind λr1=>
 some (r1.2.1.1,r1.2.1.2)
 else none
def Dd (net:Int×Int×(List ((List Int)×Int×(List (List Int))))) (partial_:List Int):Option ((Bool×(List Int))):=
 (CG (net.1,(net.2.1,net.2.2))).bind λr1=>
 (Bt r1 partial_ (false,[])).bind λr2=>
 some (r2.1,r2.2)
end T
open Go Go.Va
namespace T
abbrev NS:=Bool×Int×List (List (List Int))×List (List (List ByteArray))
abbrev NIn (σ:Type):=Int×List Int×σ×NS×List Int×Unit
abbrev Jq (σ:Type):=List Int×σ×NS×List Int×Bool
def hM {σ:Type}:Nat->(Int×List Int×σ×NS×List Int×Unit×Int×Bool×List (List Int)×Int×Int)->Option (Int×List Int×σ×NS×List Int×Unit×Int×Bool)
 |0,_=>none
 |n+1,(t0,t1,t2,t3,t4,t5,t8,t9,t50,t51,t52)=>
 if decide (t52<t51)then
 if inb t52 t50 then
 if t9 then
 if t3.1=true then
 if inb t0 t3.2.2.2 then
 if inb t52 (gd t3.2.2.2 t0 [])then
 (Do (gd t50 t52 []) t1).bind λr2=>
 (DC r2).bind λr3=>
 hM n (t0,t1,t2,t3,t4,(),t8,Xs (gd (gd t3.2.2.2 t0 []) t52 []) r3,t50,t51,w64 (t52+1))
 else none
 else none
 else none
 else
 hM n (t0,t1,t2,t3,t4,(),t8,false,t50,t51,w64 (t52+1))
 else none
 else
 some (t0,t1,t2,t3,t4,(),t8,t9)
def hL {σ:Type} (rec:NIn σ->Option (Jq σ)):Nat->(Int×List Int×σ×NS×List Int×Unit×Int)->Option ((List Int×σ×NS×List Int×Unit)⊕(List Int×σ×NS×List Int×Unit×Bool))
 |0,_=>none
 |n+1,(t0,t1,t2,t3,t4,t5,t8)=>
 if t3.1=true then
 if decide (t8<t3.2.1)then
 if inb t0 t4 then
 if decide ((gd t4 t0 0)≥0)then
 if inb t0 t4 then
 if(gd t4 t0 0) !=t8 then
 hL rec n (t0,t1,t2,t3,t4,(),w64 (t8+1))
 else
 if inb t0 t1 then
 if t3.1=true then
 if inb t0 t3.2.2.1 then
 (hM Aa (t0,stt t1 t0 t8,t2,t3,t4,(),t8,true,gd t3.2.2.1 t0 [],((gd t3.2.2.1 t0 []).length:Int),0)).bind λs2=>
 if s2.2.2.2.2.2.2.2 then
 (rec (w64 (s2.1+1),s2.2.1,s2.2.2.1,s2.2.2.2.1,s2.2.2.2.2.1,())).bind λr3=>
 if !r3.2.2.2.2 then
 some (.inr (r3.1,r3.2.1,r3.2.2.1,r3.2.2.2.1,(),false))
 else
 hL rec n (s2.1,r3.1,r3.2.1,r3.2.2.1,r3.2.2.2.1,(),w64 (s2.2.2.2.2.2.2.1+1))
 else
 hL rec n (s2.1,s2.2.1,s2.2.2.1,s2.2.2.2.1,s2.2.2.2.2.1,(),w64 (s2.2.2.2.2.2.2.1+1))
 else none
 else none
 else none
 else none
 else
 if inb t0 t1 then
 if t3.1=true then
 if inb t0 t3.2.2.1 then
 (hM Aa (t0,stt t1 t0 t8,t2,t3,t4,(),t8,true,gd t3.2.2.1 t0 [],((gd t3.2.2.1 t0 []).length:Int),0)).bind λs4=>
 if s4.2.2.2.2.2.2.2 then
 (rec (w64 (s4.1+1),s4.2.1,s4.2.2.1,s4.2.2.2.1,s4.2.2.2.2.1,())).bind λr5=>
 if !r5.2.2.2.2 then
 some (.inr (r5.1,r5.2.1,r5.2.2.1,r5.2.2.2.1,(),false))
 else
 hL rec n (s4.1,r5.1,r5.2.1,r5.2.2.1,r5.2.2.2.1,(),w64 (s4.2.2.2.2.2.2.1+1))
 else
 hL rec n (s4.1,s4.2.1,s4.2.2.1,s4.2.2.2.1,s4.2.2.2.2.1,(),w64 (s4.2.2.2.2.2.2.1+1))
 else none
 else none
 else none
 else none
 else
 some (.inl (t1,t2,t3,t4,()))
 else none
def Hq {σ:Type} (cb:List Int->σ->Option (σ×Bool)) (rec:NIn σ->Option (Jq σ)) (x:NIn σ):Option (Jq σ):=
 if x.1==(x.2.1.length:Int)then
  (cb x.2.1 x.2.2.1).bind λr1=>some (x.2.1,r1.1,x.2.2.2.1,x.2.2.2.2.1,r1.2)
 else
  (hL rec Aa (x.1,x.2.1,x.2.2.1,x.2.2.2.1,x.2.2.2.2.1,(),0)).bind λs2=>
   match s2 with
   | .inl s3=>some (s3.1,s3.2.1,s3.2.2.1,s3.2.2.2.1,true)
   | .inr s4=>some (s4.1,s4.2.1,s4.2.2.1,s4.2.2.2.1,s4.2.2.2.2.2)
def hF {σ:Type} (cb:List Int->σ->Option (σ×Bool)):Nat->NIn σ->Option (Jq σ)
 |0,_=>none
 |d+1,x=>Hq cb (hF cb d) x
def BJ (c:Con):Nat:=c.1.foldl (λm v=>max m v.toNat) 0
def Ar (cs:List Con) (v:Nat):List Con:=cs.filter λc=>BJ c==v
def AN (cs:List Con) (V:Nat):List (List (List Int)):=(List.range V).map λv=>(Ar cs v).map (·.1)
def Cy (cs:List Con) (V:Nat):List (List (List ByteArray)):=(List.range V).map λv=>(Ar cs v).map λc=>Ef c.2.2
def okN (cs:List Con) (pre:List Int):Bool:=(Ar cs (pre.length-1)).all (Ei pre)
theorem Ht: ∀(l:List Int) (m:Nat),m<=l.foldl (λm v=>max m v.toNat) m/\(∀v∈l,v.toNat<=l.foldl (λm v=>max m v.toNat) m)/\ ∀B,m<=B->(∀v∈l,v.toNat<=B)->l.foldl (λm v=>max m v.toNat) m<=B
 | [],m=>⟨Nat.le_refl _,by simp,λB h _=>h⟩
 |v::l,m=>by
  obtain⟨h1,h2,h3⟩:=Ht l (max m v.toNat)
  simp only[List.foldl_cons]
  refine⟨by omega,λw hw=>?_,λB h h'=>h3 B (by have:=h' v (List.mem_cons_self ..);omega) λw hw=>h' w (List.mem_cons_of_mem _ hw)⟩
  rcases List.mem_cons.1 hw with rfl|hw
  ·omega
  ·exact h2 w hw
section
variable {V n:Nat} {cs:List Con} {given:List Int}
structure SrchOk (V n:Nat) (cs:List Con):Prop where
 hv:V<=9
 hn:1<=n/\n<=4
 hc:cs.length<=40
 con: ∀c∈cs,ConOk (V:Int) (n:Int) c
theorem En {c:Con} {v:Nat}:c∈Ar cs v↔c∈cs/\BJ c=v:=by simp[Ar]
theorem Eh (h:SrchOk V n cs) {v:Nat} {c:Con} (hc:c∈Ar cs v):ConOk ((v+1:Nat):Int) (n:Int) c/\v<V:=by
 obtain⟨h1,h2⟩:=En.1 hc
 have hk:=h.con c h1
 obtain⟨_,g2,g3⟩:=Ht c.1 0
 have hv:v<V:=by
  have hm:=hk.ar
  have hsl:=hk.sl
  have h0:=hk.sv 0 (by omega)
  have:=g3 (V-1) (by omega) λw hw=>by
   obtain⟨i,hi,rfl⟩:=List.mem_iff_getElem.1 hw
   have:=hk.sv i hi
   omega
  have:BJ c<=V-1:=this
  omega
 refine⟨⟨hk.ar,hk.sl,λi hi=>?_,hk.tl,hk.tv,hk.inc,hk.many⟩,hv⟩
 have h3:=hk.sv i hi
 have h4:=g2 _ (List.getElem_mem hi)
 have h4:(c.1[i]).toNat<=BJ c:=h4
 omega
theorem GO (h:SrchOk V n cs) {v:Nat} {c:Con} (hc:c∈Ar cs v) (tab:List Int):Ei (tab.take (v+1)) c=Ei tab c:=by
 have hk:=(Eh h hc).1
 unfold Ei
 have:c.1.map (DX (tab.take (v+1)))=c.1.map (DX tab):=List.map_congr_left λx hx=>by
  obtain⟨i,hi,rfl⟩:=List.mem_iff_getElem.1 hx
  have:=hk.sv i hi
  unfold DX
  rw[List.getD_eq_getElem?_getD,List.getD_eq_getElem?_getD,List.getElem?_take,if_pos (by omega)]
 rw[this]
theorem Gu (h:SrchOk V n cs) {v:Nat} {tab:List Int} (hv:v<tab.length):okN cs (tab.take (v+1))=(Ar cs v).all (Ei tab):=by
 unfold okN
 rw[List.length_take,show min (v+1) tab.length-1=v by omega,Bool.eq_iff_iff,List.all_eq_true,List.all_eq_true]
 exact⟨λg c hc=>by rw[←GO h hc];exact g c hc,λg c hc=>by rw[GO h hc];exact g c hc⟩
theorem EZ {v:Nat} (hv:v<V):(AN cs V).length=V/\(AN cs V).getD v []=(Ar cs v).map (·.1):=by
 refine⟨by simp[AN],?_⟩
 rw[Ab (by simp[AN];exact hv)];simp[AN]
theorem GZ {v:Nat} (hv:v<V):(Cy cs V).length=V/\(Cy cs V).getD v []=(Ar cs v).map λc=>Ef c.2.2:=by
 refine⟨by simp[Cy],?_⟩
 rw[Ab (by simp[Cy];exact hv)];simp[Cy]
theorem KA (h:SrchOk V n cs) {v:Nat} (hv:v<V) {tab:List Int} (ht:tab.length=V) (htv: ∀x∈tab,0<=x/\x<256) {σ:Type} (s:σ) (x:Int):
  hM Aa ((v:Int),tab,s,(true,((n:Int),(AN cs V,Cy cs V))),given,(),x,true,gd (AN cs V) (v:Int) [],((gd (AN cs V) (v:Int) []).length:Int),0)=
   some ((v:Int),tab,s,(true,((n:Int),(AN cs V,Cy cs V))),given,(),x,okN cs (tab.take (v+1))):=by
 obtain⟨l1,e1⟩:=EZ (cs:=cs) hv
 obtain⟨l2,e2⟩:=GZ (cs:=cs) hv
 have hn:=h.hn
 have hg1:gd (AN cs V) (v:Int) []=(Ar cs v).map (·.1):=e1
 have hg2:gd (Cy cs V) (v:Int) []=(Ar cs v).map λc=>Ef c.2.2:=e2
 rw[Gu h (by omega),hg1]
 have hlen:(Ar cs v).length<=40:=Nat.le_trans (List.length_filter_le _ _) h.hc
 have:=Co (Ar cs v).length (λf (o:Bool) i=>hM f ((v:Int),tab,s,(true,((n:Int),(AN cs V,Cy cs V))),given,(),x,o,(Ar cs v).map (·.1),(((Ar cs v).map (·.1)).length:Int),i)) (λk=>((Ar cs v).take k).all (Ei tab)) (r:=some ((v:Int),tab,s,(true,((n:Int),(AN cs V,Cy cs V))),given,(),x,(Ar cs v).all (Ei tab))) (λf k hk=>?_) (λf=>?_) (n:=Aa) (by unfold Aa;omega)
 ·exact this
 ·have hmem:=List.getElem_mem hk
  have hcon:=(Eh h hmem).1
  have hsl:=hcon.sl
  have har:=hcon.ar
  have hmany:=hcon.many
  have hin:inb (k:Int) ((Ar cs v).map (·.1)):=by unfold inb;rw[List.length_map];omega
  have hgk:gd ((Ar cs v).map (·.1)) (k:Int) []=(Ar cs v)[k].1:=by
   have:=Ae (xs:=(Ar cs v).map (·.1)) (d:= []) (k:=k) (by simpa using hk)
   rw[this];simp
  have hin2:inb (k:Int) ((Ar cs v).map λc=>Ef c.2.2):=by unfold inb;rw[List.length_map];omega
  have hgk2:gd ((Ar cs v).map λc=>Ef c.2.2) (k:Int) []=Ef (Ar cs v)[k].2.2:=by
   have:=Ae (xs:=(Ar cs v).map λc=>Ef c.2.2) (d:= []) (k:=k) (by simpa using hk)
   rw[this];simp
  have hsc: ∀y∈(Ar cs v)[k].1,0<=y/\y<tab.length:=λy hy=>by
   obtain⟨i,hi,rfl⟩:=List.mem_iff_getElem.1 hy
   have:=hcon.sv i hi
   omega
  have hc:=F8 (f:=(Ar cs v)[k].1) (g:=tab) (by omega) hsc
  have hval: ∀y∈(Ar cs v)[k].1.map (DX tab),0<=y/\y<256:=λy hy=>by
   obtain⟨z,hz,rfl⟩:=List.mem_map.1 hy
   have:=hsc z hz
   exact htv _ (FH (by omega))
  have hk2:=Fj (l:=(Ar cs v)[k].1.map (DX tab)) (by rw[List.length_map];omega) hval
  have hmk:=Iv (l:=(Ar cs v)[k].2.2) (t:=(Ar cs v)[k].1.map (DX tab)) (λt ht y hy=>by
   obtain⟨i,hi,rfl⟩:=List.mem_iff_getElem.1 hy
   have:=hcon.tv t ht i hi
   omega) hval
  have hiv:inb (v:Int) (Cy cs V):=by unfold inb;omega
  have htk:((Ar cs v).take (k+1)).all (Ei tab)=(((Ar cs v).take k).all (Ei tab)&&Ei tab (Ar cs v)[k]):=by
   rw[List.take_succ_eq_append_getElem hk,List.all_append];simp
  simp only[hM,hin,hgk,hc,hk2,hiv,hg2,hin2,hgk2,hmk,Option.bind_some,Ad (show k<4611686018427387904 by omega),htk,if_true]
  rw[if_pos (by simp;omega)]
  cases ((Ar cs v).take k).all (Ei tab)with
  |false=>simp
  |true=>simp[Ei]
 ·simp only[hM,List.take_length]
  rw[if_neg (by simp)]
end
end T
