/- Plain lemmas on the typed functions of the program, the first part; no conditions. -/
import Derived.Test.YtbfbcfnbcbdgjabGreatV1
import Derived.Test.YtbfbcfnbcbdgjabGreatV5
import Derived.KernelRfl
set_option linter.all false
namespace Go.Va
theorem Hq (x:Int):w64 x=(x+9223372036854775808)%18446744073709551616-9223372036854775808:=by
 simp[w64,IntKind.wrap,IntKind.bits,IntKind.signed]
 split<;>omega
theorem AE {x:Int} (h1: -9223372036854775808<=x) (h2:x<=9223372036854775807):w64 x=x:=by
 rw[Hq];omega
theorem Ac {k:Nat} (h:k<4611686018427387904):w64 ((k:Int)+1)=((k+1:Nat):Int):=by
 rw[AE (by omega) (by omega)];rfl
theorem Ae {α:Type} {k:Nat} {xs:List α}:inb (k:Int) xs↔k<xs.length:=by
 unfold inb;omega
theorem Aj {α:Type} {k:Nat} {xs:List α} {d:α} (h:k<xs.length):gd xs (k:Int) d=xs[k]:=by
 unfold gd;simp[h]
theorem Dg {α:Type} {k:Nat} {xs:List α} {x:α}:stt xs (k:Int) x=xs.set k x:=by
 unfold stt;simp
def I2 {α σ β:Type} (step:σ->α->Option (σ⊕β)) (fin:σ->Option β):List α->σ->Option β
 | [],s=>fin s
 |a::l,s=>match step s a with|some (.inl s')=>I2 step fin l s'|some (.inr r)=>some r|none=>none
theorem Lf {α σ β:Type} (xs:List α) (L:Nat->σ->Int->Option β) (step:σ->α->Option (σ⊕β)) (fin:σ->Option β)
  (hs: ∀n s (k:Nat) (hk:k<xs.length),L (n+1) s k=match step s xs[k]with|some (.inl s')=>L n s' ((k+1:Nat):Int)|some (.inr r)=>some r|none=>none)
  (he: ∀n s,L (n+1) s (xs.length:Nat)=fin s): ∀(n k:Nat) (s:σ),k<=xs.length->xs.length-k<n->L n s k=I2 step fin (xs.drop k) s:=by
 intro n
 induction n with
 |zero=>intro k s _ h;omega
 |succ n ih=>
  intro k s hk hn
  rcases Nat.lt_or_ge k xs.length with hlt|hge
  ·rw[hs n s k hlt,List.drop_eq_getElem_cons hlt]
   simp only[I2]
   cases step s xs[k]with
   |none=>rfl
   |some q=>
    cases q with
    |inl s'=>exact ih (k+1) s' hlt (by omega)
    |inr r=>rfl
  ·have:k=xs.length:=by omega
   subst this
   rw[he,List.drop_length];rfl
theorem KG {α σ β:Type} (xs:List α) (L:Nat->σ->Int->Option β) (step:σ->α->Option (σ⊕β)) (fin:σ->Option β)
  (hs: ∀n s (k:Nat) (hk:k<xs.length),L (n+1) s k=match step s xs[k]with|some (.inl s')=>L n s' ((k+1:Nat):Int)|some (.inr r)=>some r|none=>none)
  (he: ∀n s,L (n+1) s (xs.length:Nat)=fin s) {n:Nat} (hn:xs.length<n) (s:σ):L n s 0=I2 step fin xs s:=by
 have:=Lf xs L step fin hs he n 0 s (Nat.zero_le _) (by omega)
 simpa using this
theorem HW {α β:Type} {p:α->Bool} {step:Unit->α->Option (Unit⊕β)} {fin:Unit->Option β} {r:β}: ∀ {l:List α},(∀a∈l,step () a=if p a then some (.inl ())else some (.inr r))->I2 step fin l ()=if l.all p then fin ()else some r
 | [],_=>rfl
 |a::l,h=>by
  simp only[I2]
  rw[h a (by simp)]
  cases hp:p a with
  |true=>simp only[if_true,List.all_cons,hp,Bool.true_and];exact HW λb hb=>h b (List.mem_cons_of_mem _ hb)
  |false=>simp[List.all_cons,hp]
theorem La {α β γ:Type} (xs:List α) (L:Nat->List β->Int->Option γ) (g:α->β) (fin:List β->Option γ)
  (hs: ∀n (out:List β) (k:Nat) (hk:k<xs.length),out.length=xs.length->L (n+1) out k=L n (out.set k (g xs[k])) ((k+1:Nat):Int))
  (he: ∀n out,out.length=xs.length->L (n+1) out (xs.length:Nat)=fin out): ∀(n k:Nat) (out:List β),out.length=xs.length->k<=xs.length->xs.length-k<n->L n out k=fin (out.take k++(xs.drop k).map g):=by
 intro n
 induction n with
 |zero=>intro k out _ _ h;omega
 |succ n ih=>
  intro k out hl hk hn
  rcases Nat.lt_or_ge k xs.length with hlt|hge
  ·have:(out.set k (g xs[k])).take (k+1)=out.take k++ [g xs[k]]:=by
    rw[List.take_succ_eq_append_getElem (by simp;omega),List.take_set_of_le (Nat.le_refl _),List.getElem_set_self]
   rw[hs n out k hlt hl,ih (k+1) _ (by simpa using hl) hlt (by omega),List.drop_eq_getElem_cons hlt,this,List.map_cons,List.append_assoc,List.singleton_append]
  ·have:k=xs.length:=by omega
   subst this
   rw[he _ _ hl,List.drop_length,List.take_of_length_le (by omega)];simp
theorem KE {α β γ:Type} (xs:List α) (L:Nat->List β->Int->Option γ) (g:α->β) (fin:List β->Option γ)
  (hs: ∀n (out:List β) (k:Nat) (hk:k<xs.length),out.length=xs.length->L (n+1) out k=L n (out.set k (g xs[k])) ((k+1:Nat):Int))
  (he: ∀n out,out.length=xs.length->L (n+1) out (xs.length:Nat)=fin out) {n:Nat} {out:List β} (hl:out.length=xs.length) (hn:xs.length<n):L n out 0=fin (xs.map g):=by
 have:=La xs L g fin hs he n 0 out hl (Nat.zero_le _) (by omega)
 simpa using this
theorem eqX {α:Type} [DecidableEq α] (a b:List α) (hl:a.length=b.length) (L:Nat->Int->Option (Unit⊕Bool))
  (hs: ∀n (k:Nat) (h1:k<a.length) (h2:k<b.length),L (n+1) k=if a[k]=b[k]then L n ((k+1:Nat):Int)else some (.inr false)) (he: ∀n,L (n+1) (a.length:Nat)=some (.inl ())) {n:Nat} (hn:a.length<n):
  L n 0=some (if a=b then .inl ()else .inr false):=by
 have key: ∀(n k:Nat),k<=a.length->a.length-k<n->L n k=some (if a.drop k=b.drop k then .inl ()else .inr false):=by
  intro n
  induction n with
  |zero=>intro k _ h;omega
  |succ n ih=>
   intro k hk hn
   rcases Nat.lt_or_ge k a.length with hlt|hge
   ·have h2:k<b.length:=by omega
    have e:(a.drop k=b.drop k)↔(a[k]=b[k]/\a.drop (k+1)=b.drop (k+1)):=by
     rw[List.drop_eq_getElem_cons hlt,List.drop_eq_getElem_cons h2];exact List.cons_eq_cons
    rw[hs n k hlt h2]
    by_cases h:a[k]=b[k]
    ·rw[if_pos h,ih (k+1) hlt (by omega)]
     by_cases h3:a.drop (k+1)=b.drop (k+1)
     ·rw[if_pos h3,if_pos (e.2 ⟨h,h3⟩)]
     ·rw[if_neg h3,if_neg λh'=>h3 (e.1 h').2]
    ·rw[if_neg h,if_neg λh'=>h (e.1 h').1]
   ·have:k=a.length:=by omega
    subst this
    rw[he,List.drop_length,hl,List.drop_length];rfl
 have:=key n 0 (Nat.zero_le _) (by omega)
 simpa using this
theorem FA {α β:Type} (xs:List α) (L:Nat->Int->Option β) (p:α->Bool) (r e:β)
  (hs: ∀n (k:Nat) (hk:k<xs.length),L (n+1) k=if p xs[k]then L n ((k+1:Nat):Int)else some r) (he: ∀n,L (n+1) (xs.length:Nat)=some e) {n:Nat} (hn:xs.length<n):
  L n 0=some (if xs.all p then e else r):=by
 have:=KG xs (λn (_:Unit) i=>L n i) (λ_ a=>if p a then some (.inl ())else some (.inr r)) (λ_=>some e) (λn s k hk=>by rw[hs n k hk];cases p xs[k]<;>simp) (λn s=>he n) hn ()
 rw[this,HW (p:=p) (r:=r) λa _=>by cases p a<;>simp]
 cases xs.all p<;>simp
theorem CD {σ β:Type} (N:Nat) (L:Nat->σ->Int->Option β) (S:Nat->σ) {r:Option β}
  (hs: ∀n (k:Nat),k<N->L (n+1) (S k) k=L n (S (k+1)) ((k+1:Nat):Int)) (he: ∀n,L (n+1) (S N) (N:Nat)=r) {n:Nat} (hn:N<n):L n (S 0) 0=r:=by
 have key: ∀(n k:Nat),k<=N->N-k<n->L n (S k) k=r:=by
  intro n
  induction n with
  |zero=>intro k _ h;omega
  |succ n ih=>
   intro k hk hn
   rcases Nat.lt_or_ge k N with hlt|hge
   ·rw[hs n k hlt];exact ih (k+1) hlt (by omega)
   ·have:k=N:=by omega
    subst this;exact he n
 exact key n 0 (Nat.zero_le _) (by omega)
theorem KF {σ β:Type} (N:Nat) (L:Nat->σ->Int->Option β) (S:Nat->σ) (p:Nat->Bool) {r e:Option β}
  (hs: ∀n (k:Nat),k<N->L (n+1) (S k) k=if p k then L n (S (k+1)) ((k+1:Nat):Int)else r) (he: ∀n,L (n+1) (S N) (N:Nat)=e) {n:Nat} (hn:N<n):
  L n (S 0) 0=if(List.range N).all p then e else r:=by
 have key: ∀(n k:Nat),k<=N->N-k<n->L n (S k) k=if(List.range' k (N-k)).all p then e else r:=by
  intro n
  induction n with
  |zero=>intro k _ h;omega
  |succ n ih=>
   intro k hk hn
   rcases Nat.lt_or_ge k N with hlt|hge
   ·rw[hs n k hlt,show N-k=(N-(k+1))+1 by omega,List.range'_succ,List.all_cons]
    cases hp:p k with
    |false=>simp
    |true=>simp only[if_true,Bool.true_and];exact ih (k+1) hlt (by omega)
   ·have:k=N:=by omega
    subst this;rw[he];simp
 have:=key n 0 (Nat.zero_le _) (by omega)
 rw[List.range_eq_range']
 simpa using this
theorem Lo {σ β:Type} (N:Nat) (L:Nat->σ->Int->Option β) (S:Nat->σ) (p:Nat->Bool) {r e:Option β}
  (hs: ∀n (k:Nat),k<N->(∀j,j<k->p j=true)->L (n+1) (S k) k=if p k then L n (S (k+1)) ((k+1:Nat):Int)else r) (he: ∀n,(∀j,j<N->p j=true)->L (n+1) (S N) (N:Nat)=e) {n:Nat} (hn:N<n):
  L n (S 0) 0=if(List.range N).all p then e else r:=by
 have key: ∀(n k:Nat),k<=N->N-k<n->(∀j,j<k->p j=true)->L n (S k) k=if(List.range' k (N-k)).all p then e else r:=by
  intro n
  induction n with
  |zero=>intro k _ h;omega
  |succ n ih=>
   intro k hk hn hb
   rcases Nat.lt_or_ge k N with hlt|hge
   ·rw[hs n k hlt hb,show N-k=(N-(k+1))+1 by omega,List.range'_succ,List.all_cons]
    cases hp:p k with
    |false=>simp
    |true=>
     simp only[if_true,Bool.true_and]
     refine ih (k+1) hlt (by omega) λj hj=>?_
     rcases Nat.lt_or_ge j k with h|h
     ·exact hb j h
     ·have:j=k:=by omega
      rw[this];exact hp
   ·have:k=N:=by omega
    subst this;rw[he n hb];simp
 have:=key n 0 (Nat.zero_le _) (by omega) (λj h=>by omega)
 rw[List.range_eq_range']
 simpa using this
theorem Lp {σ β:Type} (N:Nat) (L:Nat->σ->Int->Option β) (S:Nat->σ) (q:Nat->Option (Option β)) {e:Option β}
  (hs: ∀n (k:Nat),k<N->(∀j,j<k->q j=none)->L (n+1) (S k) k=match q k with|none=>L n (S (k+1)) ((k+1:Nat):Int)|some r=>r) (he: ∀n,L (n+1) (S N) (N:Nat)=e) {n:Nat} (hn:N<n):
  L n (S 0) 0=((List.range N).findSome? q).getD e:=by
 have key: ∀(n k:Nat),k<=N->N-k<n->(∀j,j<k->q j=none)->L n (S k) k=((List.range' k (N-k)).findSome? q).getD e:=by
  intro n
  induction n with
  |zero=>intro k _ h;omega
  |succ n ih=>
   intro k hk hn hq
   rcases Nat.lt_or_ge k N with hlt|hge
   ·rw[hs n k hlt hq,show N-k=(N-(k+1))+1 by omega,List.range'_succ,List.findSome?_cons]
    cases hp:q k with
    |some r=>simp
    |none=>
     refine ih (k+1) hlt (by omega) λj hj=>?_
     rcases Nat.lt_or_ge j k with h|h
     ·exact hq j h
     ·have:j=k:=by omega
      rw[this];exact hp
   ·have:k=N:=by omega
    subst this;rw[he];simp
 have:=key n 0 (Nat.zero_le _) (by omega) (λj h=>by omega)
 rw[List.range_eq_range']
 simpa using this
end Go.Va
set_option linter.unusedVariables false
open Go Go.Va
namespace T
def Aa:Nat:=1099511627776
def Cg (x:Int) (a:Int) (b:Int):Option (Bool):=
 if decide (x≥a)then
 some (decide (x<=b))
 else
 some false
def B6:Nat->(Int×(List Int)×Int)->Option ((Unit)⊕(Bool))
 |0,_=>none
 |n+1,(n_,list,i)=>
 if decide (i<(list.length:Int))then
 if inb i list then
 (Cg (gd list i 0) 0 (w64 (n_-1))).bind λr1=>
 if !r1 then
 some (.inr false)
 else
 B6 n (n_,list,w64 (i+1))
 else none
 else
 some (.inl ())
def CI (n_:Int) (list:List Int):Option (Bool):=
 (B6 Aa (n_,list,0)).bind λs1=>
  match s1 with
  | .inl s2=>
   some true
  | .inr s3=>
   some s3
def EC (n_:Int) (k:Int) (t:List Int):Option (Bool):=
 if(t.length:Int)==k then
 (CI n_ t).bind λr1=>
 some r1
 else
 some false
def CV:Nat->(Int×(List Int)×Int×Int)->Option ((Unit)⊕(Bool))
 |0,_=>none
 |n+1,(n_,t7,t8,t9)=>
 if decide (t9<t8)then
 if inb t9 t7 then
 if decide ((gd t7 t9 0)<0)then
 some (.inr false)
 else
 if decide ((gd t7 t9 0)≥n_)then
 some (.inr false)
 else
 CV n (n_,t7,t8,w64 (t9+1))
 else none
 else
 some (.inl ())
def Dk (list:List Int) (n_:Int):Option (Bool):=
 (CV Aa (n_,list,(list.length:Int),0)).bind λs1=>
  match s1 with
  | .inl s2=>
   some true
  | .inr s3=>
   some s3
def E1 (n_:Int):Option (Bool):=
 (Cg n_ 1 8).bind λr1=>
 some r1
def Cn:Nat->(Int×Int×Int)->Option (Int)
 |0,_=>none
 |n+1,(n_,k,out)=>
 if decide (k>0)then
 Cn n (n_,w64 (k-1),w64 (out*n_))
 else
 some out
def BD (n_:Int) (k:Int):Option (Int):=
 (Cn Aa (n_,k,1)).bind λs1=>
 some s1
def C0:Nat->((List Int)×(List Int)×Int)->Option ((Unit)⊕(Bool))
 |0,_=>none
 |n+1,(a,b,i)=>
 if decide (i<(a.length:Int))then
 if inb i a then
 if inb i b then
 if(gd a i 0) !=(gd b i 0)then
 if inb i a then
 if inb i b then
 some (.inr (decide ((gd a i 0)<(gd b i 0))))
 else none
 else none
 else
 C0 n (a,b,w64 (i+1))
 else none
 else none
 else
 some (.inl ())
def EZ (a:List Int) (b:List Int):Option (Bool):=
 (C0 Aa (a,b,0)).bind λs1=>
  match s1 with
  | .inl s2=>
   some false
  | .inr s3=>
   some s3
def CY:Nat->((List Int)×(List Int)×Int)->Option ((Unit)⊕(Bool))
 |0,_=>none
 |n+1,(a,b,i)=>
 if decide (i<(a.length:Int))then
 if inb i a then
 if inb i b then
 if(gd a i 0) !=(gd b i 0)then
 some (.inr false)
 else
 CY n (a,b,w64 (i+1))
 else none
 else none
 else
 some (.inl ())
def Ee (a:List Int) (b:List Int):Option (Bool):=
 if(a.length:Int) !=(b.length:Int)then
  some false
 else
  (CY Aa (a,b,0)).bind λs1=>
   match s1 with
   | .inl s2=>
    some true
   | .inr s3=>
    some s3
def Cz:Nat->((List (List Int))×(List Int)×Int×Int)->Option ((List (List Int))×(List Int)×Int)
 |0,_=>none
 |n+1,(list,t,from_,to)=>
 if decide (from_<to)then
 if(2:Int)≠0 then
 if inb (w64 (Int.tdiv (w64 (from_+to)) 2)) list then
 (EZ (gd list (w64 (Int.tdiv (w64 (from_+to)) 2)) []) t).bind λr1=>
 if r1 then
 Cz n (list,t,w64 ((w64 (Int.tdiv (w64 (from_+to)) 2))+1),to)
 else
 Cz n (list,t,from_,w64 (Int.tdiv (w64 (from_+to)) 2))
 else none
 else none
 else
 some (list,t,from_)
def DO (list:List (List Int)) (t:List Int):Option (Int×Bool):=
 (Cz Aa (list,t,0,(list.length:Int))).bind λs1=>
 if decide (s1.2.2<(s1.1.length:Int))then
 if inb s1.2.2 s1.1 then
 (Ee (gd s1.1 s1.2.2 []) s1.2.1).bind λr2=>
 some (s1.2.2,r2)
 else none
 else
 some (s1.2.2,false)
def Bs:Nat->((List Int)×(List Int)×Int)->Option (((List Int)×(List Int))⊕(Int))
 |0,_=>none
 |n+1,(s,t,i)=>
 if decide (i<(s.length:Int))then
 if decide (i<(t.length:Int))then
 if inb i s then
 if inb i t then
 if(gd s i 0) !=(gd t i 0)then
 if inb i s then
 if inb i t then
 if decide ((gd s i 0)<(gd t i 0))then
 some (.inr (-1))
 else
 some (.inr 1)
 else none
 else none
 else
 Bs n (s,t,w64 (i+1))
 else none
 else none
 else
 some (.inl (s,t))
 else
 some (.inl (s,t))
def D8 (s:List Int) (t:List Int):Option (Int):=
 (Bs Aa (s,t,0)).bind λs1=>
  match s1 with
  | .inl s2=>
   if decide ((s2.1.length:Int)<(s2.2.length:Int))then
    some (-1)
   else
    if decide ((s2.1.length:Int)>(s2.2.length:Int))then
     some 1
    else
     some 0
  | .inr s3=>
   some s3
def Cm:Nat->(Int×Int×Int)->Option (Int)
 |0,_=>none
 |n+1,(n_,k,p)=>
 if decide (k>0)then
 Cm n (n_,w64 (k-1),w64 (p*n_))
 else
 some p
def B5 (n_:Int) (k:Int):Option (Int):=
 (Cm Aa (n_,k,1)).bind λs1=>
 some s1
end T
open Go Go.Va
namespace T
abbrev Lin:=Int×Int×List (List Int)
theorem BE (x a b:Int):Cg x a b=some (decide (a<=x/\x<=b)):=by
 unfold Cg
 by_cases h:a<=x<;>simp[h]
def Bl (n:Int) (l:List Int):Bool:=l.all λx=>decide (0<=x/\x<n)
theorem Dq {l:List Int} (n:Int) (hl:l.length<=1099511627775):Dk l n=some (Bl n l):=by
 unfold Dk
 rw[FA l (λm i=>CV m (n,l,(l.length:Int),i)) (λx=>decide (0<=x/\x<n)) (.inr false) (.inl ()) ?_ ?_ (by unfold Aa;omega)]
 ·unfold Bl;cases l.all (λx=>decide (0<=x/\x<n))<;>simp
 ·intro m k hk
  simp only[CV,Ae,Aj hk,Ac (show k<4611686018427387904 by omega)]
  by_cases h1:l[k]<0
  ·simp[hk,h1,show¬0<=l[k] by omega]
  ·by_cases h2:n<=l[k]
   ·simp[hk,h1,h2,show¬l[k]<n by omega]
   ·simp[hk,h1,h2,show 0<=l[k]/\l[k]<n by omega]
 ·intro m
  simp[CV]
theorem Dj {l:List Int} {n:Int} (hn: -9223372036854775808<n) (hn':n<=9223372036854775807) (hl:l.length<=1099511627775):CI n l=some (Bl n l):=by
 unfold CI
 rw[FA l (λm i=>B6 m (n,l,i)) (λx=>decide (0<=x/\x<n)) (.inr false) (.inl ()) ?_ ?_ (by unfold Aa;omega)]
 ·unfold Bl;cases l.all (λx=>decide (0<=x/\x<n))<;>simp
 ·intro m k hk
  simp only[B6,Ae,Aj hk,Ac (show k<4611686018427387904 by omega),BE,AE (show-9223372036854775808<=n-1 by omega) (show n-1<=9223372036854775807 by omega)]
  by_cases h1:0<=l[k]/\l[k]<n
  ·simp[hk,h1,show l[k]<=n-1 by omega]
  ·have: ¬(0<=l[k]/\l[k]<=n-1):=by omega
   simp[hk,h1,this]
 ·intro m
  simp[B6]
theorem F6 {l:List Int} {n:Int} (k:Int) (hn: -9223372036854775808<n) (hn':n<=9223372036854775807) (hl:l.length<=1099511627775):EC n k l=some (decide ((l.length:Int)=k)&&Bl n l):=by
 unfold EC
 rw[Dj hn hn' hl]
 by_cases h:(l.length:Int)=k<;>simp[h]
end T
open Go Go.Va
namespace T
theorem Eu {n:Int} {l:List Int} (h:Bl n l=true) (k:Nat) (hk:k<l.length):0<=l[k]/\l[k]<n:=by
 have:=(List.all_eq_true.1 h) l[k] (List.getElem_mem hk)
 simpa using this
section
variable {p v:Int} {rows:List (List Int)} {y:List Int}
end
end T
open Go Go.Va
namespace T
def cmpL:List Int->List Int->Int
 | [],[]=>0
 | [],_::_=> -1
 |_::_,[]=>1
 |a::s,b::t=>if a=b then cmpL s t else if a<b then-1 else 1
theorem H9 {s t:List Int} (hs:s.length<=1099511627775): ∀(n k:Nat),k<=s.length->k<=t.length->s.length-k<n->
  (Bs n (s,t,(k:Int))).bind (λs1=>match s1 with
   | .inl s2=>if decide ((s2.1.length:Int)<(s2.2.length:Int))then some (-1)else if decide ((s2.1.length:Int)>(s2.2.length:Int))then some 1 else some 0
   | .inr s3=>some s3)=some (cmpL (s.drop k) (t.drop k)):=by
 intro n
 induction n with
 |zero=>intro k _ _ h;omega
 |succ n ih=>
  intro k h1 h2 hn
  by_cases k1:k<s.length
  ·by_cases k2:k<t.length
   ·rw[List.drop_eq_getElem_cons k1,List.drop_eq_getElem_cons k2]
    simp only[Bs,Ae,Aj k1,Aj k2,Ac (show k<4611686018427387904 by omega),cmpL]
    by_cases he:s[k]=t[k]
    ·have:=ih (k+1) k1 k2 (by omega)
     simp[k1,k2,he]
     simpa using this
    ·by_cases hl:s[k]<t[k]<;>simp[k1,k2,he,hl]
   ·rw[List.drop_eq_getElem_cons k1,List.drop_of_length_le (show t.length<=k by omega)]
    have e:k=t.length:=by omega
    simp only[Bs,cmpL]
    simp[k1,k2,show¬s.length<t.length by omega,show t.length<s.length by omega]
  ·rw[List.drop_of_length_le (show s.length<=k by omega)]
   simp only[Bs]
   by_cases k2:k<t.length
   ·rw[List.drop_eq_getElem_cons k2]
    simp[k1,cmpL,show s.length<t.length by omega]
   ·rw[List.drop_of_length_le (show t.length<=k by omega)]
    simp[k1,cmpL,show¬s.length<t.length by omega,show¬t.length<s.length by omega]
theorem EN {s t:List Int} (hs:s.length<=1099511627775):D8 s t=some (cmpL s t):=by
 have:=H9 (t:=t) hs Aa 0 (Nat.zero_le _) (Nat.zero_le _) (by unfold Aa;omega)
 rw[List.drop_zero,List.drop_zero]at this
 exact this
theorem E0 {s t:List Int} (hs:s.length<=1099511627775) (hl:s.length=t.length):EZ s t=some (decide (cmpL s t<0)):=by
 have key: ∀(n k:Nat),k<=s.length->s.length-k<n->(C0 n (s,t,(k:Int))).bind (λs1=>match s1 with| .inl _=>some false| .inr s3=>some s3)=some (decide (cmpL (s.drop k) (t.drop k)<0)):=by
  intro n
  induction n with
  |zero=>intro k _ h;omega
  |succ n ih=>
   intro k h1 hn
   by_cases k1:k<s.length
   ·have k2:k<t.length:=by omega
    rw[List.drop_eq_getElem_cons k1,List.drop_eq_getElem_cons k2]
    simp only[C0,Ae,Aj k1,Aj k2,Ac (show k<4611686018427387904 by omega),cmpL]
    by_cases he:s[k]=t[k]
    ·have:=ih (k+1) k1 (by omega)
     simp[k1,k2,he]
     simpa using this
    ·by_cases hl:s[k]<t[k]<;>simp[k1,k2,he,hl]
   ·rw[List.drop_of_length_le (show s.length<=k by omega),List.drop_of_length_le (show t.length<=k by omega)]
    simp[C0,k1,cmpL]
 have:=key Aa 0 (Nat.zero_le _) (by unfold Aa;omega)
 rw[List.drop_zero,List.drop_zero]at this
 exact this
theorem EX {a b:List Int} (ha:a.length<=1099511627775):Ee a b=some (decide (a=b)):=by
 unfold Ee
 by_cases hl:a.length=b.length
 ·rw[if_neg (by simp[hl]),eqX a b hl (λn i=>CY n (a,b,i)) ?_ ?_ (by unfold Aa;omega)]
  ·by_cases h:a=b<;>simp[h]
  ·intro n k h1 h2
   simp only[CY,Ae,Aj h1,Aj h2,Ac (show k<4611686018427387904 by omega)]
   by_cases h:a[k]=b[k]<;>simp[h1,h2,h]
  ·intro n
   simp[CY]
 ·rw[if_pos (by simp;omega),decide_eq_false (λe=>hl (by rw[e]))]
theorem cmpL_refl: ∀s,cmpL s s=0
 | []=>rfl
 |a::s=>by simp[cmpL,cmpL_refl s]
theorem cmpL_eq: ∀ {s t},cmpL s t=0↔s=t
 | [],[]=>by simp[cmpL]
 | [],_::_=>by simp[cmpL]
 |_::_,[]=>by simp[cmpL]
 |a::s,b::t=>by
  simp only[cmpL]
  by_cases h:a=b
  ·rw[if_pos h,cmpL_eq];simp[h]
  ·rw[if_neg h];split<;>simp[h]
theorem cmpL_symm: ∀s t,cmpL t s= -cmpL s t
 | [],[]=>by simp[cmpL]
 | [],_::_=>by simp[cmpL]
 |_::_,[]=>by simp[cmpL]
 |a::s,b::t=>by
  simp only[cmpL]
  by_cases h:a=b
  ·rw[if_pos h,if_pos h.symm,cmpL_symm s t]
  ·rw[if_neg h,if_neg (Ne.symm h)]
   by_cases h2:a<b
   ·rw[if_pos h2,if_neg (by omega)];rfl
   ·rw[if_neg h2,if_pos (by omega)]
theorem cmpL_trans: ∀ {s t u},cmpL s t<0->cmpL t u<0->cmpL s u<0
 | [],[],_,h,_=>by simp[cmpL]at h
 | [],_::_,[],_,h=>by simp[cmpL]at h
 | [],_::_,_::_,_,_=>by simp[cmpL]
 |_::_,[],_,h,_=>by simp[cmpL]at h
 |_::_,_::_,[],_,h=>by simp[cmpL]at h
 |a::s,b::t,c::u,h1,h2=>by
  simp only[cmpL]at*
  by_cases e1:a=b
  ·rw[if_pos e1]at h1
   by_cases e2:b=c
   ·rw[if_pos e2]at h2;rw[if_pos (e1.trans e2)];exact cmpL_trans h1 h2
   ·rw[if_neg e2]at h2;rw[e1,if_neg e2];exact h2
  ·rw[if_neg e1]at h1
   have l1:a<b:=by
    by_cases h:a<b
    ·exact h
    ·rw[if_neg h]at h1;omega
   by_cases e2:b=c
   ·rw[←e2,if_neg e1,if_pos l1];omega
   ·rw[if_neg e2]at h2
    have l2:b<c:=by
     by_cases h:b<c
     ·exact h
     ·rw[if_neg h]at h2;omega
    rw[if_neg (by omega),if_pos (by omega)];omega
def CL:List (List Int)->Bool
 |a::b::l=>decide (cmpL a b<0)&&CL (b::l)
 |_=>true
theorem IR {a:List Int} {l:List (List Int)} (h:CL (a::l)=true):CL l=true:=by
 cases l with
 |nil=>rfl
 |cons b l=>simp only[CL,Bool.and_eq_true]at h;exact h.2
theorem G2: ∀ {a:List Int} {l:List (List Int)},CL (a::l)=true-> ∀b∈l,cmpL a b<0
 |a,[],_,b,hb=>by cases hb
 |a,c::l,h,b,hb=>by
  simp only[CL,Bool.and_eq_true,decide_eq_true_eq]at h
  rcases List.mem_cons.1 hb with rfl|hb
  ·exact h.1
  ·exact cmpL_trans h.1 (G2 h.2 b hb)
theorem Ea: ∀ {l:List (List Int)},CL l=true-> ∀(i j:Nat) (hi:i<j) (hj:j<l.length),cmpL (l[i]'(by omega)) l[j]<0
 | [],_,i,j,_,hj=>by simp at hj
 |a::l,h,0,j+1,_,hj=>by
  simp only[List.getElem_cons_zero,List.getElem_cons_succ]
  exact G2 h _ (List.getElem_mem _)
 |a::l,h,i+1,j+1,hi,hj=>by
  simp only[List.getElem_cons_succ]
  exact Ea (IR h) i j (by omega) (by simpa using hj)
theorem HG {l:List (List Int)}:CL l=true↔ ∀(i:Nat) (hi:i+1<l.length),cmpL (l[i]'(by omega)) l[i+1]<0:=by
 constructor
 ·exact λh i hi=>Ea h i (i+1) (by omega) hi
 ·induction l with
  |nil=>intro _;rfl
  |cons a l ih=>
   intro h
   cases l with
   |nil=>rfl
   |cons b l=>
    simp only[CL,Bool.and_eq_true,decide_eq_true_eq]
    exact⟨h 0 (by simp),ih λi hi=>by have:=h (i+1) (by simpa using hi);simpa using this⟩
end T
open Go Go.Va
namespace T
theorem G8 {n:Int} (h0:0<=n) (h8:n<=8): ∀k:Nat,0<=n^k/\n^k<=8^k
 |0=>by simp
 |k+1=>by
  obtain⟨h1,h2⟩:=G8 h0 h8 k
  rw[Int.pow_succ,Int.pow_succ]
  exact⟨Int.mul_nonneg h1 h0,Int.mul_le_mul h2 h8 h0 (by have:(0:Int)<=8^k:=Int.le_trans h1 h2;exact this)⟩
theorem Kf: ∀k:Nat,k<=20->(8:Int)^k<=8^20:=by
 intro k hk
 have:((8^k:Nat):Int)<=((8^20:Nat):Int):=Int.ofNat_le.2 (Nat.pow_le_pow_right (by omega) hk)
 simpa using this
theorem If {n:Int} (h0:0<=n) (h8:n<=8) {k:Nat} (hk:k<=20):0<=n^k/\n^k<=1152921504606846976:=by
  obtain⟨h1,h2⟩:=G8 h0 h8 k
  have:=Kf k hk
  exact ⟨h1, by have e : (8 : Int) ^ 20 = 1152921504606846976 := by decide
                omega⟩
theorem JG {n:Int} (h0:0<=n) (h8:n<=8): ∀(m k j:Nat),j+k<=20->k<m->Cm m (n,(k:Int),n^j)=some (n^(j+k)):=by
 intro m
 induction m with
 |zero=>intro k j _ h;omega
 |succ m ih=>
  intro k j hj hk
  simp only[Cm]
  cases k with
  |zero=>simp
  |succ k=>
   have e:w64 (((k+1:Nat):Int)-1)=(k:Int):=by rw[AE (by omega) (by omega)];omega
   have hb:=If h0 h8 (k:=j+1) (by omega)
   rw[Int.pow_succ]at hb
   rw[e,AE (by omega) (by omega),←Int.pow_succ,if_pos (by simp),ih k (j+1) (by omega) (by omega)]
   congr 2<;>omega
theorem GO {n:Int} (h0:0<=n) (h8:n<=8) {k:Nat} (hk:k<=20):B5 n (k:Int)=some (n^k):=by
 unfold B5
 have:=JG h0 h8 Aa k 0 (by omega) (by unfold Aa;omega)
 rw[Int.pow_zero]at this
 rw[this];simp
theorem Jv {n:Int} (h0:0<=n) (h8:n<=8): ∀(m k j:Nat),j+k<=20->k<m->Cn m (n,(k:Int),n^j)=some (n^(j+k)):=by
 intro m
 induction m with
 |zero=>intro k j _ h;omega
 |succ m ih=>
  intro k j hj hk
  simp only[Cn]
  cases k with
  |zero=>simp
  |succ k=>
   have e:w64 (((k+1:Nat):Int)-1)=(k:Int):=by rw[AE (by omega) (by omega)];omega
   have hb:=If h0 h8 (k:=j+1) (by omega)
   rw[Int.pow_succ]at hb
   rw[e,AE (by omega) (by omega),←Int.pow_succ,if_pos (by simp),ih k (j+1) (by omega) (by omega)]
   congr 2<;>omega
theorem En {n:Int} (h0:0<=n) (h8:n<=8) {k:Nat} (hk:k<=20):BD n (k:Int)=some (n^k):=by
 unfold BD
 have:=Jv h0 h8 Aa k 0 (by omega) (by unfold Aa;omega)
 rw[Int.pow_zero]at this
 rw[this];simp
def Hi (n:Int):Int->List Int->Int
 |i,[]=>i
 |i,a::l=>Hi n (i*n+a) l
def idx (n:Int) (l:List Int):Int:=Hi n 0 l
theorem Hj (n:Int): ∀(l:List Int) (i:Int),Hi n i l=i*n^l.length+Hi n 0 l
 | [],i=>by simp[Hi]
 |a::l,i=>by
  simp only[Hi,List.length_cons]
  rw[Hj n l (i*n+a),Hj n l (0*n+a),Int.pow_succ]
  simp only[Int.zero_mul,Int.zero_add]
  rw[Int.add_mul,Int.mul_assoc,Int.mul_comm n (n^l.length)]
  omega
theorem Gj (n a:Int) (l:List Int):idx n (a::l)=a*n^l.length+idx n l:=by
 unfold idx
 simp only[Hi]
 rw[Hj];simp
theorem EK {n a:Int} {l:List Int}:Bl n (a::l)=true↔(0<=a/\a<n)/\Bl n l=true:=by
 unfold Bl;simp[List.all_cons]
theorem Gi {n:Int}: ∀ {l:List Int},Bl n l=true->0<=idx n l/\idx n l<n^l.length
 | [],_=>by simp[idx,Hi]
 |a::l,h=>by
  obtain⟨h1,h2⟩:=EK.1 h
  obtain⟨h3,h4⟩:=Gi h2
  rw[Gj,List.length_cons,Int.pow_succ]
  have hp:0<=n^l.length:=by omega
  have k1:=Int.mul_nonneg h1.1 hp
  have k2:=Int.mul_le_mul_of_nonneg_right (show a+1<=n by omega) hp
  rw[Int.add_mul,Int.one_mul,Int.mul_comm n]at k2
  exact⟨by omega,by omega⟩
theorem Iv {n:Int}: ∀ {s t:List Int},Bl n s=true->Bl n t=true->s.length=t.length->(cmpL s t<0↔idx n s<idx n t)/\(cmpL s t=0↔idx n s=idx n t)
 | [],[],_,_,_=>by simp[cmpL,idx,Hi]
 | [],_::_,_,_,h=>by simp at h
 |_::_,[],_,_,h=>by simp at h
 |a::s,b::t,hs,ht,hl=>by
  obtain⟨s1,s2⟩:=EK.1 hs
  obtain⟨t1,t2⟩:=EK.1 ht
  have hl':s.length=t.length:=by simpa using hl
  have ih:=Iv s2 t2 hl'
  obtain⟨b1,b2⟩:=Gi s2
  obtain⟨c1,c2⟩:=Gi t2
  rw[Gj,Gj,hl']
  rw[hl']at b2
  simp only[cmpL]
  have hp:0<=n^t.length:=by omega
  rcases Int.lt_trichotomy a b with h|h|h
  ·have:=Int.mul_le_mul_of_nonneg_right (show a+1<=b by omega) hp
   rw[Int.add_mul,Int.one_mul]at this
   rw[if_neg (by omega),if_pos h]
   exact⟨by constructor<;>intro<;>omega,by constructor<;>intro<;>omega⟩
  ·subst h
   rw[if_pos rfl]
   exact⟨by rw[ih.1];constructor<;>intro<;>omega,by rw[ih.2];constructor<;>intro<;>omega⟩
  ·have:=Int.mul_le_mul_of_nonneg_right (show b+1<=a by omega) hp
   rw[Int.add_mul,Int.one_mul]at this
   rw[if_neg (by omega),if_neg (by omega)]
   exact⟨by constructor<;>intro<;>omega,by constructor<;>intro<;>omega⟩
theorem FF {n:Int} {k:Nat} {l:List (List Int)} (hi:CL l=true) (hv: ∀t∈l,t.length=k/\Bl n t=true):(l.length:Int)<=n^k∨l= []:=by
 have key: ∀(i:Nat) (h:i<l.length),(i:Int)<=idx n l[i]:=by
  intro i
  induction i with
  |zero=>intro h;exact(Gi (hv _ (List.getElem_mem h)).2).1
  |succ i ih=>
   intro h
   have h1:=ih (by omega)
   obtain⟨l1,b1⟩:=hv _ (List.getElem_mem (show i<l.length by omega))
   obtain⟨l2,b2⟩:=hv _ (List.getElem_mem h)
   have:=(Iv b1 b2 (l1.trans l2.symm)).1.1 (Ea hi i (i+1) (by omega) h)
   omega
 cases hn:l.length with
 |zero=>exact .inr (List.length_eq_zero_iff.1 hn)
 |succ m=>
  left
  have h:=key m (by omega)
  obtain⟨l1,b1⟩:=hv _ (List.getElem_mem (show m<l.length by omega))
  have:=(Gi b1).2
  rw[l1]at this
  omega
theorem J2 {list:List (List Int)} {t:List Int} {k:Nat} (hl:list.length<=1099511627775) (hk:k<=1099511627775) (hv: ∀u∈list,u.length=k) (ht:t.length=k) (hi:CL list=true): ∀(m a b:Nat),a<=b->b<=list.length->b-a<m->
  (∀i (h:i<list.length),i<a->cmpL list[i] t<0)->(∀i (h:i<list.length),b<=i-> ¬cmpL list[i] t<0)->
  ∃c:Nat,Cz m (list,t,(a:Int),(b:Int))=some (list,t,(c:Int))/\c<=list.length/\(∀i (h:i<list.length),i<c->cmpL list[i] t<0)/\(∀i (h:i<list.length),c<=i-> ¬cmpL list[i] t<0):=by
 intro m
 induction m with
 |zero=>intro a b _ _ h;omega
 |succ m ih=>
  intro a b hab hb hm h1 h2
  simp only[Cz]
  by_cases hlt:a<b
  ·have emid:w64 (Int.tdiv (w64 ((a:Int)+b)) 2)=(((a+b)/2:Nat):Int):=by
    rw[AE (x:=(a:Int)+b) (by omega) (by omega),Int.tdiv_eq_ediv_of_nonneg (by omega),AE (by omega) (by omega)];omega
   have hmid:(a+b)/2<list.length:=by omega
   rw[emid]
   have hless:=E0 (s:=list[(a+b)/2]) (t:=t) (by rw[hv _ (List.getElem_mem hmid)];omega) (by rw[hv _ (List.getElem_mem hmid),ht])
   simp only[Ae,Aj hmid,hless,Option.bind_some,Ac (show(a+b)/2<4611686018427387904 by omega)]
   by_cases hc:cmpL list[(a+b)/2] t<0
   ·obtain⟨c,e,k1,k2,k3⟩:=ih ((a+b)/2+1) b (by omega) hb (by omega) (λi h hi'=>by
     rcases Nat.lt_or_ge i ((a+b)/2)with h'|h'
     ·exact cmpL_trans (Ea hi i ((a+b)/2) h' hmid) hc
     ·have:i=(a+b)/2:=by omega
      subst this;exact hc) h2
    exact⟨c,by simpa[hlt,hmid,hc]using e,k1,k2,k3⟩
   ·obtain⟨c,e,k1,k2,k3⟩:=ih a ((a+b)/2) (by omega) (by omega) (by omega) h1 (λi h hi' hneg=>by
     rcases Nat.lt_or_ge ((a+b)/2) i with h'|h'
     ·exact hc (cmpL_trans (Ea hi ((a+b)/2) i h' h) hneg)
     ·have:i=(a+b)/2:=by omega
      subst this;exact hc hneg)
    exact⟨c,by simpa[hlt,hmid,hc]using e,k1,k2,k3⟩
  ·have:a=b:=by omega
   subst this
   exact⟨a,by simp,hb,h1,h2⟩
theorem D6 {list:List (List Int)} {t:List Int} {k:Nat} (hl:list.length<=1099511627774) (hk:k<=1099511627775) (hv: ∀u∈list,u.length=k) (ht:t.length=k) (hi:CL list=true):
  ∃c:Nat,DO list t=some ((c:Int),decide (t∈list))/\c<=list.length/\(∀i (h:i<list.length),i<c->cmpL list[i] t<0)/\(∀i (h:i<list.length),c<=i-> ¬cmpL list[i] t<0):=by
 obtain⟨c,e,k1,k2,k3⟩:=J2 (by omega) hk hv ht hi Aa 0 list.length (Nat.zero_le _) (Nat.le_refl _) (by unfold Aa;omega) (λi _ h=>by omega) (λi h h'=>by omega)
 refine⟨c,?_,k1,k2,k3⟩
 unfold DO
 have e':Cz Aa (list,t,0,(list.length:Int))=some (list,t,(c:Int)):=e
 rw[e']
 simp only[Option.bind_some]
 by_cases hc:c<list.length
 ·have hs:=EX (a:=list[c]) (b:=t) (by rw[hv _ (List.getElem_mem hc)];omega)
  simp only[Ae,Aj hc,hs,Option.bind_some]
  have:decide (list[c]=t)=decide (t∈list):=by
   by_cases h:list[c]=t
   ·rw[decide_eq_true h,decide_eq_true (h▸List.getElem_mem hc)]
   ·rw[decide_eq_false h]
    symm;rw[decide_eq_false_iff_not]
    intro hm
    obtain⟨j,hj,rfl⟩:=List.mem_iff_getElem.1 hm
    have hne:j≠c:=λe=>h (by subst e;rfl)
    rcases Nat.lt_or_ge j c with hlt|hge
    ·have:=k2 j hj hlt;rw[cmpL_refl]at this;omega
    ·exact k3 c hc (Nat.le_refl _) (Ea hi c j (by omega) hj)
  simp[hc,this]
 ·have:decide (t∈list)=false:=by
   rw[decide_eq_false_iff_not]
   intro hm
   obtain⟨j,hj,rfl⟩:=List.mem_iff_getElem.1 hm
   have:=k2 j hj (by omega);rw[cmpL_refl]at this;omega
  rw[if_neg (by simp;omega),this]
end T
open Go Go.Va
namespace T
def HX (n:Int):Bool:=decide (1<=n/\n<=8)
theorem GK (n:Int):E1 n=some (HX n):=by
 unfold E1 HX
 rw[BE];simp
def Lu (n k:Int) (t:List Int):Bool:=decide ((t.length:Int)=k)&&Bl n t
def KX (n k:Int) (ts:List (List Int)):Bool:=HX n&&decide (1<=k/\k<=4)&&ts.all (Lu n k)&&CL ts
theorem Jo {α:Type} {l:List α} {i:Nat} {d:α} (h:i<l.length):l.getD i d=l[i]:=by simp[h]
end T
open Go Go.Va
namespace T
structure SetOk (p:Int) (k:Nat) (ts:List (List Int)):Prop where
 hp:2<=p/\p<=7
 hk:k<=4
 len: ∀t∈ts,t.length=k
 el: ∀t∈ts,Bl p t=true
 inc:CL ts=true
section
variable {p:Int} {k:Nat} {ts:List (List Int)}
theorem SetOk.get (h:SetOk p k ts) {t:List Int} (ht:t∈ts) {i:Nat} (hi:i<k):i<t.length/\0<=t.getD i 0/\t.getD i 0<p:=by
 have hl:=h.len t ht
 have:=Eu (h.el t ht) i (by omega)
 rw[Jo (by omega)]
 exact⟨by omega,this⟩
end
end T
set_option linter.unusedVariables false
open Go Go.Va
namespace T
def B9:Nat->(Int×(Int×(List (List Int)))×Int)->Option ((Unit)⊕(Bool))
 |0,_=>none
 |n+1,(n_,r,i)=>
 if decide (i<(r.2.length:Int))then
 if inb i r.2 then
 (EC n_ r.1 (gd r.2 i [])).bind λr3=>
 if !r3 then
 some (.inr false)
 else
 if decide (i>0)then
 if inb (w64 (i-1)) r.2 then
 if inb i r.2 then
 (EZ (gd r.2 (w64 (i-1)) []) (gd r.2 i [])).bind λr4=>
 if !r4 then
 some (.inr false)
 else
 B9 n (n_,(r.1,r.2),w64 (i+1))
 else none
 else none
 else
 B9 n (n_,(r.1,r.2),w64 (i+1))
 else none
 else
 some (.inl ())
def DY (n_:Int) (r:Int×(List (List Int))):Option (Bool):=
 (Cg r.1 1 3).bind λr1=>
  if !r1 then
   some false
  else
   (BD n_ r.1).bind λr2=>
    if decide ((r.2.length:Int)>r2)then
     some false
    else
     (B9 Aa (n_,(r.1,r.2),0)).bind λs3=>
      match s3 with
      | .inl s4=>
       some true
      | .inr s5=>
       some s5
def Fj (vars:Int) (size:Int) (c:(List Int)×Int×(List (List Int))):Option (Bool):=
 (DY size (c.2.1,c.2.2)).bind λr1=>
 if r1 then
 if(c.1.length:Int)==c.2.1 then
 (CI vars c.1).bind λr2=>
 some r2
 else
 some false
 else
 some false
def CH:Nat->((Int×Int×(List ((List Int)×Int×(List (List Int)))))×Int)->Option ((Unit)⊕(Bool))
 |0,_=>none
 |n+1,(net,i)=>
 if decide (i<(net.2.2.length:Int))then
 if inb i net.2.2 then
 (Fj net.1 net.2.1 (gd net.2.2 i ([],(0,[])))).bind λr3=>
 if !r3 then
 some (.inr false)
 else
 CH n ((net.1,(net.2.1,net.2.2)),w64 (i+1))
 else none
 else
 some (.inl ())
def C6 (net:Int×Int×(List ((List Int)×Int×(List (List Int))))):Option (Bool):=
 (Cg net.1 0 9).bind λr1=>
  if !r1 then
   some false
  else
   (Cg net.2.1 1 4).bind λr2=>
    if !r2 then
     some false
    else
     if decide ((net.2.2.length:Int)>40)then
      some false
     else
      (CH Aa ((net.1,(net.2.1,net.2.2)),0)).bind λs3=>
       match s3 with
       | .inl s4=>
        some true
       | .inr s5=>
        some s5
def Bh (l:List Int):Option ((List Int)):=
 if([]:List Int).length+l.length<=lim then
 some ([]++l)
 else none
def Co (n_:Int):Option (Bool):=
 if decide (n_≥1)then
 some (decide (n_<=4))
 else
 some false
def BB:Nat->(Int×(Int×(List (List Int)))×(List (List Int))×Int×Int)->Option ((Unit)⊕(Bool))
 |0,_=>none
 |n+1,(n_,r,t16,t17,t18)=>
 if decide (t18<t17)then
 if inb t18 t16 then
 if((gd t16 t18 []).length:Int) !=r.1 then
 some (.inr false)
 else
 (Dk (gd t16 t18 []) n_).bind λr1=>
 if !r1 then
 some (.inr false)
 else
 if decide (t18>0)then
 if inb (w64 (t18-1)) r.2 then
 (D8 (gd r.2 (w64 (t18-1)) []) (gd t16 t18 [])).bind λr2=>
 if decide (r2≥0)then
 some (.inr false)
 else
 BB n (n_,(r.1,r.2),t16,t17,w64 (t18+1))
 else none
 else
 BB n (n_,(r.1,r.2),t16,t17,w64 (t18+1))
 else none
 else
 some (.inl ())
def Dc (n_:Int) (r:Int×(List (List Int))):Option (Bool):=
 if decide (r.1<1)then
  some false
 else
  if decide (r.1>3)then
   some false
  else
   (BB Aa (n_,(r.1,r.2),r.2,(r.2.length:Int),0)).bind λs1=>
    match s1 with
    | .inl s2=>
     some true
    | .inr s3=>
     some s3
def Dr (vars:Int) (size:Int) (c:(List Int)×Int×(List (List Int))):Option (Bool):=
 (Dc size (c.2.1,c.2.2)).bind λr1=>
 if r1 then
 if(c.1.length:Int)==c.2.1 then
 (Dk c.1 vars).bind λr2=>
 some r2
 else
 some false
 else
 some false
def Ci:Nat->((Int×Int×(List ((List Int)×Int×(List (List Int)))))×(List ((List Int)×Int×(List (List Int))))×Int×Int)->Option ((Unit)⊕(Bool))
 |0,_=>none
 |n+1,(net,t26,t27,t28)=>
 if decide (t28<t27)then
 if inb t28 t26 then
 (Dr net.1 net.2.1 ((gd t26 t28 ([],(0,[]))).1,(((gd t26 t28 ([],(0,[]))).2).1,((gd t26 t28 ([],(0,[]))).2).2))).bind λr2=>
 if !r2 then
 some (.inr false)
 else
 Ci n ((net.1,(net.2.1,net.2.2)),t26,t27,w64 (t28+1))
 else none
 else
 some (.inl ())
def B2 (net:Int×Int×(List ((List Int)×Int×(List (List Int))))):Option (Bool):=
 if decide (net.1<0)then
  some false
 else
  if decide (net.1>9)then
   some false
  else
   (Co net.2.1).bind λr1=>
    if !r1 then
     some false
    else
     if decide ((net.2.2.length:Int)>40)then
      some false
     else
      (Ci Aa ((net.1,(net.2.1,net.2.2)),net.2.2,(net.2.2.length:Int),0)).bind λs2=>
       match s2 with
       | .inl s3=>
        some true
       | .inr s4=>
        some s4
end T
open Go Go.Va
namespace T
abbrev Con:=List Int×Int×List (List Int)
abbrev Net:=Int×Int×List Con
def IC (a:List (List Int)):Prop:=a.length<=1048576/\ ∀r∈a,r.length<=1048576
def JW (c:Con):Prop:=c.1.length<=1048576/\IC c.2.2
def FY (a:Net):Prop:=a.2.2.length<=1048576/\ ∀c∈a.2.2,JW c
def Ex (n:Int) (r:Int×List (List Int)):Bool:=decide (1<=r.1/\r.1<=3)&&(r.2.all λt=>decide ((t.length:Int)=r.1)&&Bl n t)&&CL r.2
def GL (n:Int) (r:Int×List (List Int)) (k:Nat):Bool:=decide (((r.2.getD k []).length:Int)=r.1)&&Bl n (r.2.getD k [])&&(decide (k=0)||decide (cmpL (r.2.getD (k-1) []) (r.2.getD k [])<0))
theorem Ai {α:Type} {l:List α} {k:Nat} {d:α} (h:k<l.length):l.getD k d=l[k]:=by simp[List.getD_eq_getElem?_getD,h]
theorem Hc {n ar:Int} {ts:List (List Int)}:(List.range ts.length).all (GL n (ar,ts))=((ts.all λt=>decide ((t.length:Int)=ar)&&Bl n t)&&CL ts):=by
 rw[Bool.eq_iff_iff,Bool.and_eq_true,List.all_eq_true,List.all_eq_true,HG]
 unfold GL
 constructor
 ·intro h
  refine⟨λt ht=>?_,λi hi=>?_⟩
  ·obtain⟨k,hk,rfl⟩:=List.getElem_of_mem ht
   have:=h k (List.mem_range.2 hk)
   rw[Ai hk]at this
   simp only[Bool.and_eq_true]at this
   rw[Bool.and_eq_true];exact this.1
  ·have:=h (i+1) (List.mem_range.2 hi)
   rw[Ai hi,Nat.add_sub_cancel,Ai (show i<ts.length by omega)]at this
   simp at this
   exact this.2
 ·rintro ⟨h1,h2⟩ k hk
  have hk:=List.mem_range.1 hk
  have e:=h1 _ (List.getElem_mem hk)
  rw[Ai hk]
  rw[Bool.and_eq_true]at e
  rw[Bool.and_eq_true,Bool.and_eq_true]
  refine⟨e,?_⟩
  cases k with
  |zero=>simp
  |succ i=>
   have:=h2 i hk
   rw[Nat.add_sub_cancel,Ai (show i<ts.length by omega)]
   simp[this]
theorem D4 {n:Int} {r:Int×List (List Int)} (h:IC r.2):Dc n r=some (Ex n r):=by
 obtain⟨ar,ts⟩:=r
 unfold Dc Ex
 by_cases h1:ar<1
 ·simp[h1,show¬1<=ar by omega]
 ·by_cases h2:ar>3
  ·simp[h1,h2,show¬ar<=3 by omega]
  ·rw[if_neg (by simpa using h1),if_neg (by simpa using h2)]
   have key:=KF ts.length (λm (_:Unit) i=>BB m (n,(ar,ts),ts,(ts.length:Int),i)) (λ_=>()) (GL n (ar,ts)) (r:=some (.inr false)) (e:=some (.inl ())) (λm k hk=>?_) (λm=>?_) (n:=Aa) (by unfold Aa;have:=h.1;simp at this;omega)
   ·rw[key,Hc]
    simp only[show(1<=ar/\ar<=3)=True by simp;omega,decide_true,Bool.true_and]
    cases (ts.all λt=>decide ((t.length:Int)=ar)&&Bl n t)&&CL ts<;>simp
   ·have hx:=h.2 ts[k] (List.getElem_mem hk)
    have hk':=h.1
    simp only at hk'
    simp only[BB,Ae,Aj hk,Ac (show k<4611686018427387904 by omega),Dq n (show ts[k].length<=1099511627775 by omega),GL,Ai hk]
    by_cases hl:(ts[k].length:Int)=ar
    ·cases hb:Bl n ts[k]with
     |false=>simp[hk,hl]
     |true=>
      cases k with
      |zero=>simp[hk,hl]
      |succ i=>
       have hi:i<ts.length:=by omega
       have hx2:=h.2 ts[i] (List.getElem_mem hi)
       have e:w64 (((i+1:Nat):Int)-1)=(i:Int):=by rw[AE (by omega) (by omega)];omega
       simp only[e,Ae,Aj hi,Nat.add_sub_cancel,Ai hi,EN (show ts[i].length<=1099511627775 by omega)]
       by_cases hc:cmpL ts[i] ts[i+1]<0
       ·simp[hk,hl,hi,hc,show¬cmpL ts[i] ts[i+1]≥0 by omega];omega
       ·simp[hk,hl,hi,hc,show cmpL ts[i] ts[i+1]≥0 by omega];omega
    ·simp[hk,hl]
   ·simp[BB]
theorem EG {n:Int} {r:Int×List (List Int)} (h:IC r.2) (hn:1<=n/\n<=8):DY n r=some (Ex n r):=by
 obtain⟨ar,ts⟩:=r
 unfold DY Ex
 rw[BE]
 by_cases h1:1<=ar/\ar<=3
 ·simp only[h1,and_self,decide_true,Option.bind_some,Bool.not_true,Bool.false_eq_true,if_false,Bool.true_and]
  obtain⟨m,rfl⟩: ∃m:Nat,ar=m:=⟨ar.toNat,by omega⟩
  rw[En (by omega) (by omega) (by omega)]
  simp only[Option.bind_some]
  have key:=Lo ts.length (λm' (_:Unit) i=>B9 m' (n,((m:Int),ts),i)) (λ_=>()) (GL n ((m:Int),ts)) (r:=some (.inr false)) (e:=some (.inl ())) (λm' k hk hb0=>?_) (λm' _=>?_) (n:=Aa) (by unfold Aa;have:=h.1;simp at this;omega)
  ·by_cases hc:(ts.length:Int)>n^m
   ·rw[if_pos (by simpa using hc)]
    by_cases hv:((ts.all λt=>decide ((t.length:Int)=m)&&Bl n t)&&CL ts)=true
    ·rw[Bool.and_eq_true,List.all_eq_true]at hv
     rcases FF (k:=m) hv.2 λt ht=>by have:=hv.1 t ht;simp at this;exact⟨by omega,this.2⟩with h2|h2
     ·omega
     ·subst h2
      have:=If (n:=n) (by omega) (by omega) (k:=m) (by omega)
      simp at hc;omega
    ·simp only[Bool.not_eq_true]at hv;rw[hv]
   ·rw[if_neg (by simpa using hc),key,Hc]
    cases (ts.all λt=>decide ((t.length:Int)=m)&&Bl n t)&&CL ts<;>simp
  ·have hx:=h.2 ts[k] (List.getElem_mem hk)
   have hk':=h.1
   simp only at hk'
   simp only[B9,Ae,Aj hk,Ac (show k<4611686018427387904 by omega),F6 (n:=n) _ (by omega) (by omega) (show ts[k].length<=1099511627775 by omega),GL,Ai hk]
   by_cases hl:(ts[k].length:Int)=m
   ·cases hb:Bl n ts[k]with
    |false=>simp[hk,hl]
    |true=>
     cases k with
     |zero=>simp[hk,hl]
     |succ i=>
      have hi:i<ts.length:=by omega
      have hx2:=h.2 ts[i] (List.getElem_mem hi)
      have e:w64 (((i+1:Nat):Int)-1)=(i:Int):=by rw[AE (by omega) (by omega)];omega
      simp only[e,Ae,Aj hi,Nat.add_sub_cancel,Ai hi]
      have hb1:=hb0 i (by omega)
      simp only[GL,Ai hi,Bool.and_eq_true,decide_eq_true_eq]at hb1
      rw[E0 (s:=ts[i]) (t:=ts[i+1]) (by omega) (by have:=hb1.1.1;omega)]
      by_cases hc:cmpL ts[i] ts[i+1]<0
      ·simp[hk,hl,hi,hc];omega
      ·simp[hk,hl,hi,hc];omega
   ·simp[hk,hl]
  ·simp[B9]
 ·have: ¬(1<=ar/\ar<=3):=h1
  simp[this]
end T
open Go Go.Va
namespace T
def Ff (v n:Int) (c:Con):Bool:=Ex n (c.2.1,c.2.2)&&decide ((c.1.length:Int)=c.2.1)&&Bl v c.1
def CR (a:Net):Bool:=decide (0<=a.1/\a.1<=9)&&decide (1<=a.2.1/\a.2.1<=4)&&decide (a.2.2.length<=40)&&a.2.2.all (Ff a.1 a.2.1)
theorem EP {v n:Int} {c:Con} (h:JW c):Dr v n c=some (Ff v n c):=by
 unfold Dr Ff
 rw[D4 (r:=(c.2.1,c.2.2)) h.2]
 cases Ex n (c.2.1,c.2.2)with
 |false=>simp
 |true=>
  by_cases hl:(c.1.length:Int)=c.2.1
  ·simp[hl,Dq v (show c.1.length<=1099511627775 by have:=h.1;omega)]
  ·simp[hl]
theorem GR {v n:Int} {c:Con} (h:JW c) (hv:0<=v/\v<=9) (hn:1<=n/\n<=8):Fj v n c=some (Ff v n c):=by
 unfold Fj Ff
 rw[EG (r:=(c.2.1,c.2.2)) h.2 hn]
 cases Ex n (c.2.1,c.2.2)with
 |false=>simp
 |true=>
  by_cases hl:(c.1.length:Int)=c.2.1
  ·simp[hl,Dj (l:=c.1) (n:=v) (by omega) (by omega) (show c.1.length<=1099511627775 by have:=h.1;omega)]
  ·simp[hl]
theorem Cj {a:Net} (h:FY a):B2 a=some (CR a):=by
 obtain⟨v,n,cs⟩:=a
 unfold B2 CR
 by_cases h1:v<0
 ·simp[h1,show¬0<=v by omega]
 ·by_cases h2:v>9
  ·simp[h1,h2,show¬v<=9 by omega]
  ·rw[if_neg (by simpa using h1),if_neg (by simpa using h2)]
   unfold Co
   by_cases h3:1<=n/\n<=4
   ·by_cases h4:cs.length>40
    ·simp[h3,show¬cs.length<=40 by omega];omega
    ·have key:=FA cs (λm i=>Ci m ((v,(n,cs)),cs,(cs.length:Int),i)) (Ff v n) (.inr false) (.inl ()) ?_ ?_ (n:=Aa) (by unfold Aa;omega)
     ·simp only[h3,ge_iff_le,decide_true,if_true,Option.bind_some,Bool.not_true,Bool.false_eq_true,if_false]
      rw[if_neg (by simp;omega),key]
      cases cs.all (Ff v n)<;>simp<;>omega
     ·intro m k hk
      simp only[Ci,Ae,Aj hk,Ac (show k<4611686018427387904 by omega),EP (c:=cs[k]) (h.2 _ (List.getElem_mem hk))]
      cases hb:Ff v n cs[k]<;>simp[hk,hb]
     ·intro m
      simp[Ci]
   ·by_cases h5:n≥1
    ·simp[h5,show¬n<=4 by omega]
    ·simp[h5,show¬1<=n by omega]
theorem Df {a:Net} (h:FY a):C6 a=some (CR a):=by
 obtain⟨v,n,cs⟩:=a
 unfold C6 CR
 rw[BE,BE]
 by_cases h1:0<=v/\v<=9
 ·by_cases h3:1<=n/\n<=4
  ·by_cases h4:cs.length>40
   ·simp[h1,h3,show¬cs.length<=40 by omega];omega
   ·have key:=FA cs (λm i=>CH m ((v,(n,cs)),i)) (Ff v n) (.inr false) (.inl ()) ?_ ?_ (n:=Aa) (by unfold Aa;omega)
    ·simp only[h1,h3,and_self,decide_true,Option.bind_some,Bool.not_true,Bool.false_eq_true,if_false]
     rw[if_neg (by simp;omega),key]
     cases cs.all (Ff v n)<;>simp<;>omega
    ·intro m k hk
     simp only[CH,Ae,Aj hk,Ac (show k<4611686018427387904 by omega),GR (c:=cs[k]) (h.2 _ (List.getElem_mem hk)) h1 (show 1<=n/\n<=8 by omega)]
     cases hb:Ff v n cs[k]<;>simp[hk,hb]
    ·intro m
     simp[CH]
  ·simp[h1,h3]
 ·simp[h1]
structure ConOk (v n:Int) (c:Con):Prop where
 ar:1<=c.2.1/\c.2.1<=3
 sl:(c.1.length:Int)=c.2.1
 sv: ∀(i:Nat) (hi:i<c.1.length),0<=c.1[i]/\c.1[i]<v
 tl: ∀t∈c.2.2,t.length=c.1.length
 tv: ∀t∈c.2.2,∀(i:Nat) (hi:i<t.length),0<=t[i]/\t[i]<n
 inc:CL c.2.2=true
 many:c.2.2.length<=64
structure NetOk (a:Net):Prop where
 hv:0<=a.1/\a.1<=9
 hn:1<=a.2.1/\a.2.1<=4
 hc:a.2.2.length<=40
 con: ∀c∈a.2.2,ConOk a.1 a.2.1 c
theorem KD {v n:Int} {c:Con} (hn:1<=n/\n<=4) (h:Ff v n c=true):ConOk v n c:=by
 unfold Ff Ex at h
 simp only[Bool.and_eq_true,decide_eq_true_eq,List.all_eq_true]at h
 obtain⟨⟨⟨⟨h1,h2⟩,h3⟩,h4⟩,h5⟩:=h
 refine⟨h1,h4,λi hi=>Eu h5 i hi,λt ht=>by have:=(h2 t ht).1;omega,λt ht i hi=>Eu (h2 t ht).2 i hi,h3,?_⟩
 rcases FF (n:=n) (k:=c.2.1.toNat) h3 λt ht=>⟨by have:=(h2 t ht).1;omega,(h2 t ht).2⟩with h6|h6
 ·have:n^c.2.1.toNat<=64:=by
   have h7:c.2.1.toNat=1∨c.2.1.toNat=2∨c.2.1.toNat=3:=by omega
   have h8:n=1∨n=2∨n=3∨n=4:=by omega
   rcases h7 with h7|h7|h7<;>rcases h8 with h8|h8|h8|h8<;>rw[h7,h8]<;>decide
  omega
 ·rw[h6];simp
theorem Gt {a:Net} (h:CR a=true):NetOk a:=by
 unfold CR at h
 simp only[Bool.and_eq_true,decide_eq_true_eq,List.all_eq_true]at h
 obtain⟨⟨⟨h1,h2⟩,h3⟩,h4⟩:=h
 exact⟨h1,h2,h3,λc hc=>KD h2 (h4 c hc)⟩
end T
open Go Go.Va
namespace T
theorem JS (a b:Int):(a==b)=decide (a=b):=by by_cases h:a=b<;>simp[h]
theorem JT (a b:Int):(a !=b)=!decide (a=b):=by by_cases h:a=b<;>simp[h]
section
variable {v n up:Int} {c:Con} {vals:List Int}
theorem BU {l:List Int} (h:l.length<=1099511627775):Bh l=some l:=by
 unfold Bh
 rw[if_pos (by unfold lim;simp;omega)];simp
end
end T
open Go Go.Va
namespace T
def IK:Con:=([],0,[])
section
variable {a:Net} {steps:List Int}
end
end T
open Go Go.Va
namespace T
abbrev Dom:=List (List Bool)
def mk (bs:List Bool):List Int:=((List.range bs.length).filter λi=>bs.getD i false).map λi:Nat=>(i:Int)
def d2 (d:Dom) (v x:Nat):Bool:=(d.getD v []).getD x false
theorem AR {α:Type} {l:List α} {i j:Nat} {y d:α}:(l.set i y).getD j d=if i=j/\j<l.length then y else l.getD j d:=by
 simp only[List.getD_eq_getElem?_getD,List.getElem?_set]
 by_cases h:i=j
 ·subst h
  by_cases h2:i<l.length
  ·simp[h2]
  ·simp[h2]
 ·simp[h]
end T
open Go Go.Va
namespace T
abbrev ASt:=Dom×List (Int×Int×Int)
section
variable {a:Net} {K:Nat} {c:Con}
end
end T
open Go Go.Va
namespace T
theorem w1:w64 1=1:=by rw[Hq];rfl
theorem w2:w64 2=2:=by rw[Hq];rfl
section
variable {a:Net}
end
end T
set_option linter.unusedVariables false
open Go Go.Va
namespace T
def Dx:Nat->(Int×(Int×(List Int))×Int)->Option ((Unit)⊕(Bool))
 |0,_=>none
 |n+1,(n_,op,i)=>
 if decide (i<(op.2.length:Int))then
 if inb i op.2 then
 (Cg (gd op.2 i 0) 0 (w64 (n_-1))).bind λr3=>
 if !r3 then
 some (.inr false)
 else
 Dx n (n_,(op.1,op.2),w64 (i+1))
 else none
 else
 some (.inl ())
def FT (n_:Int) (op:Int×(List Int)):Option (Bool):=
 (Cg op.1 0 3).bind λr1=>
  if !r1 then
   some false
  else
   (BD n_ op.1).bind λr2=>
    if(op.2.length:Int) !=r2 then
     some false
    else
     (Dx Aa (n_,(op.1,op.2),0)).bind λs3=>
      match s3 with
      | .inl s4=>
       some true
      | .inr s5=>
       some s5
def FD (f:Int×(List Int)) (n_:Int):Option (Bool):=
 if decide (f.1≥0)then
 if decide (f.1<=3)then
 (B5 n_ f.1).bind λr1=>
 if(f.2.length:Int)==r1 then
 (Dk f.2 n_).bind λr2=>
 some r2
 else
 some false
 else
 some false
 else
 some false
end T
open Go Go.Va
namespace T
abbrev Opn:=Int×List Int
def opB (n:Int) (f:Opn):Bool:=decide (0<=f.1/\f.1<=3)&&decide ((f.2.length:Int)=n^f.1.toNat)&&Bl n f.2
theorem Hk {n:Int} (hn:0<=n/\n<=8) {f:Opn} (h:f.2.length<=1048576):FD f n=some (opB n f):=by
 obtain⟨ar,l⟩:=f
 unfold FD opB
 by_cases h0:0<=ar
 ·by_cases h1:ar<=3
  ·obtain⟨m,rfl⟩: ∃m:Nat,ar=m:=⟨ar.toNat,by omega⟩
   have hm:B5 n (m:Int)=some (n^m):=GO hn.1 hn.2 (by omega)
   simp only[ge_iff_le,h0,h1,decide_true,if_true,hm,Option.bind_some,Dq n (show l.length<=1099511627775 by simp at h;omega),Int.toNat_natCast,and_self,Bool.true_and,JS]
   by_cases hl:(l.length:Int)=n^m<;>simp[hl]
  ·simp[h0,h1]
 ·simp[h0]
theorem Hn {n:Int} (hn:0<=n/\n<=8) {f:Opn} (h:f.2.length<=1048576):FT n f=some (opB n f):=by
 obtain⟨ar,l⟩:=f
 unfold FT opB
 rw[BE]
 by_cases h0:0<=ar/\ar<=3
 ·obtain⟨m,rfl⟩: ∃m:Nat,ar=m:=⟨ar.toNat,by omega⟩
  have hm:BD n (m:Int)=some (n^m):=En hn.1 hn.2 (by omega)
  have hw:w64 (n-1)=n-1:=AE (by omega) (by omega)
  have key:=FA l (λk i=>Dx k (n,((m:Int),l),i)) (λx=>decide (0<=x/\x<n)) (.inr false) (.inl ()) ?_ ?_ (n:=Aa) (by unfold Aa;simp at h;omega)
  ·simp only[h0,and_self,decide_true,Option.bind_some,Bool.not_true,Bool.false_eq_true,if_false,hm,key,Int.toNat_natCast,Bool.true_and,JT]
   by_cases hl:(l.length:Int)=n^m
   ·have:Bl n l=l.all λx=>decide (0<=x/\x<n):=rfl
    rw[this]
    cases l.all (λx=>decide (0<=x/\x<n))<;>simp[hl]
   ·simp[hl]
  ·intro k i hi
   simp only at h
   simp only[Dx,Ae,Aj hi,BE,hw,Option.bind_some,Ac (show i<4611686018427387904 by omega)]
   by_cases hx:0<=l[i]/\l[i]<n
   ·simp[hi,hx,show l[i]<=n-1 by omega]
   ·have: ¬(0<=l[i]/\l[i]<=n-1):=by omega
    simp[hi,hx,this]
  ·intro k;simp[Dx]
 ·simp[h0]
section
variable {n:Int} {f:Opn}
variable {a:Net}
end
end T
set_option linter.unusedVariables false
open Go Go.Va
namespace T
def Dl (r:Int×(List (List Int))) (t:List Int):Option (Bool):=
 if(t.length:Int) !=r.1 then
 some false
 else
 (DO r.2 t).bind λr1=>
 some r1.2
def BI:Nat->((List Int)×((List Int)×Int×(List (List Int)))×(List Int)×Int)->Option (((List Int)×Int×(List (List Int)))×(List Int))
 |0,_=>none
 |n+1,(values,c,t,i)=>
 if decide (i<(c.1.length:Int))then
 if inb i c.1 then
 if inb (gd c.1 i 0) values then
 if t.length+ [gd values (gd c.1 i 0) 0].length<=lim then
 BI n (values,(c.1,(c.2.1,c.2.2)),t++ [gd values (gd c.1 i 0) 0],w64 (i+1))
 else none
 else none
 else none
 else
 some ((c.1,(c.2.1,c.2.2)),t)
def CP (c:(List Int)×Int×(List (List Int))) (values:List Int):Option (Bool):=
 (BI Aa (values,(c.1,(c.2.1,c.2.2)),[],0)).bind λs1=>
 (Dl (s1.1.2.1,s1.1.2.2) s1.2).bind λr2=>
 some r2
def CE:Nat->((List Int)×(List Int)×(List Int)×Int×Int)->Option ((List Int))
 |0,_=>none
 |n+1,(g,h,t11,t12,t13)=>
 if decide (t13<t12)then
 if inb t13 t11 then
 if inb (gd t11 t13 0) g then
 if inb t13 h then
 CE n (g,stt h t13 (gd g (gd t11 t13 0) 0),t11,t12,w64 (t13+1))
 else none
 else none
 else none
 else
 some h
def BR (f:List Int) (g:List Int):Option ((List Int)):=
 if 0<=(f.length:Int)/\(f.length:Int)<=(f.length:Int)/\(f.length:Int)<=lim then
 (CE Aa (g,List.replicate (Int.toNat (f.length:Int)) (0:Int),f,(f.length:Int),0)).bind λs1=>
 some s1
 else none
def Cs:Nat->((List Int)×(List Int)×Int×Int)->Option ((Unit)⊕(Bool))
 |0,_=>none
 |n+1,(b,t12,t13,t14)=>
 if decide (t14<t13)then
 if inb t14 t12 then
 if inb t14 b then
 if(gd b t14 0) !=(gd t12 t14 0)then
 some (.inr false)
 else
 Cs n (b,t12,t13,w64 (t14+1))
 else none
 else none
 else
 some (.inl ())
def Ei (a:List Int) (b:List Int):Option (Bool):=
 if(a.length:Int) !=(b.length:Int)then
  some false
 else
  (Cs Aa (b,a,(a.length:Int),0)).bind λs1=>
   match s1 with
   | .inl s2=>
    some true
   | .inr s3=>
    some s3
def CU:Nat->((List Int)×(List (List Int))×Int×Int)->Option ((Unit)⊕(Bool))
 |0,_=>none
 |n+1,(t,t8,t9,t10)=>
 if decide (t10<t9)then
 if inb t10 t8 then
 (Ei t (gd t8 t10 [])).bind λr1=>
 if r1 then
 some (.inr true)
 else
 CU n (t,t8,t9,w64 (t10+1))
 else none
 else
 some (.inl ())
def D9 (r:Int×(List (List Int))) (t:List Int):Option (Bool):=
 (CU Aa (t,r.2,(r.2.length:Int),0)).bind λs1=>
  match s1 with
  | .inl s2=>
   some false
  | .inr s3=>
   some s3
end T
open Go Go.Va
namespace T
def Bq (vs:List Int) (v:Int):Int:=vs.getD v.toNat 0
def Dn (vs:List Int) (c:Con):Bool:=decide (c.1.map (Bq vs)∈c.2.2)
def Ls (l:List Con) (vs:List Int):Bool:=l.all (Dn vs)
def Lq (vars:List Int) (c:Con):Bool:=c.1.all λv=>decide (v∈vars)
def Lr (a:Net) (vars:List Int):List Con:=a.2.2.filter (Lq vars)
section
variable {a:Net}
theorem Db {f g:List Int} (hf:f.length<=1048576) (hg: ∀v∈f,0<=v/\v<g.length):BR f g=some (f.map (Bq g)):=by
 unfold BR
 rw[if_pos (by unfold lim;omega)]
 have:=KE f (λn o i=>CE n (g,o,f,(f.length:Int),i)) (Bq g) some (λn o k hk hlo=>?_) (λn o hlo=>?_) (n:=Aa) (out:=List.replicate (Int.toNat (f.length:Int)) (0:Int)) (by simp) (by unfold Aa;omega)
 ·simp only[this,Option.bind_some]
 ·have hko:k<o.length:=by omega
  have hv:=hg _ (List.getElem_mem hk)
  have e:gd g f[k] 0=Bq g f[k]:=rfl
  simp only[CE,Ae,Aj hk,Dg,Ac (show k<4611686018427387904 by omega),e]
  rw[if_pos (by simp;omega),if_pos hk,if_pos (show inb f[k] g from hv),if_pos hko]
 ·simp[CE]
theorem FE {x y:List Int} (h:x.length<=1048576):Ei x y=some (decide (x=y)):=by
 unfold Ei
 by_cases hl:x.length=y.length
 ·rw[if_neg (by simp[hl])]
  rw[eqX x y hl (λn i=>Cs n (y,x,(x.length:Int),i)) (λn k h1 h2=>?_) (λn=>?_) (n:=Aa) (by unfold Aa;omega)]
  ·by_cases e:x=y<;>simp[e]
  ·simp only[Cs,Ae,Aj h1,Aj h2,Ac (show k<4611686018427387904 by omega)]
   by_cases e:x[k]=y[k]
   ·simp[h1,h2,e]
   ·have e':y[k]≠x[k]:=λh=>e h.symm
    simp[h1,h2,e,e']
  ·simp[Cs]
 ·have:x≠y:=λe=>hl (by rw[e])
  rw[if_pos (by simp;omega)];simp[this]
theorem Gl {r:Int×List (List Int)} {t:List Int} (ht:t.length<=1048576) (hr:r.2.length<=1048576):D9 r t=some (decide (t∈r.2)):=by
 unfold D9
 rw[FA r.2 (λn i=>CU n (t,r.2,(r.2.length:Int),i)) (λy=>!decide (t=y)) (.inr true) (.inl ()) ?_ ?_ (by unfold Aa;omega)]
 ·by_cases hx:t∈r.2
  ·rw[if_neg]
   ·simp[hx]
   ·rw[List.all_eq_true];intro h;have:=h t hx;simp at this
  ·rw[if_pos]
   ·simp[hx]
   ·rw[List.all_eq_true];intro y hy;have:t≠y:=λe=>hx (e▸hy)
    simp[this]
 ·intro n k hk
  simp only[CU,Ae,Aj hk,Ac (show k<4611686018427387904 by omega),FE ht,Option.bind_some]
  by_cases e:t=(r.2)[k]<;>simp[hk,e]
 ·intro n;simp[CU]
theorem DN {v n:Int} {c:Con} (h:ConOk v n c) {vs:List Int} (hv:(vs.length:Int)=v):CP c vs=some (Dn vs c):=by
 unfold CP
 have hsl:=h.sl
 have har:=h.ar
 have hm:=h.many
 have:=CD c.1.length (λn (o:List Int) i=>BI n (vs,(c.1,(c.2.1,c.2.2)),o,i)) (λk=>(c.1.take k).map (Bq vs)) (r:=some ((c.1,(c.2.1,c.2.2)),c.1.map (Bq vs))) (λn k hk=>?_) (λn=>?_) (n:=Aa) (by unfold Aa;omega)
 ·simp only[List.take_zero,List.map_nil]at this
  simp only[this,Option.bind_some]
  unfold Dl
  have hl:((c.1.map (Bq vs)).length:Int)=c.2.1:=by rw[List.length_map];exact hsl
  rw[if_neg (by simpa using hsl)]
  obtain⟨q,e,_⟩:=D6 (list:=c.2.2) (t:=c.1.map (Bq vs)) (k:=c.1.length) (by omega) (by omega) h.tl (by simp) h.inc
  simp only[e,Option.bind_some];rfl
 ·have hvk:=h.sv k hk
  have e:gd vs c.1[k] 0=Bq vs c.1[k]:=rfl
  have hi:inb c.1[k] vs:=by unfold inb;omega
  simp only[BI,Ae,Aj hk,e,Ac (show k<4611686018427387904 by omega)]
  rw[List.take_succ_eq_append_getElem hk,List.map_append]
  rw[if_pos (by simp;omega),if_pos hk,if_pos hi,if_pos (by unfold lim;simp;omega)];rfl
 ·simp only[BI,List.take_length]
  rw[if_neg (by simp)]
end
end T
open Go Go.Va
namespace T
theorem Jn {α:Type} {k:Nat} {xs:List α} {d:α}:gd xs (k:Int) d=xs.getD k d:=rfl
abbrev T3:=List (List (List Bool))
abbrev T4:=List (List (List (List Bool)))
def Kq (s:Nat) (c:List (List Bool)):Prop:=c.length=s/\ ∀x,x<s->(c.getD x []).length=s
def K8 (n s:Nat) (r:T3):Prop:=r.length=n/\ ∀j,j<n->Kq s (r.getD j [])
def Ok4 (n s:Nat) (t:T4):Prop:=t.length=n/\ ∀i,i<n->K8 n s (t.getD i [])
def r4 (t:T4) (i j x y:Nat):Bool:=(((t.getD i []).getD j []).getD x []).getD y false
def s4 (t:T4) (i j x y:Nat) (b:Bool):T4:=t.set i ((t.getD i []).set j (((t.getD i []).getD j []).set x ((((t.getD i []).getD j []).getD x []).set y b)))
def Ok3 (n m:Nat) (u:T3):Prop:=u.length=n/\ ∀i,i<n->(u.getD i []).length=n/\ ∀j,j<n->((u.getD i []).getD j []).length=m
def r3 (u:T3) (i j p:Nat):Bool:=((u.getD i []).getD j []).getD p false
def s3 (u:T3) (i j p:Nat) (b:Bool):T3:=u.set i ((u.getD i []).set j (((u.getD i []).getD j []).set p b))
section
variable {n s m:Nat} {t:T4} {u:T3}
theorem Ok4.at (h:Ok4 n s t) {i j x:Nat} (hi:i<n) (hj:j<n) (hx:x<s):i<t.length/\j<(t.getD i []).length/\x<((t.getD i []).getD j []).length/\(((t.getD i []).getD j []).getD x []).length=s:=
 ⟨by rw[h.1];exact hi,by rw[(h.2 i hi).1];exact hj,by rw[((h.2 i hi).2 j hj).1];exact hx,((h.2 i hi).2 j hj).2 x hx⟩
theorem Ok3.at (h:Ok3 n m u) {i j:Nat} (hi:i<n) (hj:j<n):i<u.length/\j<(u.getD i []).length/\((u.getD i []).getD j []).length=m:=
 ⟨by rw[h.1];exact hi,by rw[(h.2 i hi).1];exact hj,(h.2 i hi).2 j hj⟩
theorem ID (h:Ok4 n s t) {i j x y:Nat} {b:Bool}:Ok4 n s (s4 t i j x y b):=by
 unfold s4
 refine⟨by rw[List.length_set];exact h.1,λi' hi'=>?_⟩
 rw[AR]
 split
 ·rename_i hc
  obtain⟨rfl,_⟩:=hc
  have hr:=h.2 i hi'
  refine⟨by rw[List.length_set];exact hr.1,λj' hj'=>?_⟩
  rw[AR]
  split
  ·rename_i hc
   obtain⟨rfl,_⟩:=hc
   have hcl:=hr.2 j hj'
   refine⟨by rw[List.length_set];exact hcl.1,λx' hx'=>?_⟩
   rw[AR]
   split
   ·rename_i hc
    obtain⟨rfl,_⟩:=hc
    rw[List.length_set];exact hcl.2 x hx'
   ·exact hcl.2 x' hx'
  ·exact hr.2 j' hj'
 ·exact h.2 i' hi'
theorem Lj (h:Ok3 n m u) {i j p:Nat} {b:Bool}:Ok3 n m (s3 u i j p b):=by
 unfold s3
 refine⟨by rw[List.length_set];exact h.1,λi' hi'=>?_⟩
 rw[AR]
 split
 ·rename_i hc
  obtain⟨rfl,_⟩:=hc
  have hr:=h.2 i hi'
  refine⟨by rw[List.length_set];exact hr.1,λj' hj'=>?_⟩
  rw[AR]
  split
  ·rename_i hc
   obtain⟨rfl,_⟩:=hc
   rw[List.length_set];exact hr.2 j hj'
  ·exact hr.2 j' hj'
 ·exact h.2 i' hi'
theorem IB (h:Ok4 n s t) {i j x y:Nat} {b:Bool} (hi:i<n) (hj:j<n) (hx:x<s) (hy:y<s) (i' j' x' y':Nat):
  r4 (s4 t i j x y b) i' j' x' y'=if i=i'/\j=j'/\x=x'/\y=y' then b else r4 t i' j' x' y':=by
 obtain⟨h1,h2,h3,h4⟩:=h.at hi hj hx
 unfold r4 s4
 rw[AR]
 by_cases e1:i=i'
 ·subst e1
  rw[if_pos ⟨rfl,h1⟩,AR]
  by_cases e2:j=j'
  ·subst e2
   rw[if_pos ⟨rfl,h2⟩,AR]
   by_cases e3:x=x'
   ·subst e3
    rw[if_pos ⟨rfl,h3⟩,AR]
    by_cases e4:y=y'
    ·subst e4;rw[if_pos ⟨rfl,by omega⟩,if_pos ⟨rfl,rfl,rfl,rfl⟩]
    ·rw[if_neg (by omega),if_neg (by omega)]
   ·rw[if_neg (by omega),if_neg (by omega)]
  ·rw[if_neg (by omega),if_neg (by omega)]
 ·rw[if_neg (by omega),if_neg (by omega)]
theorem Li (h:Ok3 n m u) {i j p:Nat} {b:Bool} (hi:i<n) (hj:j<n) (hp:p<m) (i' j' p':Nat):
  r3 (s3 u i j p b) i' j' p'=if i=i'/\j=j'/\p=p' then b else r3 u i' j' p':=by
 obtain⟨h1,h2,h3⟩:=h.at hi hj
 unfold r3 s3
 rw[AR]
 by_cases e1:i=i'
 ·subst e1
  rw[if_pos ⟨rfl,h1⟩,AR]
  by_cases e2:j=j'
  ·subst e2
   rw[if_pos ⟨rfl,h2⟩,AR]
   by_cases e3:p=p'
   ·subst e3;rw[if_pos ⟨rfl,by omega⟩,if_pos ⟨rfl,rfl,rfl⟩]
   ·rw[if_neg (by omega),if_neg (by omega)]
  ·rw[if_neg (by omega),if_neg (by omega)]
 ·rw[if_neg (by omega),if_neg (by omega)]
end
structure Rel34 (n s:Nat) (t:T4) (u:T3):Prop where
 o4:Ok4 n s t
 o3:Ok3 n (s*s) u
 eq: ∀i j x y,i<j->j<n->x<s->y<s->r4 t i j x y=r3 u i j (x*s+y)/\r4 t j i y x=r3 u i j (x*s+y)
theorem JV {s x y:Nat} (hx:x<s) (hy:y<s):x*s+y<s*s:=by
 have:(x+1)*s<=s*s:=Nat.mul_le_mul_right _ hx
 rw[Nat.succ_mul]at this;omega
theorem Jg {s x y x' y':Nat} (hy:y<s) (hy':y'<s) (h:x*s+y=x'*s+y'):x=x'/\y=y':=by
 have h1:(x*s+y)/s=x:=by rw[Nat.mul_comm,Nat.mul_add_div (by omega),Nat.div_eq_of_lt hy];omega
 have h2:(x'*s+y')/s=x':=by rw[Nat.mul_comm,Nat.mul_add_div (by omega),Nat.div_eq_of_lt hy'];omega
 have:x=x':=by rw[←h1,←h2,h]
 subst this
 exact⟨rfl,by omega⟩
theorem Rel34.drop {n s:Nat} {t:T4} {u:T3} (h:Rel34 n s t u) {i j x y:Nat} (hij:i<j) (hj:j<n) (hx:x<s) (hy:y<s):
  Rel34 n s (s4 (s4 t i j x y false) j i y x false) (s3 u i j (x*s+y) false):=by
 refine⟨ID (ID h.o4),Lj h.o3,λi' j' x' y' h1 h2 h3 h4=>?_⟩
 have hi:i<n:=by omega
 rw[IB (ID h.o4) hj hi hy hx,IB h.o4 hi hj hx hy,IB (ID h.o4) hj hi hy hx,IB h.o4 hi hj hx hy,Li h.o3 hi hj (JV hx hy)]
 obtain⟨e1,e2⟩:=h.eq i' j' x' y' h1 h2 h3 h4
 by_cases e:i=i'/\j=j'/\x=x'/\y=y'
 ·obtain⟨rfl,rfl,rfl,rfl⟩:=e
  simp
 ·have e3: ¬(i=i'/\j=j'/\x*s+y=x'*s+y'):=λ⟨q1,q2,q3⟩=>by
   have:=Jg hy h4 q3
   exact e ⟨q1,q2,this.1,this.2⟩
  have e4: ¬(j=i'/\i=j'/\y=x'/\x=y'):=by omega
  have e5: ¬(i=j'/\j=i'/\x=y'/\y=x'):=by omega
  have e6: ¬(j=j'/\i=i'/\y=y'/\x=x'):=by omega
  simp only[if_neg e,if_neg e3,if_neg e4,if_neg e5,if_neg e6]
  exact⟨e1,e2⟩
end T
open Go Go.Va
namespace T
section
variable {a:Net} {n s:Nat} {t:T4} {u:T3}
def V2 (n i j x y:Nat):List Int:=((List.replicate n (0:Int)).set i (x:Int)).set j (y:Int)
def fB (a:Net) (n i j x y:Nat):Bool:=Ls (Lr a [(i:Int),(j:Int)]) (V2 n i j x y)
end
end T
open Go Go.Va
namespace T
section
variable {a:Net} {n s:Nat} {t:T4} {u:T3}
def PA (n s i:Nat) (t:T4):Prop:=t.length=n/\ ∀i',i'<i->K8 n s (t.getD i' [])
def PB (n s i j:Nat) (t:T4):Prop:=PA n s i t/\(t.getD i []).length=n/\ ∀j',j'<j->Kq s ((t.getD i []).getD j' [])
theorem PA.set {i:Nat} (h:PA n s i t) (r:T3):PA n s i (t.set i r):=by
 refine⟨by rw[List.length_set];exact h.1,λi' hi'=>?_⟩
 rw[AR,if_neg (by omega)];exact h.2 i' hi'
theorem PB.set {i j:Nat} (h:PB n s i j t) (hi:i<n) (c:List (List Bool)):PB n s i j (t.set i ((t.getD i []).set j c)):=by
 have hl:=h.1.1
 refine⟨h.1.set _,?_,λj' hj'=>?_⟩
 ·rw[AR,if_pos ⟨rfl,by omega⟩,List.length_set];exact h.2.1
 ·rw[AR,if_pos ⟨rfl,by omega⟩,AR,if_neg (by omega)];exact h.2.2 j' hj'
end
end T
open Go Go.Va
namespace T
section
variable {a:Net} {n s:Nat} {t:T4} {u:T3}
def cI (o:List Nat):List Int:=o.map λx:Nat=>(x:Int)
end
end T
set_option linter.unusedVariables false
open Go Go.Va
namespace T
def CJ:Nat->((List Int)×(List Int)×Int×Int)->Option ((List Int))
 |0,_=>none
 |n+1,(b,t10,t11,t12)=>
 if decide (t12<t11)then
 if inb t12 t10 then
 if(0:Int)<=8 then
 if b.length+ [IntKind.wrap .u8 (YiD .i64 (gd t10 t12 0) 8),IntKind.wrap .u8 (gd t10 t12 0)].length<=lim then
 CJ n (b++ [IntKind.wrap .u8 (YiD .i64 (gd t10 t12 0) 8),IntKind.wrap .u8 (gd t10 t12 0)],t10,t11,w64 (t12+1))
 else none
 else none
 else none
 else
 some b
def CB (list:List Int):Option (ByteArray):=
 if(0:Int)<=0/\(0:Int)<=(w64 (2*(list.length:Int)))/\(w64 (2*(list.length:Int)))<=lim then
 (CJ Aa (List.replicate (Int.toNat 0) (0:Int),list,(list.length:Int),0)).bind λs1=>
 some (Ybp s1)
 else none
def Ct:Nat->((List ByteArray)×(List (List Int))×Int×Int)->Option ((List ByteArray))
 |0,_=>none
 |n+1,(set,t8,t9,t10)=>
 if decide (t10<t9)then
 if inb t10 t8 then
 (CB (gd t8 t10 [])).bind λr1=>
 Ct n (YhI set r1,t8,t9,w64 (t10+1))
 else none
 else
 some set
def C9 (r:Int×(List (List Int))):Option ((List ByteArray)):=
 (Ct Aa ([],r.2,(r.2.length:Int),0)).bind λs1=>
 some s1
def B1:Nat->((List Int)×(Int×Int×(List ((List Int)×Int×(List (List Int)))))×Int)->Option ((Unit)⊕(Int))
 |0,_=>none
 |n+1,(values,net,i)=>
 if decide (i<(net.2.2.length:Int))then
 if inb i net.2.2 then
 (CP (gd net.2.2 i ([],(0,[]))) values).bind λr1=>
 if !r1 then
 some (.inr i)
 else
 B1 n (values,(net.1,(net.2.1,net.2.2)),w64 (i+1))
 else none
 else
 some (.inl ())
def DI (net:Int×Int×(List ((List Int)×Int×(List (List Int))))) (values:List Int):Option (Int):=
 (B1 Aa (values,(net.1,(net.2.1,net.2.2)),0)).bind λs1=>
  match s1 with
  | .inl s2=>
   some (-1)
  | .inr s3=>
   some s3
def Bv:Nat->((List Int)×(List ((List Int)×Int×(List (List Int))))×Int×Int)->Option ((Unit)⊕(Int))
 |0,_=>none
 |n+1,(values,t8,t9,t10)=>
 if decide (t10<t9)then
 if inb t10 t8 then
 (BR ((gd t8 t10 ([],(0,[]))).1) values).bind λr1=>
 (D9 (((gd t8 t10 ([],(0,[]))).2).1,((gd t8 t10 ([],(0,[]))).2).2) r1).bind λr2=>
 if !r2 then
 some (.inr t10)
 else
 Bv n (values,t8,t9,w64 (t10+1))
 else none
 else
 some (.inl ())
def C2 (net:Int×Int×(List ((List Int)×Int×(List (List Int))))) (values:List Int):Option (Int):=
 (Bv Aa (values,net.2.2,(net.2.2.length:Int),0)).bind λs1=>
  match s1 with
  | .inl s2=>
   some (-1)
  | .inr s3=>
   some s3
end T
open Go Go.Va
namespace T
def kb (l:List Int):List Int:=l.flatMap λx=> [0,x]
def Ej (l:List Int):ByteArray:=Ybp (kb l)
theorem H4 {x:Int} (h0:0<=x) (h1:x<256):IntKind.wrap .u8 x=x:=by
 simp[IntKind.wrap,IntKind.bits,IntKind.signed]
 omega
theorem I3 {x:Int} (h0:0<=x) (h1:x<256):YiD .i64 x 8=0:=by
 unfold YiD
 have:(min (8:Int).toNat IntKind.i64.bits)=8:=by decide
 rw[this,Int.fdiv_eq_ediv_of_nonneg _ (by decide)]
 have:(2:Int)^8=256:=by decide
 rw[this];omega
theorem DD {l:List Int} (hl:l.length<=1048576) (hv: ∀x∈l,0<=x/\x<256):CB l=some (Ej l):=by
 unfold CB
 have e2:w64 (2*(l.length:Int))=2*(l.length:Int):=AE (by omega) (by omega)
 rw[e2,if_pos (by unfold lim;omega)]
 have kbl: ∀k,k<=l.length->(kb (l.take k)).length=2*k:=by
  intro k hk
  have: ∀l:List Int,(kb l).length=2*l.length:=by
   intro l
   induction l with
   |nil=>rfl
   |cons x l ih=>unfold kb at ih⊢;simp only[List.flatMap_cons,List.length_append,ih,List.length_cons,List.length_nil];omega
  rw[this];simp;omega
 have:=CD l.length (λm o i=>CJ m (o,l,(l.length:Int),i)) (λk=>kb (l.take k)) (r:=some (kb l)) (λm k hk=>?_) (λm=>?_) (n:=Aa) (by unfold Aa;omega)
 ·have e0:kb (l.take 0)= []:=rfl
  rw[e0]at this
  have:CJ Aa (List.replicate (Int.toNat 0) (0:Int),l,(l.length:Int),0)=some (kb l):=this
  rw[this];rfl
 ·have hx:=hv _ (List.getElem_mem hk)
  have hlen:=kbl k (by omega)
  have e:kb (l.take (k+1))=kb (l.take k)++ [0,l[k]]:=by
   unfold kb;rw[List.take_succ_eq_append_getElem hk,List.flatMap_append];simp
  simp only[CJ,Ae,Aj hk,Ac (show k<4611686018427387904 by omega),H4 hx.1 hx.2,I3 hx.1 hx.2,H4 (show(0:Int)<=0 by omega) (show(0:Int)<256 by omega),e]
  rw[if_pos (by simp;omega),if_pos hk,if_pos (by omega),if_pos (by unfold lim;simp;omega)]
 ·simp only[CJ,List.take_length]
  rw[if_neg (by simp)]
theorem Fe: ∀(xs:List Int) (s:ByteArray),(xs.foldl (λs n=>s.push (UInt8.ofNat n.toNat)) s).data=s.data++(xs.map λn=>UInt8.ofNat n.toNat).toArray
 | [],s=>by simp
 |x::xs,s=>by
  rw[List.foldl_cons,Fe xs]
  apply Array.ext'
  simp[ByteArray.push]
theorem Jr: ∀(l l':List Int),(∀x∈l,0<=x/\x<256)->(∀x∈l',0<=x/\x<256)->(kb l).map (λn=>UInt8.ofNat n.toNat)=(kb l').map (λn=>UInt8.ofNat n.toNat)->l=l'
 | [],[],_,_,_=>rfl
 | [],y::l',_,_,h=>by simp[kb]at h
 |x::l,[],_,_,h=>by simp[kb]at h
 |x::l,y::l',hv,hv',h=>by
  simp only[kb,List.flatMap_cons,List.map_append,List.map_cons,List.map_nil,List.cons_append,List.nil_append,List.cons.injEq,true_and]at h
  obtain⟨h1,h2⟩:=h
  have hx:=hv x (by simp)
  have hy:=hv' y (by simp)
  have h1:=congrArg UInt8.toNat h1
  simp only[UInt8.toNat_ofNat']at h1
  have:x=y:=by omega
  rw[this,Jr l l' (λz hz=>hv z (List.mem_cons_of_mem _ hz)) (λz hz=>hv' z (List.mem_cons_of_mem _ hz)) h2]
theorem HJ {l l':List Int} (hv: ∀x∈l,0<=x/\x<256) (hv': ∀x∈l',0<=x/\x<256) (h:Ej l=Ej l'):l=l':=by
 have h:=congrArg ByteArray.data h
 unfold Ej Ybp at h
 rw[Fe,Fe]at h
 have h:=congrArg Array.toList h
 simp only[Array.toList_append]at h
 exact Jr l l' hv hv' (List.append_cancel_left h)
theorem Je {a b:ByteArray}:(a==b)=decide (a=b):=by
 show(a.data==b.data)=_
 rw[Bool.eq_iff_iff,beq_iff_eq,decide_eq_true_eq]
 exact⟨λh=>ByteArray.ext h,λh=>congrArg ByteArray.data h⟩
theorem Gr {ks:List ByteArray} {s:ByteArray}:Xs ks s=true↔s∈ks:=by
 unfold Xs
 rw[List.any_eq_true]
 constructor
 ·rintro ⟨k,h1,h2⟩;rw[Je,decide_eq_true_eq]at h2;subst h2;exact h1
 ·intro h;exact⟨s,h,by rw[Je];simp⟩
theorem HM {ks:List ByteArray} {s t:ByteArray}:t∈YhI ks s↔t∈ks∨t=s:=by
 unfold YhI
 by_cases h:Xs ks s=true
 ·rw[if_pos h]
  exact⟨.inl,λh'=>h'.elim id λe=>e▸Gr.1 h⟩
 ·rw[if_neg h];simp
def Dm (l:List (List Int)):List ByteArray:=l.foldl (λks t=>YhI ks (Ej t)) []
theorem Js {l:List (List Int)} {s:ByteArray}:s∈Dm l↔ ∃t∈l,s=Ej t:=by
 have key: ∀(l:List (List Int)) (ks:List ByteArray),s∈l.foldl (λks t=>YhI ks (Ej t)) ks↔s∈ks∨ ∃t∈l,s=Ej t:=by
  intro l
  induction l with
  |nil=>intro ks;simp
  |cons t l ih=>
   intro ks
   rw[List.foldl_cons,ih,HM]
   simp only[List.mem_cons,exists_eq_or_imp,or_assoc]
 unfold Dm;rw[key];simp
theorem Er {r:Int×List (List Int)} (hl:r.2.length<=1048576) (hv: ∀t∈r.2,t.length<=1048576/\ ∀x∈t,0<=x/\x<256):C9 r=some (Dm r.2):=by
 unfold C9
 have:=CD r.2.length (λm o i=>Ct m (o,r.2,(r.2.length:Int),i)) (λk=>Dm (r.2.take k)) (r:=some (Dm r.2)) (λm k hk=>?_) (λm=>?_) (n:=Aa) (by unfold Aa;omega)
 ·have e0:Dm (r.2.take 0)= []:=rfl
  rw[e0]at this
  simp only[this,Option.bind_some]
 ·obtain⟨h1,h2⟩:=hv _ (List.getElem_mem hk)
  have e:Dm (r.2.take (k+1))=YhI (Dm (r.2.take k)) (Ej r.2[k]):=by
   unfold Dm;rw[List.take_succ_eq_append_getElem hk,List.foldl_append];rfl
  simp only[Ct,Ae,Aj hk,Ac (show k<4611686018427387904 by omega),DD h1 h2,Option.bind_some,e]
  rw[if_pos (by simp;omega),if_pos hk]
 ·simp only[Ct,List.take_length]
  rw[if_neg (by simp)]
theorem FI {l:List (List Int)} {t:List Int} (hl: ∀t∈l,∀x∈t,0<=x/\x<256) (ht: ∀x∈t,0<=x/\x<256):Xs (Dm l) (Ej t)=decide (t∈l):=by
 rw[Bool.eq_iff_iff,Gr,decide_eq_true_eq,Js]
 constructor
 ·rintro ⟨u,h1,h2⟩;rw[HJ ht (hl u h1) h2];exact h1
 ·intro h;exact⟨t,h,rfl⟩
def dg (b:Nat):Nat->Nat->List Nat
 |0,_=> []
 |k+1,i=>dg b k (i/b)++ [i%b]
theorem FB {b:Nat}: ∀ {k i:Nat},(dg b k i).length=k
 |0,_=>rfl
 |k+1,i=>by simp[dg,FB (k:=k)]
theorem Is {b:Nat} (hb:0<b): ∀ {k i:Nat},∀x∈dg b k i,x<b
 |0,_,x,h=>by simp[dg]at h
 |k+1,i,x,h=>by
  simp only[dg]at h
  rcases List.mem_append.1 h with h|h
  ·exact Is hb x h
  ·simp at h;subst h;exact Nat.mod_lt _ hb
theorem CS {o:List Nat}:(cI o).length=o.length:=by unfold cI;simp
theorem GU {o p:List Nat}:cI (o++p)=cI o++cI p:=by unfold cI;simp
end T
open Go Go.Va
namespace T
def vt (ts:List (List Int)) (x j:Nat):Nat:=((ts.getD x []).getD j 0).toNat
def atF (n:Nat) (ts:List (List Int)) (j:Nat) (args:List Nat):Nat:=args.foldl (λa x=>a*n+vt ts x j) 0
def KV (n:Nat) (op:Opn) (ts:List (List Int)) (m:Nat) (args:List Nat):List Int:=(List.range m).map λj=>op.2.getD (atF n ts j args) 0
structure KOk (n k m:Nat) (op:Opn) (r:Int×List (List Int)):Prop where
 op1:op.1=(k:Int)
 hk:1<=k/\k<=3
 hn:1<=n/\n<=8
 opl:op.2.length=n^k
 opv: ∀x∈op.2,0<=x/\x<(n:Int)
 ar:r.1=(m:Int)
 hm:1<=m/\m<=3
 tl: ∀t∈r.2,t.length=m
 tv: ∀t∈r.2,∀x∈t,0<=x/\x<(n:Int)
 many:r.2.length<=64
 inc:CL r.2=true
def kB (n k m:Nat) (op:Opn) (r:Int×List (List Int)):Bool:=(List.range (r.2.length^k)).all λi=>decide (KV n op r.2 m (dg r.2.length k i)∈r.2)
theorem Iz {b k:Nat} (hb:b<=64) (hk:k<=3):b^k<=262144:=by
 have h1:b^k<=64^k:=Nat.pow_le_pow_left hb k
 have h2:64^k<=64^3:=Nat.pow_le_pow_right (by omega) hk
 have:(64:Nat)^3=262144:=by decide
 omega
theorem HP {b j:Nat} (hb:b<=64) (hj:j+1<=3):w64 (((b^j:Nat):Int)*(b:Int))=((b^(j+1):Nat):Int):=by
 have h:=Iz hb hj
 rw[Nat.pow_succ]at h⊢
 rw[←Int.natCast_mul]
 exact AE (by omega) (by omega)
theorem Ig {b:Nat} (hb:b<=64): ∀(m k j:Nat),j+k<=3->k<m->Cm m ((b:Int),(k:Int),((b^j:Nat):Int))=some (((b^(j+k):Nat):Int)):=by
 intro m
 induction m with
 |zero=>intro k j _ h;omega
 |succ m ih=>
  intro k j hj hk
  simp only[Cm]
  cases k with
  |zero=>simp
  |succ k=>
   have e:w64 (((k+1:Nat):Int)-1)=(k:Int):=by rw[AE (by omega) (by omega)];omega
   rw[e,HP hb (by omega),if_pos (by simp),ih k (j+1) (by omega) (by omega)]
   congr 3;omega
theorem Du {b k:Nat} (hb:b<=64) (hk:k<=3):B5 (b:Int) (k:Int)=some (((b^k:Nat):Int)):=by
 unfold B5
 have:=Ig hb Aa k 0 (by omega) (by unfold Aa;omega)
 have this:Cm Aa ((b:Int),(k:Int),1)=_:=this
 rw[this];simp
section
variable {n k m:Nat} {op:Opn} {r:Int×List (List Int)}
theorem KOk.vt_lt (h:KOk n k m op r) {x j:Nat} (hx:x<r.2.length) (hj:j<m):vt r.2 x j<n/\(r.2.getD x []).getD j 0=((vt r.2 x j:Nat):Int)/\j<(r.2.getD x []).length:=by
 have hmem:r.2[x]∈r.2:=List.getElem_mem hx
 have hl:=h.tl _ hmem
 have hj':j<(r.2[x]).length:=by omega
 have hv:=h.tv _ hmem _ (List.getElem_mem hj')
 unfold vt
 rw[Ai hx,Ai hj']
 exact⟨by omega,by omega,by omega⟩
theorem De {n k:Nat} (hn:n<=4) (hk:k<=3):n^k<=64:=by
 have h1:n^k<=4^k:=Nat.pow_le_pow_left hn k
 have h2:4^k<=4^3:=Nat.pow_le_pow_right (by omega) hk
 have:(4:Nat)^3=64:=by decide
 omega
theorem Gc {ts:List (List Int)} {j:Nat} {a:List Nat} {x:Nat}:atF n ts j (a++ [x])=atF n ts j a*n+vt ts x j:=by unfold atF;rw[List.foldl_append];rfl
theorem It {n:Nat} {v:Nat->Nat}: ∀(a:List Nat) (c:Nat),(∀x∈a,v x<n)->a.foldl (λa x=>a*n+v x) c<(c+1)*n^a.length
 | [],c,_=>by simp
 |x::a,c,h=>by
  have h1:=It a (c*n+v x) λy hy=>h y (List.mem_cons_of_mem _ hy)
  have h2:=h x (by simp)
  have h3:(c*n+v x+1)*n^a.length<=((c+1)*n)*n^a.length:=Nat.mul_le_mul_right _ (by rw[Nat.succ_mul];omega)
  rw[List.foldl_cons,List.length_cons,Nat.pow_succ]
  have h4:((c+1)*n)*n^a.length=(c+1)*(n^a.length*n):=by rw[Nat.mul_assoc,Nat.mul_comm n]
  omega
theorem H5 (hn:n<=4) {x v:Nat} (hx:x<=64) (hv:v<n):w64 (w64 ((x:Int)*(n:Int))+(v:Int))=((x*n+v:Nat):Int):=by
 have h1:x*n<=64*4:=Nat.mul_le_mul hx hn
 have e:(x:Int)*(n:Int)=((x*n:Nat):Int):=by push_cast;rfl
 rw[e,AE (x:=((x*n:Nat):Int)) (by omega) (by omega),AE (by omega) (by omega)]
 push_cast;rfl
end
end T
open Go Go.Va
namespace T
section
variable {v:Int} {c:Con}
end
section
variable {a:Net}
theorem Ks {β:Type} (N:Nat) (L:Nat->Int->Option β) (p:Nat->Bool) (g:Nat->β) (e:β)
  (hs: ∀n (k:Nat),k<N->L (n+1) k=if p k then some (g k)else L n ((k+1:Nat):Int)) (he: ∀n,L (n+1) (N:Nat)=some e):
  ∀(d k n:Nat),k+d=N->d<n->L n k=some (match (List.range' k d).find? p with|some x=>g x|none=>e):=by
 intro d
 induction d with
 |zero=>
  intro k n hk hn
  obtain⟨n,rfl⟩: ∃m,n=m+1:=⟨n-1,by omega⟩
  have:k=N:=by omega
  subst this;rw[he];rfl
 |succ d ih=>
  intro k n hk hn
  obtain⟨n,rfl⟩: ∃m,n=m+1:=⟨n-1,by omega⟩
  rw[hs n k (by omega),List.range'_succ,List.find?_cons]
  cases p k with
  |true=>simp
  |false=>simp only[Bool.false_eq_true,if_false];exact ih (k+1) n (by omega) (by omega)
end
end T
open Go Go.Va
namespace T
section
variable {v:Int} {c:Con} {up:Int}
end
section
variable {a:Net} {up:Int} {vals:List Int}
def GM (a:Net) (vals:List Int):Int:=match (List.range' 0 a.2.2.length).find? (λk=>!Dn vals (a.2.2.getD k IK))with|some k=>(k:Int)|none=> -1
theorem FR (hN:NetOk a) (hv:(vals.length:Int)=a.1):DI (a.1,(a.2.1,a.2.2)) vals=some (GM a vals):=by
 have hc:=hN.hc
 unfold DI
 have e:=Ks a.2.2.length (λf i=>B1 f (vals,(a.1,(a.2.1,a.2.2)),i)) (λk=>!Dn vals (a.2.2.getD k IK)) (λk=> .inr (k:Int)) (.inl ()) (λf k hk=>by
  have hcon:=hN.con _ (List.getElem_mem hk)
  simp only[B1,decide_eq_true (show(k:Int)<((a.2.2.length:Nat):Int) by omega),if_true,Ae,hk,Aj hk,DN hcon hv,Option.bind_some,Ac (show k<4611686018427387904 by omega),Ai hk])
  (λf=>by simp[B1]) a.2.2.length 0 Aa (by omega) (by unfold Aa;omega)
 have e:B1 Aa (vals,(a.1,(a.2.1,a.2.2)),0)=_:=e
 rw[e]
 unfold GM
 cases (List.range' 0 a.2.2.length).find? (λk=>!Dn vals (a.2.2.getD k IK))<;>rfl
theorem E7 (hN:NetOk a) (hv:(vals.length:Int)=a.1):C2 (a.1,(a.2.1,a.2.2)) vals=some (GM a vals):=by
 have hc:=hN.hc
 unfold C2
 have e:=Ks a.2.2.length (λf i=>Bv f (vals,a.2.2,(a.2.2.length:Int),i)) (λk=>!Dn vals (a.2.2.getD k IK)) (λk=> .inr (k:Int)) (.inl ()) (λf k hk=>by
  have hcon:=hN.con _ (List.getElem_mem hk)
  have hsl:=hcon.sl
  have har:=hcon.ar
  have hmany:=hcon.many
  have h1:=Db (f:=a.2.2[k].1) (g:=vals) (by omega) (λx hx=>by
   obtain⟨j,hj,rfl⟩:=List.mem_iff_getElem.1 hx
   have:=hcon.sv j hj
   omega)
  have h2:=Gl (r:=a.2.2[k].2) (t:=a.2.2[k].1.map (Bq vals)) (by simp;omega) (show a.2.2[k].2.2.length<=1048576 by omega)
  have h2:D9 (a.2.2[k].2.1,a.2.2[k].2.2) (a.2.2[k].1.map (Bq vals))=_:=h2
  simp only[Bv,decide_eq_true (show(k:Int)<((a.2.2.length:Nat):Int) by omega),if_true,Ae,hk,Aj hk,h1,h2,Option.bind_some,Ac (show k<4611686018427387904 by omega),Ai hk,Dn])
  (λf=>by simp[Bv]) a.2.2.length 0 Aa (by omega) (by unfold Aa;omega)
 have e:Bv Aa (vals,a.2.2,((a.2.2.length:Nat):Int),0)=_:=e
 rw[e]
 unfold GM
 cases (List.range' 0 a.2.2.length).find? (λk=>!Dn vals (a.2.2.getD k IK))<;>rfl
end
end T
set_option linter.unusedVariables false
open Go Go.Va
namespace T
def Ft (n_:Int):Option (Bool):=
 (Cg n_ 1 4).bind λr1=>
 some r1
def CG:Nat->(Int×(List (Int×(List (List Int))))×Int)->Option ((Unit)⊕(Bool))
 |0,_=>none
 |n+1,(n_,rels,i)=>
 if decide (i<(rels.length:Int))then
 if inb i rels then
 (DY n_ (gd rels i (0,[]))).bind λr1=>
 if !r1 then
 some (.inr false)
 else
 CG n (n_,rels,w64 (i+1))
 else none
 else
 some (.inl ())
def Fs (n_:Int) (rels:List (Int×(List (List Int)))):Option (Bool):=
 if decide ((rels.length:Int)>4)then
  some false
 else
  (CG Aa (n_,rels,0)).bind λs1=>
   match s1 with
   | .inl s2=>
    some true
   | .inr s3=>
    some s3
def B0:Nat->((List (Int×(List (List Int))))×Int×Int)->Option ((Unit)⊕(Bool))
 |0,_=>none
 |n+1,(rels,k,i)=>
 if decide (i<(rels.length:Int))then
 if k==3 then
 if inb i rels then
 if decide ((((gd rels i (0,[])).2).length:Int)>12)then
 some (.inr false)
 else
 B0 n (rels,k,w64 (i+1))
 else none
 else
 B0 n (rels,k,w64 (i+1))
 else
 some (.inl ())
def Em (n_:Int) (rels:List (Int×(List (List Int)))) (k:Int):Option (Bool):=
 (Ft n_).bind λr1=>
  if !r1 then
   some false
  else
   (Fs n_ rels).bind λr2=>
    if !r2 then
     some false
    else
     (Cg k 1 3).bind λr3=>
      if !r3 then
       some false
      else
       (B0 Aa (rels,k,0)).bind λs4=>
        match s4 with
        | .inl s5=>
         some true
        | .inr s6=>
         some s6
def El (n_:Int) (rels:List (Int×(List (List Int)))) (k:Int):Option (Bool):=
 (Em n_ rels k).bind λr1=>
 if r1 then
 (BD n_ k).bind λr2=>
 some (decide (r2<=9))
 else
 some false
def Ca:Nat->(Int×(List Int)×Int)->Option ((List Int))
 |0,_=>none
 |n+1,(size,out,i)=>
 if decide (i<size)then
 if out.length+ [(-1)].length<=lim then
 Ca n (size,out++ [(-1)],w64 (i+1))
 else none
 else
 some out
def DZ (size:Int):Option ((List Int)):=
 (Ca Aa (size,[],0)).bind λs1=>
 some s1
def CZ:Nat->(Int×Int×(List Int)×Int)->Option ((List Int))
 |0,_=>none
 |n+1,(n_,at_,out,i)=>
 if decide (i≥0)then
 if n_≠0 then
 if inb i out then
 if n_≠0 then
 CZ n (n_,w64 (Int.tdiv at_ n_),stt out i (Int.tmod at_ n_),w64 (i-1))
 else none
 else none
 else none
 else
 some out
def Ef (n_:Int) (arity:Int) (at_:Int):Option ((List Int)):=
 if 0<=arity/\arity<=arity/\arity<=lim then
 (CZ Aa (n_,at_,List.replicate (Int.toNat arity) (0:Int),w64 (arity-1))).bind λs1=>
 some s1
 else none
def Cl (a:Int) (b:Int):Option (Int):=
 if decide (a>b)then
 some a
 else
 some b
def BY:Nat->(Int×(List (Int×(List (List Int))))×Int×(List (List ((List Int)×Int×(List (List Int)))))×Int)->Option (Int×(List (Int×(List (List Int))))×Int×(List (List ((List Int)×Int×(List (List Int))))))
 |0,_=>none
 |n+1,(t0,t1,t2,t7,t8)=>
 (BD t0 t2).bind λr1=>
 if decide (t8<r1)then
 if t7.length+([[]]:List (List ((List Int)×Int×(List (List Int))))).length<=lim then
 BY n (t0,t1,t2,t7++ [[]],w64 (t8+1))
 else none
 else
 some (t0,t1,t2,t7)
def BQ:Nat->(Int×(List (Int×(List (List Int))))×Int×(List (List ((List Int)×Int×(List (List Int)))))×Int×Int×Int×(List Int)×((List Int)×(Int×(List (List Int))))×Int×Int×Int×Int)->Option (Int×(List (Int×(List (List Int))))×Int×(List (List ((List Int)×Int×(List (List Int)))))×Int×Int×Int×(List Int)×((List Int)×(Int×(List (List Int))))×Int×Int×Int)
 |0,_=>none
 |n+1,(t0,t1,t2,t7,t9,t10,t11,t12,t13,t14,t15,t16,t17)=>
 if decide (t17<t2)then
 if inb t9 t1 then
 if inb t17 t12 then
 if inb (gd t12 t17 0) ((gd t1 t9 (0,[])).2)then
 if inb t15 (gd ((gd t1 t9 (0,[])).2) (gd t12 t17 0) [])then
 BQ n (t0,t1,t2,t7,t9,t10,t11,t12,(t13.1,(t13.2.1,t13.2.2)),t14,t15,w64 ((w64 (t16*t0))+(gd (gd ((gd t1 t9 (0,[])).2) (gd t12 t17 0) []) t15 0)),w64 (t17+1))
 else none
 else none
 else none
 else none
 else
 some (t0,t1,t2,t7,t9,t10,t11,t12,(t13.1,(t13.2.1,t13.2.2)),t14,t15,t16)
def BP:Nat->(Int×(List (Int×(List (List Int))))×Int×(List (List ((List Int)×Int×(List (List Int)))))×Int×Int×Int×(List Int)×((List Int)×(Int×(List (List Int))))×Int×Int)->Option (Int×(List (Int×(List (List Int))))×Int×(List (List ((List Int)×Int×(List (List Int)))))×Int×Int×Int×((List Int)×(Int×(List (List Int))))×Int)
 |0,_=>none
 |n+1,(t0,t1,t2,t7,t9,t10,t11,t12,t13,t14,t15)=>
 if inb t9 t1 then
 if decide (t15<((gd t1 t9 (0,[])).1))then
 (BQ Aa (t0,t1,t2,t7,t9,t10,t11,t12,(t13.1,(t13.2.1,t13.2.2)),t14,t15,0,0)).bind λs5=>
 if s5.2.2.2.2.2.2.2.2.1.1.length+ [s5.2.2.2.2.2.2.2.2.2.2.2].length<=lim then
 (Cl s5.2.2.2.2.2.2.2.2.2.1 s5.2.2.2.2.2.2.2.2.2.2.2).bind λr6=>
 BP n (s5.1,s5.2.1,s5.2.2.1,s5.2.2.2.1,s5.2.2.2.2.1,s5.2.2.2.2.2.1,s5.2.2.2.2.2.2.1,s5.2.2.2.2.2.2.2.1,(s5.2.2.2.2.2.2.2.2.1.1++ [s5.2.2.2.2.2.2.2.2.2.2.2],(s5.2.2.2.2.2.2.2.2.1.2.1,s5.2.2.2.2.2.2.2.2.1.2.2)),r6,w64 (s5.2.2.2.2.2.2.2.2.2.2.1+1))
 else none
 else
 some (t0,t1,t2,t7,t9,t10,t11,(t13.1,(t13.2.1,t13.2.2)),t14)
 else none
def BO:Nat->(Int×(List (Int×(List (List Int))))×Int×(List (List ((List Int)×Int×(List (List Int)))))×Int×Int×Int)->Option (Int×(List (Int×(List (List Int))))×Int×(List (List ((List Int)×Int×(List (List Int)))))×Int)
 |0,_=>none
 |n+1,(t0,t1,t2,t7,t9,t10,t11)=>
 (BD t10 t2).bind λr3=>
 if decide (t11<r3)then
 (Ef t10 t2 t11).bind λr4=>
 if inb t9 t1 then
 (BP Aa (t0,t1,t2,t7,t9,t10,t11,r4,([],((gd t1 t9 (0,[])).1,(gd t1 t9 (0,[])).2)),0,0)).bind λs5=>
 if inb s5.2.2.2.2.2.2.2.2 s5.2.2.2.1 then
 if(gd s5.2.2.2.1 s5.2.2.2.2.2.2.2.2 []).length+ [(s5.2.2.2.2.2.2.2.1.1,(s5.2.2.2.2.2.2.2.1.2.1,s5.2.2.2.2.2.2.2.1.2.2))].length<=lim then
 if inb s5.2.2.2.2.2.2.2.2 s5.2.2.2.1 then
 if s5.2.2.2.2.2.2.2.2=s5.2.2.2.2.2.2.2.2 then
 BO n (s5.1,s5.2.1,s5.2.2.1,stt s5.2.2.2.1 s5.2.2.2.2.2.2.2.2 ((gd s5.2.2.2.1 s5.2.2.2.2.2.2.2.2 [])++ [(s5.2.2.2.2.2.2.2.1.1,(s5.2.2.2.2.2.2.2.1.2.1,s5.2.2.2.2.2.2.2.1.2.2))]),s5.2.2.2.2.1,s5.2.2.2.2.2.1,w64 (s5.2.2.2.2.2.2.1+1))
 else none
 else none
 else none
 else none
 else none
 else
 some (t0,t1,t2,t7,t9)
def BZ:Nat->(Int×(List (Int×(List (List Int))))×Int×(List (List ((List Int)×Int×(List (List Int)))))×Int)->Option ((List (List ((List Int)×Int×(List (List Int))))))
 |0,_=>none
 |n+1,(t0,t1,t2,t7,t9)=>
 if decide (t9<(t1.length:Int))then
 if inb t9 t1 then
 (BO Aa (t0,t1,t2,t7,t9,(((gd t1 t9 (0,[])).2).length:Int),0)).bind λs3=>
 BZ n (s3.1,s3.2.1,s3.2.2.1,s3.2.2.2.1,w64 (s3.2.2.2.2+1))
 else none
 else
 some t7
def Ek (t0:Int) (t1:List (Int×(List (List Int)))) (t2:Int):Option ((List (List ((List Int)×Int×(List (List Int)))))):=
 (BY Aa (t0,t1,t2,[],0)).bind λs1=>
 (BZ Aa (s1.1,s1.2.1,s1.2.2.1,s1.2.2.2,0)).bind λs2=>
 some s2
def BX:Nat->((List ((List Int)×Int×(List (List Int))))×(List Int)×Int×(List Int)×Int)->Option ((List ((List Int)×Int×(List (List Int))))×(List Int)×Int×(List Int))
 |0,_=>none
 |n+1,(needs,table,i,t,k)=>
 if inb i needs then
 if decide (k<(((gd needs i ([],(0,[]))).1).length:Int))then
 if inb i needs then
 if inb k ((gd needs i ([],(0,[]))).1)then
 if inb (gd ((gd needs i ([],(0,[]))).1) k 0) table then
 if t.length+ [gd table (gd ((gd needs i ([],(0,[]))).1) k 0) 0].length<=lim then
 BX n (needs,table,i,t++ [gd table (gd ((gd needs i ([],(0,[]))).1) k 0) 0],w64 (k+1))
 else none
 else none
 else none
 else none
 else
 some (needs,table,i,t)
 else none
def BW:Nat->((List ((List Int)×Int×(List (List Int))))×(List Int)×Int)->Option ((Unit)⊕(Bool))
 |0,_=>none
 |n+1,(needs,table,i)=>
 if decide (i<(needs.length:Int))then
 (BX Aa (needs,table,i,[],0)).bind λs1=>
 if inb s1.2.2.1 s1.1 then
 (Dl ((gd s1.1 s1.2.2.1 ([],(0,[]))).2) s1.2.2.2).bind λr2=>
 if !r2 then
 some (.inr false)
 else
 BW n (s1.1,s1.2.1,w64 (s1.2.2.1+1))
 else none
 else
 some (.inl ())
def Da (needs:List ((List Int)×Int×(List (List Int)))) (table:List Int):Option (Bool):=
 (BW Aa (needs,table,0)).bind λs1=>
  match s1 with
  | .inl s2=>
   some true
  | .inr s3=>
   some s3
def Au (rec:(Int×(List (List ((List Int)×Int×(List (List Int)))))×(List Int)×(List Int)×((List (List Int))×(Int×Int)))->Option (((List (List Int))×(Int×Int)))):Nat->(Int×(List (List ((List Int)×Int×(List (List Int)))))×(List Int)×(List Int)×((List (List Int))×(Int×Int))×((List (List Int))×(Int×Int))×Int×Int)->Option ((((List (List Int))×(Int×Int))×((List (List Int))×(Int×Int)))⊕(((List (List Int))×(Int×Int))))
 |0,_=>none
 |n+1,(t0,t1,t2,t3,t9,t10,t11,t12)=>
 if decide (t12<t0)then
 if inb t11 t2 then
 if decide ((gd t2 t11 0)≥0)then
 if inb t11 t2 then
 if(gd t2 t11 0) !=t12 then
 Au rec n (t0,t1,t2,t3,(t9.1,(t9.2.1,t9.2.2)),(t10.1,(t10.2.1,t10.2.2)),t11,w64 (t12+1))
 else
 (Bh t3).bind λr2=>
 if r2.length+ [t12].length<=lim then
 if inb t11 t1 then
 (Da (gd t1 t11 []) (r2++ [t12])).bind λr3=>
 if r3 then
 (rec (t0,t1,t2,r2++ [t12],(t9.1,(t9.2.1,t9.2.2)))).bind λr4=>
 if r4.2.2==1 then
 if decide (r4.2.1>0)then
 some (.inr (r4.1,(r4.2.1,r4.2.2)))
 else
 Au rec n (t0,t1,t2,t3,(r4.1,(r4.2.1,r4.2.2)),(t10.1,(t10.2.1,t10.2.2)),t11,w64 (t12+1))
 else
 Au rec n (t0,t1,t2,t3,(r4.1,(r4.2.1,r4.2.2)),(t10.1,(t10.2.1,t10.2.2)),t11,w64 (t12+1))
 else
 if t9.2.2==1 then
 if decide (t9.2.1>0)then
 some (.inr (t9.1,(t9.2.1,t9.2.2)))
 else
 Au rec n (t0,t1,t2,t3,(t9.1,(t9.2.1,t9.2.2)),(t10.1,(t10.2.1,t10.2.2)),t11,w64 (t12+1))
 else
 Au rec n (t0,t1,t2,t3,(t9.1,(t9.2.1,t9.2.2)),(t10.1,(t10.2.1,t10.2.2)),t11,w64 (t12+1))
 else none
 else none
 else none
 else
 (Bh t3).bind λr5=>
 if r5.length+ [t12].length<=lim then
 if inb t11 t1 then
 (Da (gd t1 t11 []) (r5++ [t12])).bind λr6=>
 if r6 then
 (rec (t0,t1,t2,r5++ [t12],(t9.1,(t9.2.1,t9.2.2)))).bind λr7=>
 if r7.2.2==1 then
 if decide (r7.2.1>0)then
 some (.inr (r7.1,(r7.2.1,r7.2.2)))
 else
 Au rec n (t0,t1,t2,t3,(r7.1,(r7.2.1,r7.2.2)),(t10.1,(t10.2.1,t10.2.2)),t11,w64 (t12+1))
 else
 Au rec n (t0,t1,t2,t3,(r7.1,(r7.2.1,r7.2.2)),(t10.1,(t10.2.1,t10.2.2)),t11,w64 (t12+1))
 else
 if t9.2.2==1 then
 if decide (t9.2.1>0)then
 some (.inr (t9.1,(t9.2.1,t9.2.2)))
 else
 Au rec n (t0,t1,t2,t3,(t9.1,(t9.2.1,t9.2.2)),(t10.1,(t10.2.1,t10.2.2)),t11,w64 (t12+1))
 else
 Au rec n (t0,t1,t2,t3,(t9.1,(t9.2.1,t9.2.2)),(t10.1,(t10.2.1,t10.2.2)),t11,w64 (t12+1))
 else none
 else none
 else none
 else
 some (.inl ((t9.1,(t9.2.1,t9.2.2)),(t10.1,(t10.2.1,t10.2.2))))
def DQ (rec:(Int×(List (List ((List Int)×Int×(List (List Int)))))×(List Int)×(List Int)×((List (List Int))×(Int×Int)))->Option (((List (List Int))×(Int×Int)))) (t0:Int) (t1:List (List ((List Int)×Int×(List (List Int))))) (t2:List Int) (t3:List Int) (t4:(List (List Int))×(Int×Int)):Option (((List (List Int))×(Int×Int))):=
 if(t3.length:Int)==(t1.length:Int)then
  if decide ((t4.1.length:Int)<t4.2.2)then
   (Bh t3).bind λr1=>
    if t4.1.length+ [r1].length<=lim then
     some (t4.1++ [r1],(w64 (t4.2.1+1),t4.2.2))
    else none
  else
   some (t4.1,(w64 (t4.2.1+1),t4.2.2))
 else
  (Au rec Aa (t0,t1,t2,t3,(t4.1,(t4.2.1,t4.2.2)),([],(0,0)),(t3.length:Int),0)).bind λs2=>
   match s2 with
   | .inl s3=>
    some (s3.1.1,(s3.1.2.1,s3.1.2.2))
   | .inr s4=>
    some (s4.1,(s4.2.1,s4.2.2))
def BC:Nat->(Int×(List (List ((List Int)×Int×(List (List Int)))))×(List Int)×(List Int)×((List (List Int))×(Int×Int)))->Option (((List (List Int))×(Int×Int)))
 |0,_=>none
 |d+1,x=>DQ (BC d) x.1 x.2.1 x.2.2.1 x.2.2.2.1 x.2.2.2.2
def DM (n_:Int) (rels:List (Int×(List (List Int)))) (k:Int) (fixed:List Int) (most:Int):Option (((List (List Int))×(Int×Int))):=
 (Ek n_ rels k).bind λr1=>
 (BC Aa (n_,r1,fixed,[],([],(0,most)))).bind λr2=>
 some (r2.1,(r2.2.1,r2.2.2))
def Cv:Nat->(Int×(List (List Int))×(List (Int×(List Int)))×Int)->Option ((List (Int×(List Int))))
 |0,_=>none
 |n+1,(k,tables,out,i)=>
 if decide (i<(tables.length:Int))then
 if inb i tables then
 (Bh (gd tables i [])).bind λr1=>
 if out.length+ [(k,r1)].length<=lim then
 Cv n (k,tables,out++ [(k,r1)],w64 (i+1))
 else none
 else none
 else
 some out
def Ed (k:Int) (tables:List (List Int)):Option ((List (Int×(List Int)))):=
 (Cv Aa (k,tables,[],0)).bind λs1=>
 some s1
def CX (n_:Int) (rels:List (Int×(List (List Int)))) (k:Int):Option ((List (Int×(List Int)))×Bool):=
 (El n_ rels k).bind λr1=>
 if !r1 then
 some ([],false)
 else
 (BD n_ k).bind λr2=>
 (DZ r2).bind λr3=>
 (DM n_ rels k r3 300).bind λr4=>
 if decide (r4.2.1>300)then
 some ([],false)
 else
 (Ed k r4.1).bind λr5=>
 some (r5,true)
def B4:Nat->(Int×(List (Int×(List (List Int))))×Int×Int)->Option ((Unit)⊕(Bool))
 |0,_=>none
 |n+1,(n_,t10,t11,t12)=>
 if decide (t12<t11)then
 if inb t12 t10 then
 (Dc n_ ((gd t10 t12 (0,[])).1,(gd t10 t12 (0,[])).2)).bind λr1=>
 if !r1 then
 some (.inr false)
 else
 B4 n (n_,t10,t11,w64 (t12+1))
 else none
 else
 some (.inl ())
def ED (n_:Int) (rels:List (Int×(List (List Int)))):Option (Bool):=
 if decide ((rels.length:Int)>4)then
  some false
 else
  (B4 Aa (n_,rels,(rels.length:Int),0)).bind λs1=>
   match s1 with
   | .inl s2=>
    some true
   | .inr s3=>
    some s3
def Cr:Nat->(Int×(List (Int×(List (List Int))))×Int×Int)->Option ((Unit)⊕(Bool))
 |0,_=>none
 |n+1,(k,t18,t19,t20)=>
 if decide (t20<t19)then
 if inb t20 t18 then
 if k==3 then
 if decide ((((gd t18 t20 (0,[])).2).length:Int)>12)then
 some (.inr false)
 else
 Cr n (k,t18,t19,w64 (t20+1))
 else
 Cr n (k,t18,t19,w64 (t20+1))
 else none
 else
 some (.inl ())
def EM (n_:Int) (rels:List (Int×(List (List Int)))) (k:Int):Option (Bool):=
 (Co n_).bind λr1=>
  if !r1 then
   some false
  else
   (ED n_ rels).bind λr2=>
    if !r2 then
     some false
    else
     (Cr Aa (k,rels,(rels.length:Int),0)).bind λs3=>
      match s3 with
      | .inl s4=>
       some true
      | .inr s5=>
       some s5
def DB (n_:Int) (k:Int):Option (Bool):=
 if decide (k≥1)then
 if decide (k<=3)then
 (B5 n_ k).bind λr1=>
 some (decide (r1<=9))
 else
 some false
 else
 some false
def BL:Nat->((List Int)×Int×Int)->Option ((List Int))
 |0,_=>none
 |n+1,(list,t8,t9)=>
 if decide (t9<t8)then
 if inb t9 list then
 BL n (stt list t9 (-1),t8,w64 (t9+1))
 else none
 else
 some list
def Dp (many:Int):Option ((List Int)):=
 if 0<=many/\many<=many/\many<=lim then
 (BL Aa (List.replicate (Int.toNat many) (0:Int),((List.replicate (Int.toNat many) (0:Int)).length:Int),0)).bind λs1=>
 some s1
 else none
def CT:Nat->(Int×Int×(List Int)×Int)->Option ((List Int))
 |0,_=>none
 |n+1,(i,n_,args,j)=>
 if decide (j≥0)then
 if n_≠0 then
 if inb j args then
 if n_≠0 then
 CT n (w64 (Int.tdiv i n_),n_,stt args j (Int.tmod i n_),w64 (j-1))
 else none
 else none
 else none
 else
 some args
def EL (i:Int) (k:Int) (n_:Int):Option ((List Int)):=
 if 0<=k/\k<=k/\k<=lim then
 (CT Aa (i,n_,List.replicate (Int.toNat k) (0:Int),w64 (k-1))).bind λs1=>
 some s1
 else none
def Ba:Nat->(Unit×Int×Int×(Int×(Int×(List (List ((List Int)×(List ByteArray))))))×(Int×(List (List Int)))×(List ByteArray)×(List ByteArray)×Int×(List Int)×(List Int)×Int×Int×(List (Int×(List (List Int))))×Int×Int×Int×Int×Int×Int)->Option (Int×Int×(Int×(Int×(List (List ((List Int)×(List ByteArray))))))×(Int×(List (List Int)))×(List ByteArray)×(List ByteArray)×Int×(List Int)×(List Int)×Int×Int×(List (Int×(List (List Int))))×Int×Int×Int×Int)
 |0,_=>none
 |n+1,(al60,t0,t2,t7,t9,t10,t11,t12,t13,t14,t15,t16,t28,t29,t30,t56,t57,t61,t62)=>
 if decide (t62<t61)then
 if inb t62 t13 then
 if inb t16 t14 then
 if inb (gd t13 t62 0) t9.2 then
 if inb t16 (gd t9.2 (gd t13 t62 0) [])then
 if inb t16 t14 then
 Ba n ((),t0,t2,(t7.1,(t7.2.1,t7.2.2)),(t9.1,t9.2),t10,t11,t12,t13,stt t14 t16 (w64 ((w64 ((gd t14 t16 0)*t0))+(gd (gd t9.2 (gd t13 t62 0) []) t16 0))),t15,t16,t28,t29,t30,t56,t57,t61,w64 (t62+1))
 else none
 else none
 else none
 else none
 else none
 else
 some (t0,t2,(t7.1,(t7.2.1,t7.2.2)),(t9.1,t9.2),t10,t11,t12,t13,t14,t15,t16,t28,t29,t30,t56,t57)
def A9:Nat->(Int×Int×(Int×(Int×(List (List ((List Int)×(List ByteArray))))))×(Int×(List (List Int)))×(List ByteArray)×(List ByteArray)×Int×(List Int)×(List Int)×Int×(List (Int×(List (List Int))))×Int×Int×Int×Int)->Option (Int×Int×(Int×(Int×(List (List ((List Int)×(List ByteArray))))))×(Int×(List (List Int)))×(List ByteArray)×(List ByteArray)×Int×(List Int)×Int×(List (Int×(List (List Int))))×Int×Int)
 |0,_=>none
 |n+1,(t0,t2,t7,t9,t10,t11,t12,t13,t14,t15,t28,t29,t30,t56,t57)=>
 if decide (t57<t56)then
 (Ba Aa ((),t0,t2,(t7.1,(t7.2.1,t7.2.2)),(t9.1,t9.2),t10,t11,t12,t13,t14,t15,t57,t28,t29,t30,t56,t57,(t13.length:Int),0)).bind λs5=>
 if inb s5.2.2.2.2.2.2.2.2.2.2.1 s5.2.2.2.2.2.2.2.2.1 then
 A9 n (s5.1,s5.2.1,(s5.2.2.1.1,(s5.2.2.1.2.1,s5.2.2.1.2.2)),(s5.2.2.2.1.1,s5.2.2.2.1.2),s5.2.2.2.2.1,s5.2.2.2.2.2.1,s5.2.2.2.2.2.2.1,s5.2.2.2.2.2.2.2.1,s5.2.2.2.2.2.2.2.2.1,Yiv s5.2.2.2.2.2.2.2.2.2.1 (gd s5.2.2.2.2.2.2.2.2.1 s5.2.2.2.2.2.2.2.2.2.2.1 0),s5.2.2.2.2.2.2.2.2.2.2.2.1,s5.2.2.2.2.2.2.2.2.2.2.2.2.1,s5.2.2.2.2.2.2.2.2.2.2.2.2.2.1,s5.2.2.2.2.2.2.2.2.2.2.2.2.2.2.1,w64 (s5.2.2.2.2.2.2.2.2.2.2.2.2.2.2.2+1))
 else none
 else
 some (t0,t2,(t7.1,(t7.2.1,t7.2.2)),(t9.1,t9.2),t10,t11,t12,t14,t15,t28,t29,t30)
def AU:Nat->(Int×Int×(Int×(Int×(List (List ((List Int)×(List ByteArray))))))×(Int×(List (List Int)))×(List ByteArray)×(List ByteArray)×Int×(List (Int×(List (List Int))))×Int×Int)->Option (Int×Int×(Int×(Int×(List (List ((List Int)×(List ByteArray))))))×(List (Int×(List (List Int))))×Int×Int)
 |0,_=>none
 |n+1,(t0,t2,t7,t9,t10,t11,t12,t28,t29,t30)=>
 (B5 (t9.2.length:Int) t2).bind λr3=>
 if decide (t12<r3)then
 (EL t12 t2 (t9.2.length:Int)).bind λr4=>
 if 0<=t9.1/\t9.1<=t9.1/\t9.1<=lim then
 (A9 Aa (t0,t2,(t7.1,(t7.2.1,t7.2.2)),(t9.1,t9.2),t10,t11,t12,r4,List.replicate (Int.toNat t9.1) (0:Int),0,t28,t29,t30,((List.replicate (Int.toNat t9.1) (0:Int)).length:Int),0)).bind λs5=>
 (CB s5.2.2.2.2.2.2.2.1).bind λr6=>
 if !(Xs s5.2.2.2.2.2.1 r6)then
 if inb s5.2.2.2.2.2.2.2.2.1 s5.2.2.1.2.2 then
 if(gd s5.2.2.1.2.2 s5.2.2.2.2.2.2.2.2.1 []).length+ [(s5.2.2.2.2.2.2.2.1,s5.2.2.2.2.1)].length<=lim then
 if inb s5.2.2.2.2.2.2.2.2.1 s5.2.2.1.2.2 then
 if s5.2.2.2.2.2.2.2.2.1=s5.2.2.2.2.2.2.2.2.1 then
 AU n (s5.1,s5.2.1,(s5.2.2.1.1,(s5.2.2.1.2.1,stt s5.2.2.1.2.2 s5.2.2.2.2.2.2.2.2.1 ((gd s5.2.2.1.2.2 s5.2.2.2.2.2.2.2.2.1 [])++ [(s5.2.2.2.2.2.2.2.1,s5.2.2.2.2.1)]))),(s5.2.2.2.1.1,s5.2.2.2.1.2),s5.2.2.2.2.1,YhI s5.2.2.2.2.2.1 r6,w64 (s5.2.2.2.2.2.2.1+1),s5.2.2.2.2.2.2.2.2.2.1,s5.2.2.2.2.2.2.2.2.2.2.1,s5.2.2.2.2.2.2.2.2.2.2.2)
 else none
 else none
 else none
 else none
 else
 AU n (s5.1,s5.2.1,(s5.2.2.1.1,(s5.2.2.1.2.1,s5.2.2.1.2.2)),(s5.2.2.2.1.1,s5.2.2.2.1.2),s5.2.2.2.2.1,s5.2.2.2.2.2.1,w64 (s5.2.2.2.2.2.2.1+1),s5.2.2.2.2.2.2.2.2.2.1,s5.2.2.2.2.2.2.2.2.2.2.1,s5.2.2.2.2.2.2.2.2.2.2.2)
 else none
 else
 some (t0,t2,(t7.1,(t7.2.1,t7.2.2)),t28,t29,t30)
def Bk:Nat->(Int×Int×(Int×(Int×(List (List ((List Int)×(List ByteArray))))))×(List (Int×(List (List Int))))×Int×Int)->Option ((Int×(Int×(List (List ((List Int)×(List ByteArray)))))))
 |0,_=>none
 |n+1,(t0,t2,t7,t28,t29,t30)=>
 if decide (t30<t29)then
 if inb t30 t28 then
 (C9 ((gd t28 t30 (0,[])).1,(gd t28 t30 (0,[])).2)).bind λr2=>
 (AU Aa (t0,t2,(t7.1,(t7.2.1,t7.2.2)),((gd t28 t30 (0,[])).1,(gd t28 t30 (0,[])).2),r2,[],0,t28,t29,t30)).bind λs3=>
 Bk n (s3.1,s3.2.1,(s3.2.2.1.1,(s3.2.2.1.2.1,s3.2.2.1.2.2)),s3.2.2.2.1,s3.2.2.2.2.1,w64 (s3.2.2.2.2.2+1))
 else none
 else
 some (t7.1,(t7.2.1,t7.2.2))
def Di (t0:Int) (t1:List (Int×(List (List Int)))) (t2:Int):Option ((Bool×Int×Int×(List (List ((List Int)×(List ByteArray)))))):=
 (B5 t0 t2).bind λr1=>
 if 0<=r1/\r1<=r1/\r1<=lim then
 (Bk Aa (t0,t2,(t0,(t2,List.replicate (Int.toNat r1) ([]:List ((List Int)×(List ByteArray))))),t1,(t1.length:Int),0)).bind λs2=>
 some (true,(s2.1,(s2.2.1,s2.2.2)))
 else none
def B3 (list:List Int):Option ((List Int)):=
 if([]:List Int).length+list.length<=lim then
 some ([]++list)
 else none
def CN (table:List Int) (t1:List (Int×(List Int))) (t2:Int):Option ((List (Int×(List Int)))×Int×Bool):=
 (B3 table).bind λr1=>
 if t1.length+ [(t2,r1)].length<=lim then
 some (t1++ [(t2,r1)],t2,decide (((t1++ [(t2,r1)]).length:Int)<=300))
 else none
def AJ:Nat->((List Int)×(List ((List Int)×(List ByteArray)))×Int×Int)->Option ((Unit)⊕(Bool))
 |0,_=>none
 |n+1,(table,t15,t16,t17)=>
 if decide (t17<t16)then
 if inb t17 t15 then
 (BR ((gd t15 t17 ([],[])).1) table).bind λr1=>
 (CB r1).bind λr2=>
 if !(Xs ((gd t15 t17 ([],[])).2) r2)then
 some (.inr false)
 else
 AJ n (table,t15,t16,w64 (t17+1))
 else none
 else
 some (.inl ())
def AL (s:Bool×Int×Int×(List (List ((List Int)×(List ByteArray))))) (table:List Int) (at_:Int):Option (Bool):=
 if s.1=true then
  if inb at_ s.2.2.2 then
   (AJ Aa (table,gd s.2.2.2 at_ [],((gd s.2.2.2 at_ []).length:Int),0)).bind λs1=>
    match s1 with
    | .inl s2=>
     some true
    | .inr s3=>
     some s3
  else none
 else none
def Ah (rec:(Int×(List Int)×((List (Int×(List Int)))×Int)×(Bool×Int×Int×(List (List ((List Int)×(List ByteArray)))))×(List Int)×Unit)->Option ((List Int)×((List (Int×(List Int)))×Int)×(Bool×Int×Int×(List (List ((List Int)×(List ByteArray)))))×(List Int)×Bool)):Nat->(Int×(List Int)×((List (Int×(List Int)))×Int)×(Bool×Int×Int×(List (List ((List Int)×(List ByteArray)))))×(List Int)×Unit×Int)->Option (((List Int)×((List (Int×(List Int)))×Int)×(Bool×Int×Int×(List (List ((List Int)×(List ByteArray)))))×(List Int)×Unit)⊕((List Int)×((List (Int×(List Int)))×Int)×(Bool×Int×Int×(List (List ((List Int)×(List ByteArray)))))×(List Int)×Unit×Bool))
 |0,_=>none
 |n+1,(at_,t1,t2,t3,t4,t5,x)=>
 if t3.1=true then
 if decide (x<t3.2.1)then
 if inb at_ t4 then
 if decide ((gd t4 at_ 0)≥0)then
 if inb at_ t4 then
 if(gd t4 at_ 0) !=x then
 Ah rec n (at_,t1,(t2.1,t2.2),t3,t4,(),w64 (x+1))
 else
 if inb at_ t1 then
 (AL t3 (stt t1 at_ x) at_).bind λr2=>
 if r2 then
 (rec (w64 (at_+1),stt t1 at_ x,(t2.1,t2.2),t3,t4,())).bind λr3=>
 if !r3.2.2.2.2 then
 some (.inr (r3.1,(r3.2.1.1,r3.2.1.2),r3.2.2.1,r3.2.2.2.1,(),false))
 else
 Ah rec n (at_,r3.1,(r3.2.1.1,r3.2.1.2),r3.2.2.1,r3.2.2.2.1,(),w64 (x+1))
 else
 Ah rec n (at_,stt t1 at_ x,(t2.1,t2.2),t3,t4,(),w64 (x+1))
 else none
 else none
 else
 if inb at_ t1 then
 (AL t3 (stt t1 at_ x) at_).bind λr4=>
 if r4 then
 (rec (w64 (at_+1),stt t1 at_ x,(t2.1,t2.2),t3,t4,())).bind λr5=>
 if !r5.2.2.2.2 then
 some (.inr (r5.1,(r5.2.1.1,r5.2.1.2),r5.2.2.1,r5.2.2.2.1,(),false))
 else
 Ah rec n (at_,r5.1,(r5.2.1.1,r5.2.1.2),r5.2.2.1,r5.2.2.2.1,(),w64 (x+1))
 else
 Ah rec n (at_,stt t1 at_ x,(t2.1,t2.2),t3,t4,(),w64 (x+1))
 else none
 else none
 else
 some (.inl (t1,(t2.1,t2.2),t3,t4,()))
 else none
def Bm (rec:(Int×(List Int)×((List (Int×(List Int)))×Int)×(Bool×Int×Int×(List (List ((List Int)×(List ByteArray)))))×(List Int)×Unit)->Option ((List Int)×((List (Int×(List Int)))×Int)×(Bool×Int×Int×(List (List ((List Int)×(List ByteArray)))))×(List Int)×Bool)) (at_:Int) (t1:List Int) (t2:(List (Int×(List Int)))×Int) (t3:Bool×Int×Int×(List (List ((List Int)×(List ByteArray))))) (t4:List Int) (t5:Unit):Option ((List Int)×((List (Int×(List Int)))×Int)×(Bool×Int×Int×(List (List ((List Int)×(List ByteArray)))))×(List Int)×Bool):=
 if at_==(t1.length:Int)then
  (CN t1 t2.1 t2.2).bind λr1=>
   some (t1,(r1.1,r1.2.1),t3,t4,r1.2.2)
 else
  (Ah rec Aa (at_,t1,(t2.1,t2.2),t3,t4,(),0)).bind λs2=>
   match s2 with
   | .inl s3=>
    some (s3.1,(s3.2.1.1,s3.2.1.2),s3.2.2.1,s3.2.2.2.1,true)
   | .inr s4=>
    some (s4.1,(s4.2.1.1,s4.2.1.2),s4.2.2.1,s4.2.2.2.1,s4.2.2.2.2.2)
def Ar:Nat->(Int×(List Int)×((List (Int×(List Int)))×Int)×(Bool×Int×Int×(List (List ((List Int)×(List ByteArray)))))×(List Int)×Unit)->Option ((List Int)×((List (Int×(List Int)))×Int)×(Bool×Int×Int×(List (List ((List Int)×(List ByteArray)))))×(List Int)×Bool)
 |0,_=>none
 |d+1,x=>Bm (Ar d) x.1 x.2.1 x.2.2.1 x.2.2.2.1 x.2.2.2.2.1 x.2.2.2.2.2
def BG (s:Bool×Int×Int×(List (List ((List Int)×(List ByteArray))))) (given:List Int) (found:(List (Int×(List Int)))×Int):Option (((List (Int×(List Int)))×Int)):=
 if 0<=(given.length:Int)/\(given.length:Int)<=(given.length:Int)/\(given.length:Int)<=lim then
 (Ar Aa (0,List.replicate (Int.toNat (given.length:Int)) (0:Int),(found.1,found.2),s,given,())).bind λr1=>
 some (r1.2.1.1,r1.2.1.2)
 else none
def Ds (n_:Int) (rels:List (Int×(List (List Int)))) (k:Int) (given:List Int):Option ((List (Int×(List Int)))×Bool):=
 (Di n_ rels k).bind λr1=>
 (BG r1 given ([],k)).bind λr2=>
 if decide ((r2.1.length:Int)>300)then
 some ([],false)
 else
 some (r2.1,true)
def A7 (n_:Int) (rels:List (Int×(List (List Int)))) (k:Int):Option ((List (Int×(List Int)))×Bool):=
 (EM n_ rels k).bind λr1=>
 if !r1 then
 some ([],false)
 else
 (DB n_ k).bind λr2=>
 if !r2 then
 some ([],false)
 else
 (B5 n_ k).bind λr3=>
 (Dp r3).bind λr4=>
 (Ds n_ rels k r4).bind λr5=>
 some (r5.1,r5.2)
end T
open Go Go.Va
namespace T
theorem Kw {a b:Nat} (ha:a<4611686018427387904):w64 (Int.tdiv (a:Int) (b:Int))=((a/b:Nat):Int):=by
 rw[Int.tdiv_eq_ediv_of_nonneg (by omega),←Int.natCast_ediv]
 have:=Nat.div_le_self a b
 generalize a/b=q at this
 exact AE (by omega) (by omega)
theorem Kx {a b:Nat}:Int.tmod (a:Int) (b:Int)=((a%b:Nat):Int):=by
 rw[Int.tmod_eq_emod_of_nonneg (by omega),←Int.natCast_emod]
section
variable {n:Nat}
end
end T
open Go Go.Va
namespace T
abbrev AX:=Int×List (List Int)
structure ROk (n m:Nat) (r:AX):Prop where
 ar:r.1=(m:Int)
 hm:1<=m/\m<=3
 tl: ∀t∈r.2,t.length=m
 tv: ∀t∈r.2,∀x∈t,0<=x/\x<(n:Int)
 many:r.2.length<=64
 inc:CL r.2=true
theorem KW {n:Nat} {r:AX} (hn:1<=n/\n<=4) (h:Ex (n:Int) r=true):ROk n r.1.toNat r:=by
 unfold Ex at h
 simp only[Bool.and_eq_true,decide_eq_true_eq,List.all_eq_true]at h
 obtain⟨⟨h1,h2⟩,h3⟩:=h
 refine⟨by omega,by omega,λt ht=>by have:=(h2 t ht).1;omega,λt ht x hx=>?_,?_,h3⟩
 ·obtain⟨j,hj,rfl⟩:=List.mem_iff_getElem.1 hx
  exact Eu (h2 t ht).2 j hj
 ·rcases FF (n:=(n:Int)) (k:=r.1.toNat) h3 λt ht=>⟨by have:=(h2 t ht).1;omega,(h2 t ht).2⟩with h6|h6
  ·have h7:((n:Int))^r.1.toNat=((n^r.1.toNat:Nat):Int):=by push_cast;rfl
   have h8:=De hn.2 (show r.1.toNat<=3 by omega)
   omega
  ·rw[h6];simp
theorem JF {b:Nat} (hb:b<=64): ∀(m k j:Nat),j+k<=3->k<m->Cn m ((b:Int),(k:Int),((b^j:Nat):Int))=some (((b^(j+k):Nat):Int)):=by
 intro m
 induction m with
 |zero=>intro k j _ h;omega
 |succ m ih=>
  intro k j hj hk
  simp only[Cn]
  cases k with
  |zero=>simp
  |succ k=>
   have e:w64 (((k+1:Nat):Int)-1)=(k:Int):=by rw[AE (by omega) (by omega)];omega
   rw[e,HP hb (by omega),if_pos (by simp),ih k (j+1) (by omega) (by omega)]
   congr 3;omega
theorem DC {b k:Nat} (hb:b<=64) (hk:k<=3):BD (b:Int) (k:Int)=some (((b^k:Nat):Int)):=by
 unfold BD
 have:=JF hb Aa k 0 (by omega) (by unfold Aa;omega)
 have this:Cn Aa ((b:Int),(k:Int),1)=_:=this
 rw[this];simp
theorem Jf {l:List Nat} {s:List Nat} {x y:Nat}:(cI (l++x::s)).set l.length (y:Int)=cI (l++y::s):=by
 unfold cI
 rw[List.map_append,List.map_append,List.map_cons,List.map_cons,List.set_append_right _ _ (by simp)]
 simp
theorem JR {b:Nat} (hb:0<b): ∀(j i f:Nat) (s:List Nat),j<f->i<4611686018427387904->j<=1000->
  CT f ((i:Int),(b:Int),cI (List.replicate j 0++s),(j:Int)-1)=some (cI (dg b j i++s)):=by
 intro j
 induction j with
 |zero=>
  intro i f s hf hi hj
  obtain⟨f,rfl⟩: ∃z,f=z+1:=⟨f-1,by omega⟩
  simp only[CT]
  rw[if_neg (by simp)];rfl
 |succ j ih=>
  intro i f s hf hi hj
  obtain⟨f,rfl⟩: ∃z,f=z+1:=⟨f-1,by omega⟩
  have e1:((j+1:Nat):Int)-1=(j:Int):=by omega
  have hz:List.replicate (j+1) 0++s=List.replicate j 0++0::s:=by rw[List.replicate_succ'];simp
  have hlen:j<(cI (List.replicate j 0++0::s)).length:=by rw[CS];simp
  have hset:=Jf (l:=List.replicate j 0) (s:=s) (x:=0) (y:=i%b)
  rw[List.length_replicate]at hset
  have w2:w64 ((j:Int)-1)=(j:Int)-1:=AE (by omega) (by omega)
  have hle:=Nat.div_le_self i b
  rw[e1,hz]
  simp only[CT,Kw hi,Kx,Ae,hlen,Dg,hset,w2]
  rw[if_pos (by simp),if_pos (by omega),if_pos trivial,if_pos (by omega),ih (i/b) f _ (by omega) (by omega) (by omega)]
  simp[dg]
theorem Gk {b k i:Nat} (hb:0<b) (hk:k<=1000) (hi:i<4611686018427387904):EL (i:Int) (k:Int) (b:Int)=some (cI (dg b k i)):=by
 have h:=JR hb k i Aa [] (by unfold Aa;omega) hi hk
 have e:cI (List.replicate k 0++ [])=List.replicate (Int.toNat (k:Int)) (0:Int):=by unfold cI;simp
 rw[e,List.append_nil]at h
 unfold EL
 rw[AE (x:=(k:Int)-1) (by omega) (by omega),h,if_pos (by unfold lim;omega)];rfl
theorem IT {b:Nat} (hb:0<b): ∀(j i f:Nat) (s:List Nat),j<f->i<4611686018427387904->j<=1000->
  CZ f ((b:Int),(i:Int),cI (List.replicate j 0++s),(j:Int)-1)=some (cI (dg b j i++s)):=by
 intro j
 induction j with
 |zero=>
  intro i f s hf hi hj
  obtain⟨f,rfl⟩: ∃z,f=z+1:=⟨f-1,by omega⟩
  simp only[CZ]
  rw[if_neg (by simp)];rfl
 |succ j ih=>
  intro i f s hf hi hj
  obtain⟨f,rfl⟩: ∃z,f=z+1:=⟨f-1,by omega⟩
  have e1:((j+1:Nat):Int)-1=(j:Int):=by omega
  have hz:List.replicate (j+1) 0++s=List.replicate j 0++0::s:=by rw[List.replicate_succ'];simp
  have hlen:j<(cI (List.replicate j 0++0::s)).length:=by rw[CS];simp
  have hset:=Jf (l:=List.replicate j 0) (s:=s) (x:=0) (y:=i%b)
  rw[List.length_replicate]at hset
  have w2:w64 ((j:Int)-1)=(j:Int)-1:=AE (by omega) (by omega)
  have hle:=Nat.div_le_self i b
  rw[e1,hz]
  simp only[CZ,Kw hi,Kx,Ae,hlen,Dg,hset,w2]
  rw[if_pos (by simp),if_pos (by omega),if_pos trivial,if_pos (by omega),ih (i/b) f _ (by omega) (by omega) (by omega)]
  simp[dg]
theorem EY {b k i:Nat} (hb:0<b) (hk:k<=1000) (hi:i<4611686018427387904):Ef (b:Int) (k:Int) (i:Int)=some (cI (dg b k i)):=by
 have h:=IT hb k i Aa [] (by unfold Aa;omega) hi hk
 have e:cI (List.replicate k 0++ [])=List.replicate (Int.toNat (k:Int)) (0:Int):=by unfold cI;simp
 rw[e,List.append_nil]at h
 unfold Ef
 rw[AE (x:=(k:Int)-1) (by omega) (by omega),h,if_pos (by unfold lim;omega)];rfl
def PL (n k:Nat) (r:AX) (i:Nat):List Nat:=(List.range r.1.toNat).map λj=>atF n r.2 j (dg r.2.length k i)
def Bn (l:List Nat):Nat:=l.foldl max 0
theorem ER: ∀(l:List Nat) (a:Nat),a<=l.foldl max a/\ ∀x∈l,x<=l.foldl max a
 | [],a=>⟨Nat.le_refl _,λx h=>by simp at h⟩
 |y::l,a=>by
  obtain⟨h1,h2⟩:=ER l (max a y)
  refine⟨by rw[List.foldl_cons];omega,λx hx=>?_⟩
  rw[List.foldl_cons]
  rcases List.mem_cons.1 hx with rfl|hx
  ·omega
  ·exact h2 x hx
theorem Gm {l:List Nat} {b:Nat} (hb:0<b) (h: ∀x∈l,x<b):Bn l<b:=by
 unfold Bn
 have key: ∀(l:List Nat) (a:Nat),a<b->(∀x∈l,x<b)->l.foldl max a<b:=by
  intro l
  induction l with
  |nil=>intro a ha _;exact ha
  |cons y l ih=>intro a ha hl;rw[List.foldl_cons];exact ih _ (by have:=hl y (by simp);omega) λx hx=>hl x (List.mem_cons_of_mem _ hx)
 exact key l 0 hb h
section
variable {n k m:Nat} {r:AX}
theorem ROk.vt_lt (h:ROk n m r) {x j:Nat} (hx:x<r.2.length) (hj:j<m):vt r.2 x j<n/\(r.2.getD x []).getD j 0=((vt r.2 x j:Nat):Int)/\j<(r.2.getD x []).length:=by
 have hmem:r.2[x]∈r.2:=List.getElem_mem hx
 have hl:=h.tl _ hmem
 have hj':j<(r.2[x]).length:=by omega
 have hv:=h.tv _ hmem _ (List.getElem_mem hj')
 unfold vt
 rw[Ai hx,Ai hj']
 exact⟨by omega,by omega,by omega⟩
theorem ROk.at_lt (h:ROk n m r) {j:Nat} (hj:j<m) (a:List Nat) (ha: ∀x∈a,x<r.2.length):atF n r.2 j a<n^a.length:=by
 have:=It (n:=n) (v:=λx=>vt r.2 x j) a 0 λx hx=>(h.vt_lt (ha x hx) hj).1
 unfold atF;omega
theorem ROk.pl_lt (h:ROk n m r) {i:Nat} (hb:0<r.2.length): ∀x∈PL n k r i,x<n^k:=λx hx=>by
 unfold PL at hx
 obtain⟨j,hj,rfl⟩:=List.mem_map.1 hx
 have:=h.at_lt (j:=j) (by have:=List.mem_range.1 hj;have:=h.ar;omega) (dg r.2.length k i) (Is hb)
 rw[FB]at this
 exact this
theorem ROk.pl_len (h:ROk n m r) {i:Nat}:(PL n k r i).length=m:=by unfold PL;simp;have:=h.ar;omega
end
end T
open Go Go.Va
namespace T
def FU {α:Type} (X:List (List α)) (p:Nat) (d:α):List (List α):=X.set p (X.getD p []++ [d])
theorem GT {α:Type} {X:List (List α)} {p:Nat} {d:α}:(FU X p d).length=X.length:=by unfold FU;simp
theorem Fz {α:Type} {X:List (List α)} {p q:Nat} {d:α} (hp:p<X.length):(FU X p d).getD q []=if q=p then X.getD p []++ [d]else X.getD q []:=by
 unfold FU
 by_cases e:q=p
 ·subst e;rw[if_pos rfl,Ai (by simp;exact hp)];simp
 ·rw[if_neg e]
  simp only[List.getD_eq_getElem?_getD]
  rw[List.getElem?_set_ne (by omega)]
abbrev DT:=List (List (List Int×List ByteArray))
def DU (n k:Nat) (r:AX) (X:DT×List ByteArray) (i:Nat):DT×List ByteArray:=
 if Xs X.2 (Ej (cI (PL n k r i)))then X else(FU X.1 (Bn (PL n k r i)) (cI (PL n k r i),Dm r.2),YhI X.2 (Ej (cI (PL n k r i))))
def FK (n k:Nat) (D:DT) (r:AX):DT:=((List.range (r.2.length^k)).foldl (DU n k r) (D,[])).1
abbrev NT:=List (List (List Int×Int×List (List Int)))
def E2 (n k:Nat) (r:AX) (X:NT) (i:Nat):NT:=FU X (Bn (PL n k r i)) (cI (PL n k r i),r)
def Fi (n k:Nat) (X:NT) (r:AX):NT:=(List.range (r.2.length^k)).foldl (E2 n k r) X
section
variable {n k m:Nat} {r:AX}
theorem KN (h:ROk n m r) (hn:1<=n/\n<=4) (hk:k<=3) {args:List Nat} (hl:args.length<=3) (ha: ∀x∈args,x<r.2.length) {j:Nat} (hj:j<m) {o:List Int} (ho:j<o.length) (h0:o.getD j 0=0)
  (p q:Int) (D:DT) (t10 t11:List ByteArray) (t12 t15:Int) (t28:List AX) (t29 t30 t56:Int):
  Ba Aa ((),(n:Int),(k:Int),(p,(q,D)),(r.1,r.2),t10,t11,t12,cI args,o,t15,(j:Int),t28,t29,t30,t56,(j:Int),((cI args).length:Int),0)
   =some ((n:Int),(k:Int),(p,(q,D)),(r.1,r.2),t10,t11,t12,cI args,o.set j ((atF n r.2 j args:Nat):Int),t15,(j:Int),t28,t29,t30,t56,(j:Int)):=by
 have:=CD args.length (λf o i=>Ba f ((),(n:Int),(k:Int),(p,(q,D)),(r.1,r.2),t10,t11,t12,cI args,o,t15,(j:Int),t28,t29,t30,t56,(j:Int),((cI args).length:Int),i)) (λz=>o.set j ((atF n r.2 j (args.take z):Nat):Int))
  (r:=some ((n:Int),(k:Int),(p,(q,D)),(r.1,r.2),t10,t11,t12,cI args,o.set j ((atF n r.2 j args:Nat):Int),t15,(j:Int),t28,t29,t30,t56,(j:Int))) (λf z hz=>?_) (λf=>?_) (n:=Aa) (by unfold Aa;omega)
 ·have e:o.set j ((atF n r.2 j (args.take 0):Nat):Int)=o:=by
   have:((atF n r.2 j (args.take 0):Nat):Int)=o[j]:=by rw[Ai ho]at h0;rw[h0];rfl
   rw[this,List.set_getElem_self]
  rw[e]at this
  exact this
 ·have hzc:z<(cI args).length:=by rw[CS];exact hz
  have hx:=ha _ (List.getElem_mem hz)
  have hg:(cI args).getD z 0=((args[z]:Nat):Int):=by rw[Ai hzc];simp[cI]
  obtain⟨v1,v2,v3⟩:=h.vt_lt hx hj
  have hlt:=h.at_lt hj (args.take z) λx hx=>ha x (List.mem_of_mem_take hx)
  have hp:=De (n:=n) (k:=(args.take z).length) hn.2 (by rw[List.length_take];omega)
  have hstep:=H5 (n:=n) hn.2 (x:=atF n r.2 j (args.take z)) (v:=vt r.2 args[z] j) (by omega) v1
  have htk:args.take (z+1)=args.take z++ [args[z]]:=List.take_succ_eq_append_getElem hz
  have hos:j<(o.set j ((atF n r.2 j (args.take z):Nat):Int)).length:=by simp;exact ho
  have hog:(o.set j ((atF n r.2 j (args.take z):Nat):Int)).getD j 0=((atF n r.2 j (args.take z):Nat):Int):=by rw[Ai hos];simp
  have hoo: ∀y:Int,(o.set j ((atF n r.2 j (args.take z):Nat):Int)).set j y=o.set j y:=λy=>by simp
  simp only[Ba,Ae,hzc,Jn,hg,hos,hog,hx,v3,v2,hstep,Dg,hoo,htk,Gc,Ac (show z<4611686018427387904 by omega),if_true]
  rw[if_pos (by simp;rw[CS];exact hz)]
 ·simp only[Ba,List.take_length]
  rw[if_neg (by rw[CS];simp)]
theorem Hd {i j:Nat} (hj:j<(PL n k r i).length):(PL n k r i)[j]=atF n r.2 j (dg r.2.length k i):=by simp[PL]
theorem Gn {l:List Nat} {j:Nat} (hj:j<l.length):Bn (l.take (j+1))=max (Bn (l.take j)) l[j]:=by
 unfold Bn;rw[List.take_succ_eq_append_getElem hj,List.foldl_append];rfl
theorem Jx (a b:Nat):Yiv (a:Int) (b:Int)=((max a b:Nat):Int):=by
 unfold Yiv
 by_cases h:b>a
 ·rw[if_pos (by omega)];omega
 ·rw[if_neg (by omega)];omega
theorem KM (h:ROk n m r) (hn:1<=n/\n<=4) (hk:k<=3) (hb:0<r.2.length) (i:Nat) (p q:Int) (D:DT) (t10 t11:List ByteArray) (t12:Int) (t28:List AX) (t29 t30:Int):
  A9 Aa ((n:Int),(k:Int),(p,(q,D)),(r.1,r.2),t10,t11,t12,cI (dg r.2.length k i),List.replicate (Int.toNat r.1) (0:Int),0,t28,t29,t30,((List.replicate (Int.toNat r.1) (0:Int)).length:Int),0)
   =some ((n:Int),(k:Int),(p,(q,D)),(r.1,r.2),t10,t11,t12,cI (PL n k r i),((Bn (PL n k r i):Nat):Int),t28,t29,t30):=by
 have hm:=h.hm
 have har:=h.ar
 have hpl:=h.pl_len (k:=k) (i:=i)
 have hrep:List.replicate (Int.toNat r.1) (0:Int)=List.replicate m 0:=by rw[har];simp
 rw[hrep]
 have:=CD m (λf (s:List Int×Int) j=>A9 f ((n:Int),(k:Int),(p,(q,D)),(r.1,r.2),t10,t11,t12,cI (dg r.2.length k i),s.1,s.2,t28,t29,t30,((List.replicate m (0:Int)).length:Int),j))
  (λj=>(cI ((PL n k r i).take j)++List.replicate (m-j) 0,((Bn ((PL n k r i).take j):Nat):Int)))
  (r:=some ((n:Int),(k:Int),(p,(q,D)),(r.1,r.2),t10,t11,t12,cI (PL n k r i),((Bn (PL n k r i):Nat):Int),t28,t29,t30)) (λf j hj=>?_) (λf=>?_) (n:=Aa) (by unfold Aa;omega)
 ·exact this
 ·have hjl:j<(PL n k r i).length:=by omega
  have htl:((PL n k r i).take j).length=j:=by rw[List.length_take];omega
  have hol:j<(cI ((PL n k r i).take j)++List.replicate (m-j) 0).length:=by rw[List.length_append,CS,htl];simp;omega
  have hog:(cI ((PL n k r i).take j)++List.replicate (m-j) 0).getD j 0=0:=by
   rw[Ai hol,List.getElem_append_right (by rw[CS];omega)];simp
  have h17:=KN h hn hk (args:=dg r.2.length k i) (by rw[FB];exact hk) (Is hb) hj hol hog p q D t10 t11 t12 ((Bn ((PL n k r i).take j):Nat):Int) t28 t29 t30 ((List.replicate m (0:Int)).length:Int)
  have hset:(cI ((PL n k r i).take j)++List.replicate (m-j) 0).set j ((atF n r.2 j (dg r.2.length k i):Nat):Int)=cI ((PL n k r i).take (j+1))++List.replicate (m-(j+1)) 0:=by
   rw[List.take_succ_eq_append_getElem hjl,Hd hjl,GU,show m-j=(m-(j+1))+1 by omega,List.replicate_succ,List.set_append_right _ _ (by rw[CS];omega),CS,htl]
   simp[cI]
  have hol':j<(cI ((PL n k r i).take (j+1))++List.replicate (m-(j+1)) 0).length:=by rw[←hset];simpa using hol
  have hog':(cI ((PL n k r i).take (j+1))++List.replicate (m-(j+1)) 0).getD j 0=(((PL n k r i)[j]:Nat):Int):=by
   rw[←hset,Ai (by rw[List.length_set];exact hol),Hd hjl];simp
  rw[hset]at h17
  simp only[A9,h17,Option.bind_some,Ae,hol',Jn,hog',Jx,Gn hjl,Ac (show j<4611686018427387904 by omega),if_true]
  rw[if_pos (by simp;omega)]
 ·have e:(PL n k r i).take m=PL n k r i:=List.take_of_length_le (by omega)
  simp only[A9,e]
  rw[if_neg (by simp)];simp
theorem I6 (X:DT×List ByteArray) (i:Nat):(DU n k r X i).1.length=X.1.length:=by unfold DU;split<;>simp[GT]
theorem E4: ∀(l:List Nat) (X:DT×List ByteArray),(l.foldl (DU n k r) X).1.length=X.1.length
 | [],X=>rfl
 |i::l,X=>by rw[List.foldl_cons,E4 l];exact I6 X i
theorem HR (D:DT):(FK n k D r).length=D.length:=E4 _ _
def Ec {α:Type} (X:List (List α)) (B:Nat):Prop:= ∀p,(X.getD p []).length<=B
theorem Ga {α:Type} {X:List (List α)} {B:Nat} (h:Ec X B) {p:Nat} {d:α}:Ec (FU X p d) (B+1):=λq=>by
 rcases Nat.lt_or_ge p X.length with hp|hp
 ·rw[Fz hp]
  have h1:=h p
  have h2:=h q
  split
  ·rw[List.length_append,List.length_singleton];omega
  ·omega
 ·unfold FU;rw[List.set_eq_of_length_le hp];have:=h q;omega
theorem Il {X:DT×List ByteArray} {B:Nat} (h:Ec X.1 B) (i:Nat):Ec (DU n k r X i).1 (B+1):=by
 unfold DU
 split
 ·intro p;have:=h p;omega
 ·exact Ga h
theorem Fg: ∀(l:List Nat) (X:DT×List ByteArray) (B:Nat),Ec X.1 B->Ec (l.foldl (DU n k r) X).1 (B+l.length)
 | [],X,B,h=>h
 |i::l,X,B,h=>by
  have:=Fg l _ _ (Il (n:=n) (k:=k) (r:=r) h i)
  rw[List.foldl_cons,List.length_cons,show B+(l.length+1)=B+1+l.length by omega]
  exact this
theorem Ew {α:Type} {f:α->Nat->α} {a:α} {i:Nat}:(List.range (i+1)).foldl f a=f ((List.range i).foldl f a) i:=by rw[List.range_succ,List.foldl_append];rfl
theorem Gx (h:ROk n m r) (hn:1<=n/\n<=4) (hk:k<=3) (hb:0<r.2.length) (i:Nat): ∀x∈cI (PL n k r i),0<=x/\x<256:=λx hx=>by
 unfold cI at hx
 obtain⟨y,hy,rfl⟩:=List.mem_map.1 hx
 have:=h.pl_lt hb y hy
 have:=De hn.2 hk
 omega
theorem Lg (h:ROk n m r) (hn:1<=n/\n<=4) (hk:k<=3) (hk1:0<k) {D:DT} (hD:D.length=n^k) {B:Nat} (hroom:Ec D B) (hB:B<=100000000) (p q:Int) (t28:List AX) (t29 t30:Int):
  AU Aa ((n:Int),(k:Int),(p,(q,D)),(r.1,r.2),Dm r.2,[],0,t28,t29,t30)
   =some ((n:Int),(k:Int),(p,(q,FK n k D r)),t28,t29,t30):=by
 have hm:=h.hm
 have har:=h.ar
 have hN:=Iz h.many hk
 have hmany:=h.many
 have:=CD (r.2.length^k) (λf (s:DT×List ByteArray) i=>AU f ((n:Int),(k:Int),(p,(q,s.1)),(r.1,r.2),Dm r.2,s.2,i,t28,t29,t30)) (λi=>(List.range i).foldl (DU n k r) (D,[]))
  (r:=some ((n:Int),(k:Int),(p,(q,FK n k D r)),t28,t29,t30)) (λf i hi=>?_) (λf=>?_) (n:=Aa) (by unfold Aa;omega)
 ·exact this
 ·have hb:0<r.2.length:=by
   rcases Nat.eq_zero_or_pos r.2.length with e2|e2
   ·rw[e2,Nat.zero_pow hk1]at hi;omega
   ·exact e2
  have hlen:((List.range i).foldl (DU n k r) (D,[])).1.length=n^k:=by rw[E4];exact hD
  have hro:=Fg (n:=n) (k:=k) (r:=r) (List.range i) (D,[]) B hroom
  rw[List.length_range]at hro
  generalize hX:(List.range i).foldl (DU n k r) (D,[])=X at hlen hro
  have hlast:Bn (PL n k r i)<X.1.length:=by
   rw[hlen];exact Gm (Nat.pow_pos (by omega)) (h.pl_lt hb)
  have hkey:=DD (l:=cI (PL n k r i)) (by rw[CS,h.pl_len];omega) (Gx h hn hk hb i)
  have h14:=KM h hn hk hb i p q X.1 (Dm r.2) X.2 (i:Int) t28 t29 t30
  have hlim:=hro (Bn (PL n k r i))
  rw[Ew,hX]
  simp only[AU,Du hmany hk,Gk (k:=k) hb (by omega) (show i<4611686018427387904 by omega),Option.bind_some,h14,hkey,Ae,hlast,Jn,Dg,Ac (show i<4611686018427387904 by omega)]
  rw[if_pos (decide_eq_true (show(i:Int)<((r.2.length^k:Nat):Int) from Int.ofNat_lt.2 hi)),if_pos (by unfold lim;omega)]
  unfold DU
  cases Xs X.2 (Ej (cI (PL n k r i)))with
  |true=>simp
  |false=>
   simp only[Bool.not_false,if_true,Bool.false_eq_true,if_false]
   rw[if_pos (by rw[List.length_singleton];unfold lim;omega)]
   rfl
 ·simp only[AU,Du hmany hk,Option.bind_some]
  rw[if_neg (by simp)];rfl
end
end T
open Go Go.Va
namespace T
structure RelsOk (n k:Nat) (rels:List AX):Prop where
 hn:1<=n/\n<=4
 hk:1<=k/\k<=3
 len:rels.length<=8
 ok: ∀r∈rels,ROk n r.1.toNat r
def DP (n k:Nat) (rels:List AX):DT:=rels.foldl (FK n k) (List.replicate (n^k) [])
def DX (n k:Nat) (rels:List AX):NT:=rels.foldl (Fi n k) (List.replicate (n^k) [])
section
variable {n k m:Nat} {r:AX} {rels:List AX}
theorem RelsOk.cnt (h:RelsOk n k rels) (hr:r∈rels):r.2.length^k<=262144:=Iz (h.ok r hr).many h.hk.2
theorem Hs (h:RelsOk n k rels) (t:Nat) (ht:t<=rels.length):((rels.take t).foldl (FK n k) (List.replicate (n^k) [])).length=n^k/\Ec ((rels.take t).foldl (FK n k) (List.replicate (n^k) [])) (262144*t):=by
 induction t with
 |zero=>exact⟨by simp,λp=>by simp[List.getD_eq_getElem?_getD,List.getElem?_replicate];split<;>simp⟩
 |succ t ih=>
  obtain⟨h1,h2⟩:=ih (by omega)
  have htl:t<rels.length:=by omega
  rw[List.take_succ_eq_append_getElem htl,List.foldl_append]
  simp only[List.foldl_cons,List.foldl_nil]
  refine⟨by rw[HR];exact h1,λp=>?_⟩
  have h3:=h.cnt (List.getElem_mem htl)
  have:=Fg (n:=n) (k:=k) (r:=rels[t]) (List.range (rels[t].2.length^k)) (_,[]) _ h2 p
  rw[List.length_range]at this
  exact Nat.le_trans this (by omega)
theorem EJ (h:RelsOk n k rels):Di (n:Int) rels (k:Int)=some (true,(n:Int),(k:Int),DP n k rels):=by
 have hk:=h.hk
 have hn:=h.hn
 have hl:=h.len
 have hp:=De (n:=n) (k:=k) hn.2 hk.2
 unfold Di
 rw[Du (by omega) hk.2]
 simp only[Option.bind_some]
 have:=CD rels.length (λf (s:DT) i=>Bk f ((n:Int),(k:Int),((n:Int),((k:Int),s)),rels,(rels.length:Int),i)) (λt=>(rels.take t).foldl (FK n k) (List.replicate (n^k) []))
  (r:=some ((n:Int),((k:Int),DP n k rels))) (λf t ht=>?_) (λf=>?_) (n:=Aa) (by unfold Aa;omega)
 ·have e:((rels.take 0).foldl (FK n k) (List.replicate (n^k) []))=List.replicate (Int.toNat ((n^k:Nat):Int)) ([]:List (List Int×List ByteArray)):=by rw[Int.toNat_natCast];rfl
  rw[e]at this
  have this:Bk Aa ((n:Int),(k:Int),((n:Int),((k:Int),List.replicate (Int.toNat ((n^k:Nat):Int)) ([]:List (List Int×List ByteArray)))),rels,(rels.length:Int),0)=_:=this
  rw[this,if_pos (by unfold lim;omega)];rfl
 ·have hr:=h.ok _ (List.getElem_mem ht)
  obtain⟨h1,h2⟩:=Hs h t (by omega)
  have hm:=hr.hm
  have h8:=Lg hr hn hk.2 (by omega) h1 h2 (by omega) (n:Int) (k:Int) rels (rels.length:Int) (t:Int)
  have hts:=Er (r:=rels[t]) (by have:=hr.many;omega) (λu hu=>⟨by have:=hr.tl u hu;omega,λx hx=>by have:=hr.tv u hu x hx;omega⟩)
  have hts:C9 (rels[t].1,rels[t].2)=_:=hts
  have htk:(rels.take (t+1)).foldl (FK n k) (List.replicate (n^k) [])=FK n k ((rels.take t).foldl (FK n k) (List.replicate (n^k) [])) rels[t]:=by
   rw[List.take_succ_eq_append_getElem ht,List.foldl_append];rfl
  simp only[Bk,Ae,ht,Aj ht,hts,Option.bind_some,h8,htk,Ac (show t<4611686018427387904 by omega)]
  rw[if_pos (by simp;omega)];rfl
 ·simp only[Bk,List.take_length]
  rw[if_neg (by simp)];rfl
theorem KJ (h:ROk n m r) (hn:1<=n/\n<=4) {t:Nat} (ht:t<rels.length) (er:rels[t]=r) {args:List Nat} (hl:args.length<=3) (ha: ∀x∈args,x<r.2.length) {j:Nat} (hj:j<m)
  (t7:NT) (t10 t11:Int) (t13:List Int×Int×List (List Int)) (t14:Int):
  BQ Aa ((n:Int),rels,(args.length:Int),t7,(t:Int),t10,t11,cI args,(t13.1,(t13.2.1,t13.2.2)),t14,(j:Int),0,0)
   =some ((n:Int),rels,(args.length:Int),t7,(t:Int),t10,t11,cI args,(t13.1,(t13.2.1,t13.2.2)),t14,(j:Int),((atF n r.2 j args:Nat):Int)):=by
 have:=CD args.length (λf (s:Int) i=>BQ f ((n:Int),rels,(args.length:Int),t7,(t:Int),t10,t11,cI args,(t13.1,(t13.2.1,t13.2.2)),t14,(j:Int),s,i)) (λz=>((atF n r.2 j (args.take z):Nat):Int))
  (r:=some ((n:Int),rels,(args.length:Int),t7,(t:Int),t10,t11,cI args,(t13.1,(t13.2.1,t13.2.2)),t14,(j:Int),((atF n r.2 j args:Nat):Int))) (λf z hz=>?_) (λf=>?_) (n:=Aa) (by unfold Aa;omega)
 ·exact this
 ·have hzc:z<(cI args).length:=by rw[CS];exact hz
  have hx:=ha _ (List.getElem_mem hz)
  have hg:(cI args).getD z 0=((args[z]:Nat):Int):=by rw[Ai hzc];simp[cI]
  obtain⟨v1,v2,v3⟩:=h.vt_lt hx hj
  have hlt:=h.at_lt hj (args.take z) λx hx=>ha x (List.mem_of_mem_take hx)
  have hp:=De (n:=n) (k:=(args.take z).length) hn.2 (by rw[List.length_take];omega)
  have hstep:=H5 (n:=n) hn.2 (x:=atF n r.2 j (args.take z)) (v:=vt r.2 args[z] j) (by omega) v1
  have htk:args.take (z+1)=args.take z++ [args[z]]:=List.take_succ_eq_append_getElem hz
  simp only[BQ,Ae,ht,Aj ht,er,hzc,Jn,hg,hx,v3,v2,hstep,htk,Gc,Ac (show z<4611686018427387904 by omega),if_true]
  rw[if_pos (by simp;omega)]
 ·simp only[BQ,List.take_length]
  rw[if_neg (by simp)]
theorem EH (a b:Nat):Cl (a:Int) (b:Int)=some ((max a b:Nat):Int):=by
 unfold Cl
 by_cases h:(a:Int)>(b:Int)
 ·rw[if_pos (by simpa using h)];congr 2;omega
 ·rw[if_neg (by simpa using h)];congr 2;omega
theorem KI (h:ROk n m r) (hn:1<=n/\n<=4) (hk:k<=3) (hb:0<r.2.length) {t:Nat} (ht:t<rels.length) (er:rels[t]=r) (i:Nat) (t7:NT) (t10 t11:Int) (q:Int×List (List Int)):
  BP Aa ((n:Int),rels,(k:Int),t7,(t:Int),t10,t11,cI (dg r.2.length k i),([],(q.1,q.2)),0,0)
   =some ((n:Int),rels,(k:Int),t7,(t:Int),t10,t11,(cI (PL n k r i),(q.1,q.2)),((Bn (PL n k r i):Nat):Int)):=by
 have hm:=h.hm
 have har:=h.ar
 have hpl:=h.pl_len (k:=k) (i:=i)
 have:=CD m (λf (s:List Int×Int) j=>BP f ((n:Int),rels,(k:Int),t7,(t:Int),t10,t11,cI (dg r.2.length k i),(s.1,(q.1,q.2)),s.2,j))
  (λj=>(cI ((PL n k r i).take j),((Bn ((PL n k r i).take j):Nat):Int)))
  (r:=some ((n:Int),rels,(k:Int),t7,(t:Int),t10,t11,(cI (PL n k r i),(q.1,q.2)),((Bn (PL n k r i):Nat):Int))) (λf j hj=>?_) (λf=>?_) (n:=Aa) (by unfold Aa;omega)
 ·exact this
 ·have hjl:j<(PL n k r i).length:=by omega
  have htl:((PL n k r i).take j).length=j:=by rw[List.length_take];omega
  have h21:=KJ h hn ht er (args:=dg r.2.length k i) (by rw[FB];exact hk) (Is hb) hj t7 t10 t11 (cI ((PL n k r i).take j),(q.1,q.2)) ((Bn ((PL n k r i).take j):Nat):Int)
  rw[FB]at h21
  have e1:cI ((PL n k r i).take (j+1))=cI ((PL n k r i).take j)++ [((atF n r.2 j (dg r.2.length k i):Nat):Int)]:=by
   rw[List.take_succ_eq_append_getElem hjl,Hd hjl,GU];rfl
  have e2:Bn ((PL n k r i).take (j+1))=max (Bn ((PL n k r i).take j)) (atF n r.2 j (dg r.2.length k i)):=by rw[Gn hjl,Hd hjl]
  simp only[BP,Ae,ht,Aj ht,er,har,h21,Option.bind_some,EH,e1,e2,Ac (show j<4611686018427387904 by omega),if_true]
  rw[if_pos (by simp;omega),if_pos (by rw[CS,htl,List.length_singleton];unfold lim;omega)]
 ·have e:(PL n k r i).take m=PL n k r i:=List.take_of_length_le (by omega)
  simp only[BP,Ae,ht,Aj ht,er,har,e,if_true]
  rw[if_neg (by simp)]
theorem I7 (X:NT) (i:Nat):(E2 n k r X i).length=X.length:=GT
theorem Ep: ∀(l:List Nat) (X:NT),(l.foldl (E2 n k r) X).length=X.length
 | [],X=>rfl
 |i::l,X=>by rw[List.foldl_cons,Ep l];exact I7 X i
theorem Fh: ∀(l:List Nat) (X:NT) (B:Nat),Ec X B->Ec (l.foldl (E2 n k r) X) (B+l.length)
 | [],X,B,h=>h
 |i::l,X,B,h=>by
  have:=Fh l _ _ (Ga (p:=Bn (PL n k r i)) (d:=(cI (PL n k r i),r)) h)
  rw[List.foldl_cons,List.length_cons,show B+(l.length+1)=B+1+l.length by omega]
  exact this
theorem KH (h:ROk n m r) (hn:1<=n/\n<=4) (hk:k<=3) (hk1:0<k) {t:Nat} (ht:t<rels.length) (er:rels[t]=r) {X:NT} (hX:X.length=n^k) {B:Nat} (hroom:Ec X B) (hB:B<=100000000):
  BO Aa ((n:Int),rels,(k:Int),X,(t:Int),(r.2.length:Int),0)=some ((n:Int),rels,(k:Int),Fi n k X r,(t:Int)):=by
 have hm:=h.hm
 have hN:=Iz h.many hk
 have hmany:=h.many
 have:=CD (r.2.length^k) (λf (s:NT) i=>BO f ((n:Int),rels,(k:Int),s,(t:Int),(r.2.length:Int),i)) (λi=>(List.range i).foldl (E2 n k r) X)
  (r:=some ((n:Int),rels,(k:Int),Fi n k X r,(t:Int))) (λf i hi=>?_) (λf=>?_) (n:=Aa) (by unfold Aa;omega)
 ·exact this
 ·have hb:0<r.2.length:=by
   rcases Nat.eq_zero_or_pos r.2.length with e2|e2
   ·rw[e2,Nat.zero_pow hk1]at hi;omega
   ·exact e2
  have hlen:((List.range i).foldl (E2 n k r) X).length=n^k:=by rw[Ep];exact hX
  have hro:=Fh (n:=n) (k:=k) (r:=r) (List.range i) X B hroom
  rw[List.length_range]at hro
  generalize hY:(List.range i).foldl (E2 n k r) X=Y at hlen hro
  have hlast:Bn (PL n k r i)<Y.length:=by
   rw[hlen];exact Gm (Nat.pow_pos (by omega)) (h.pl_lt hb)
  have h17:=KI h hn hk hb ht er i Y (r.2.length:Int) (i:Int) r
  have hlim:=hro (Bn (PL n k r i))
  rw[Ew,hY]
  simp only[BO,DC hmany hk,EY (k:=k) hb (by omega) (show i<4611686018427387904 by omega),Option.bind_some,Ae,ht,Aj ht,er,h17,hlast,Jn,Dg,Ac (show i<4611686018427387904 by omega),if_true]
  rw[if_pos (decide_eq_true (show(i:Int)<((r.2.length^k:Nat):Int) from Int.ofNat_lt.2 hi)),if_pos (by rw[List.length_singleton];unfold lim;omega)]
  rfl
 ·simp only[BO,DC hmany hk,Option.bind_some]
  rw[if_neg (by simp)];rfl
theorem Hu (h:RelsOk n k rels) (t:Nat) (ht:t<=rels.length):((rels.take t).foldl (Fi n k) (List.replicate (n^k) [])).length=n^k/\Ec ((rels.take t).foldl (Fi n k) (List.replicate (n^k) [])) (262144*t):=by
 induction t with
 |zero=>exact⟨by simp,λp=>by simp[List.getD_eq_getElem?_getD,List.getElem?_replicate];split<;>simp⟩
 |succ t ih=>
  obtain⟨h1,h2⟩:=ih (by omega)
  have htl:t<rels.length:=by omega
  rw[List.take_succ_eq_append_getElem htl,List.foldl_append]
  simp only[List.foldl_cons,List.foldl_nil]
  refine⟨by unfold Fi;rw[Ep];exact h1,λp=>?_⟩
  have h3:=h.cnt (List.getElem_mem htl)
  have:=Fh (n:=n) (k:=k) (r:=rels[t]) (List.range (rels[t].2.length^k)) _ _ h2 p
  rw[List.length_range]at this
  exact Nat.le_trans this (by omega)
theorem FO (h:RelsOk n k rels):Ek (n:Int) rels (k:Int)=some (DX n k rels):=by
 have hk:=h.hk
 have hn:=h.hn
 have hl:=h.len
 have hp:=De (n:=n) (k:=k) hn.2 hk.2
 unfold Ek
 have h3:=CD (n^k) (λf (s:NT) i=>BY f ((n:Int),rels,(k:Int),s,i)) (λt=>List.replicate t []) (r:=some ((n:Int),rels,(k:Int),List.replicate (n^k) [])) (λf t ht=>?_) (λf=>?_) (n:=Aa) (by unfold Aa;omega)
 ·have h3:BY Aa ((n:Int),rels,(k:Int),[],0)=_:=h3
  simp only[h3,Option.bind_some]
  have:=CD rels.length (λf (s:NT) i=>BZ f ((n:Int),rels,(k:Int),s,i)) (λt=>(rels.take t).foldl (Fi n k) (List.replicate (n^k) [])) (r:=some (DX n k rels)) (λf t ht=>?_) (λf=>?_) (n:=Aa) (by unfold Aa;omega)
  ·have e:((rels.take 0).foldl (Fi n k) (List.replicate (n^k) []))=List.replicate (n^k) []:=by simp
   rw[e]at this
   have this:BZ Aa ((n:Int),rels,(k:Int),List.replicate (n^k) [],0)=_:=this
   rw[this];rfl
  ·have hr:=h.ok _ (List.getElem_mem ht)
   obtain⟨h1,h2⟩:=Hu h t (by omega)
   have h11:=KH hr hn hk.2 (by omega) ht rfl h1 h2 (by omega)
   have htk:(rels.take (t+1)).foldl (Fi n k) (List.replicate (n^k) [])=Fi n k ((rels.take t).foldl (Fi n k) (List.replicate (n^k) [])) rels[t]:=by
    rw[List.take_succ_eq_append_getElem ht,List.foldl_append];rfl
   simp only[BZ,Ae,ht,Aj ht,Option.bind_some,h11,htk,Ac (show t<4611686018427387904 by omega)]
   rw[if_pos (by simp;omega)];rfl
  ·simp only[BZ,List.take_length]
   rw[if_neg (by simp)];rfl
 ·simp only[BY,DC (show n<=64 by omega) hk.2,Option.bind_some,List.replicate_succ',Ac (show t<4611686018427387904 by omega)]
  rw[if_pos (decide_eq_true (show(t:Int)<((n^k:Nat):Int) from Int.ofNat_lt.2 ht)),if_pos (by simp;unfold lim;omega)]
 ·simp only[BY,DC (show n<=64 by omega) hk.2,Option.bind_some]
  rw[if_neg (by simp)]
end
end T
open Go Go.Va
namespace T
section
variable {n k m:Nat} {r:AX} {rels:List AX}
theorem Hl (h:ROk n m r) (hn:1<=n/\n<=4) (hk1:0<k) {i:Nat} (hi:i<r.2.length^k):Bn (PL n k r i)<n^k:=by
 have hb:0<r.2.length:=by
  rcases Nat.eq_zero_or_pos r.2.length with e2|e2
  ·rw[e2,Nat.zero_pow hk1]at hi;omega
  ·exact e2
 exact Gm (Nat.pow_pos (by omega)) (h.pl_lt hb)
theorem IP (h:ROk n m r) (hn:1<=n/\n<=4) (hk1:0<k) {X:NT} (hX:X.length=n^k): ∀(i:Nat),i<=r.2.length^k-> ∀at' d,d∈((List.range i).foldl (E2 n k r) X).getD at' []↔d∈X.getD at' []∨ ∃j,j<i/\Bn (PL n k r j)=at'/\d=(cI (PL n k r j),r):=by
 intro i
 induction i with
 |zero=>intro _ a d;simp
 |succ i ih=>
  intro hi a d
  have hlen:((List.range i).foldl (E2 n k r) X).length=n^k:=by rw[Ep];exact hX
  have hl:=Hl h hn hk1 (i:=i) (by omega)
  have ih:=ih (by omega)
  rw[Ew]
  generalize (List.range i).foldl (E2 n k r) X=Y at ih hlen
  unfold E2
  rw[Fz (by rw[hlen];exact hl)]
  by_cases e:a=Bn (PL n k r i)
  ·rw[if_pos e,List.mem_append,←e,ih,List.mem_singleton]
   constructor
   ·rintro ((h1|⟨j,h1,h2⟩)|h1)
    ·exact .inl h1
    ·exact .inr ⟨j,by omega,h2⟩
    ·exact .inr ⟨i,by omega,e.symm,h1⟩
   ·rintro (h1|⟨j,h1,h2,h3⟩)
    ·exact .inl (.inl h1)
    ·by_cases e2:j=i
     ·subst e2;exact .inr h3
     ·exact .inl (.inr ⟨j,by omega,h2,h3⟩)
  ·rw[if_neg e,ih]
   constructor
   ·rintro (h1|⟨j,h1,h2⟩)
    ·exact .inl h1
    ·exact .inr ⟨j,by omega,h2⟩
   ·rintro (h1|⟨j,h1,h2,h3⟩)
    ·exact .inl h1
    ·by_cases e2:j=i
     ·subst e2;exact absurd h2.symm e
     ·exact .inr ⟨j,by omega,h2,h3⟩
theorem JH {X:NT}:(Fi n k X r).length=X.length:=by unfold Fi;rw[Ep]
theorem Gf (hn:1<=n/\n<=4) (hk1:0<k): ∀(l:List AX) (X:NT),X.length=n^k->(∀r∈l,ROk n r.1.toNat r)-> ∀at' d,d∈(l.foldl (Fi n k) X).getD at' []↔d∈X.getD at' []∨ ∃r∈l,∃j,j<r.2.length^k/\Bn (PL n k r j)=at'/\d=(cI (PL n k r j),r)
 | [],X,_,_,a,d=>by simp
 |r::l,X,hX,hl,a,d=>by
  rw[List.foldl_cons,Gf hn hk1 l _ (by rw[JH];exact hX) (λr hr=>hl r (List.mem_cons_of_mem _ hr))]
  unfold Fi
  rw[IP (hl r (by simp)) hn hk1 hX _ (Nat.le_refl _)]
  constructor
  ·rintro ((h1|⟨j,h1⟩)|⟨q,h1,h2⟩)
   ·exact .inl h1
   ·exact .inr ⟨r,by simp,j,h1⟩
   ·exact .inr ⟨q,by simp[h1],h2⟩
  ·rintro (h1|⟨q,h1,h2⟩)
   ·exact .inl (.inl h1)
   ·rcases List.mem_cons.1 h1 with rfl|h1
    ·exact .inl (.inr h2)
    ·exact .inr ⟨q,h1,h2⟩
theorem HV {α:Type} {N a:Nat} {d:α}: ¬d∈(List.replicate N ([]:List α)).getD a []:=by
 simp[List.getD_eq_getElem?_getD,List.getElem?_replicate];split<;>simp
theorem Hw (h:RelsOk n k rels) (at':Nat) (d):d∈(DX n k rels).getD at' []↔ ∃r∈rels,∃j,j<r.2.length^k/\Bn (PL n k r j)=at'/\d=(cI (PL n k r j),r):=by
 unfold DX
 rw[Gf h.hn h.hk.1 rels _ (by simp) h.ok]
 constructor
 ·rintro (h1|h1)
  ·exact absurd h1 HV
  ·exact h1
 ·exact .inr
theorem KA {a b:List Nat} (h:cI a=cI b):a=b:=by
 unfold cI at h
 exact List.map_inj_right (λx y e=>by exact Int.ofNat_inj.1 e)|>.1 h
theorem IN (h:ROk n m r) (hn:1<=n/\n<=4) (hk:k<=3) (hk1:0<k) {X:DT} (hX:X.length=n^k): ∀(i:Nat),i<=r.2.length^k->
  (∀at' d,d∈((List.range i).foldl (DU n k r) (X,[])).1.getD at' []↔d∈X.getD at' []∨ ∃j,j<i/\Bn (PL n k r j)=at'/\d=(cI (PL n k r j),Dm r.2))/\
  (∀s,s∈((List.range i).foldl (DU n k r) (X,[])).2↔ ∃j,j<i/\s=Ej (cI (PL n k r j))):=by
 intro i
 induction i with
 |zero=>intro _;exact⟨λa d=>by simp,λs=>by simp⟩
 |succ i ih=>
  intro hi
  obtain⟨ih1,ih2⟩:=ih (by omega)
  have hlen:((List.range i).foldl (DU n k r) (X,[])).1.length=n^k:=by rw[E4];exact hX
  have hl:=Hl h hn hk1 (i:=i) (by omega)
  have hb:0<r.2.length:=by
   rcases Nat.eq_zero_or_pos r.2.length with e2|e2
   ·rw[e2,Nat.zero_pow hk1]at hi;omega
   ·exact e2
  rw[Ew]
  generalize (List.range i).foldl (DU n k r) (X,[])=Y at ih1 ih2 hlen
  unfold DU
  by_cases hc:Xs Y.2 (Ej (cI (PL n k r i)))=true
  ·rw[if_pos hc]
   obtain⟨j0,hj0,e0⟩:=(ih2 _).1 (Gr.1 hc)
   have e1:=HJ (Gx h hn hk hb i) (Gx h hn hk hb j0) e0
   have e2:=KA e1
   refine⟨λa d=>?_,λs=>?_⟩
   ·rw[ih1]
    constructor
    ·rintro (h1|⟨j,h1,h2⟩)
     ·exact .inl h1
     ·exact .inr ⟨j,by omega,h2⟩
    ·rintro (h1|⟨j,h1,h2,h3⟩)
     ·exact .inl h1
     ·by_cases e3:j=i
      ·subst e3;exact .inr ⟨j0,hj0,by rw[←e2];exact h2,by rw[←e2];exact h3⟩
      ·exact .inr ⟨j,by omega,h2,h3⟩
   ·rw[ih2]
    constructor
    ·rintro ⟨j,h1,h2⟩;exact⟨j,by omega,h2⟩
    ·rintro ⟨j,h1,h2⟩
     by_cases e3:j=i
     ·subst e3;exact⟨j0,hj0,by rw[←e2];exact h2⟩
     ·exact⟨j,by omega,h2⟩
  ·rw[if_neg hc]
   refine⟨λa d=>?_,λs=>?_⟩
   ·rw[Fz (by rw[hlen];exact hl)]
    by_cases e:a=Bn (PL n k r i)
    ·rw[if_pos e,List.mem_append,←e,ih1,List.mem_singleton]
     constructor
     ·rintro ((h1|⟨j,h1,h2⟩)|h1)
      ·exact .inl h1
      ·exact .inr ⟨j,by omega,h2⟩
      ·exact .inr ⟨i,by omega,e.symm,h1⟩
     ·rintro (h1|⟨j,h1,h2,h3⟩)
      ·exact .inl (.inl h1)
      ·by_cases e2:j=i
       ·subst e2;exact .inr h3
       ·exact .inl (.inr ⟨j,by omega,h2,h3⟩)
    ·rw[if_neg e,ih1]
     constructor
     ·rintro (h1|⟨j,h1,h2⟩)
      ·exact .inl h1
      ·exact .inr ⟨j,by omega,h2⟩
     ·rintro (h1|⟨j,h1,h2,h3⟩)
      ·exact .inl h1
      ·by_cases e2:j=i
       ·subst e2;exact absurd h2.symm e
       ·exact .inr ⟨j,by omega,h2,h3⟩
   ·rw[HM,ih2]
    constructor
    ·rintro (⟨j,h1,h2⟩|h1)
     ·exact⟨j,by omega,h2⟩
     ·exact⟨i,by omega,h1⟩
    ·rintro ⟨j,h1,h2⟩
     by_cases e2:j=i
     ·subst e2;exact .inr h2
     ·exact .inl ⟨j,by omega,h2⟩
theorem Ge (hn:1<=n/\n<=4) (hk:k<=3) (hk1:0<k): ∀(l:List AX) (X:DT),X.length=n^k->(∀r∈l,ROk n r.1.toNat r)-> ∀at' d,d∈(l.foldl (FK n k) X).getD at' []↔d∈X.getD at' []∨ ∃r∈l,∃j,j<r.2.length^k/\Bn (PL n k r j)=at'/\d=(cI (PL n k r j),Dm r.2)
 | [],X,_,_,a,d=>by simp
 |r::l,X,hX,hl,a,d=>by
  rw[List.foldl_cons,Ge hn hk hk1 l _ (by rw[HR];exact hX) (λr hr=>hl r (List.mem_cons_of_mem _ hr))]
  unfold FK
  rw[(IN (hl r (by simp)) hn hk hk1 hX _ (Nat.le_refl _)).1]
  constructor
  ·rintro ((h1|⟨j,h1⟩)|⟨q,h1,h2⟩)
   ·exact .inl h1
   ·exact .inr ⟨r,by simp,j,h1⟩
   ·exact .inr ⟨q,by simp[h1],h2⟩
  ·rintro (h1|⟨q,h1,h2⟩)
   ·exact .inl (.inl h1)
   ·rcases List.mem_cons.1 h1 with rfl|h1
    ·exact .inl (.inr h2)
    ·exact .inr ⟨q,h1,h2⟩
theorem Ht (h:RelsOk n k rels) (at':Nat) (d):d∈(DP n k rels).getD at' []↔ ∃r∈rels,∃j,j<r.2.length^k/\Bn (PL n k r j)=at'/\d=(cI (PL n k r j),Dm r.2):=by
 unfold DP
 rw[Ge h.hn h.hk.2 h.hk.1 rels _ (by simp) h.ok]
 constructor
 ·rintro (h1|h1)
  ·exact absurd h1 HV
  ·exact h1
 ·exact .inr
def FH (n k:Nat) (rels:List AX) (at':Nat) (tab:List Int):Bool:=
 rels.all λr=>(List.range (r.2.length^k)).all λj=>!decide (Bn (PL n k r j)=at')||decide ((cI (PL n k r j)).map (Bq tab)∈r.2)
theorem I8 {t:List Int} {x q:Nat} (h:x<q):Bq (t.take q) (x:Int)=Bq t (x:Int):=by
 simp[Bq,List.getD_eq_getElem?_getD,List.getElem?_take,h]
theorem G5 {at':Nat} {tab:List Int}:FH n k rels at' (tab.take (at'+1))=FH n k rels at' tab:=by
 unfold FH
 congr 1;funext r;congr 1;funext j
 by_cases e:Bn (PL n k r j)=at'
 ·have:(cI (PL n k r j)).map (Bq (tab.take (at'+1)))=(cI (PL n k r j)).map (Bq tab):=by
   refine List.map_congr_left λx hx=>?_
   unfold cI at hx
   obtain⟨y,hy,rfl⟩:=List.mem_map.1 hx
   have:=(ER (PL n k r j) 0).2 y hy
   unfold Bn at e
   exact I8 (by omega)
  rw[this]
 ·simp[e]
theorem JY (h:RelsOk n k rels):(DP n k rels).length=n^k/\Ec (DP n k rels) 2097152:=by
 have:=Hs h rels.length (Nat.le_refl _)
 rw[List.take_length]at this
 have hl:=h.len
 exact⟨this.1,λp=>by have:=this.2 p;unfold DP;omega⟩
theorem Hv (h:RelsOk n k rels):(DX n k rels).length=n^k/\Ec (DX n k rels) 2097152:=by
 have:=Hu h rels.length (Nat.le_refl _)
 rw[List.take_length]at this
 have hl:=h.len
 exact⟨this.1,λp=>by have:=this.2 p;unfold DX;omega⟩
theorem J3 (h:RelsOk n k rels) {tab:List Int} (ht:tab.length=n^k) (hv: ∀x∈tab,0<=x/\x<256) {at':Nat} (ha:at'<n^k):
  AL (true,(n:Int),(k:Int),DP n k rels) tab (at':Int)=some (FH n k rels at' tab):=by
 obtain⟨hlen,hroom⟩:=JY h
 have hp:=De h.hn.2 h.hk.2
 have hkey: ∀d∈(DP n k rels).getD at' [],∃r∈rels,∃j,j<r.2.length^k/\Bn (PL n k r j)=at'/\d=(cI (PL n k r j),Dm r.2)/\BR d.1 tab=some (d.1.map (Bq tab))/\CB (d.1.map (Bq tab))=some (Ej (d.1.map (Bq tab)))/\Xs d.2 (Ej (d.1.map (Bq tab)))=decide (d.1.map (Bq tab)∈r.2):=λd hd=>by
  obtain⟨r,hr,j,hj,hla,rfl⟩:=(Ht h at' d).1 hd
  have hrk:=h.ok r hr
  have hm:=hrk.hm
  have hpl: ∀v∈cI (PL n k r j),0<=v/\v<tab.length:=λv hv=>by
   unfold cI at hv
   obtain⟨y,hy,rfl⟩:=List.mem_map.1 hv
   have:=(ER (PL n k r j) 0).2 y hy
   unfold Bn at hla
   omega
  have hval: ∀x∈(cI (PL n k r j)).map (Bq tab),0<=x/\x<256:=λx hx=>by
   obtain⟨v,hvv,rfl⟩:=List.mem_map.1 hx
   obtain⟨h1,h2⟩:=hpl v hvv
   have:v.toNat<tab.length:=by omega
   unfold Bq
   rw[Ai this]
   exact hv _ (List.getElem_mem this)
  refine⟨r,hr,j,hj,hla,rfl,Db (by rw[CS,hrk.pl_len];omega) hpl,DD (by rw[List.length_map,CS,hrk.pl_len];omega) hval,?_⟩
  exact FI (λu hu x hx=>by have:=hrk.tv u hu x hx;have:=h.hn;omega) hval
 have e:FH n k rels at' tab=((DP n k rels).getD at' []).all λd=>Xs d.2 (Ej (d.1.map (Bq tab))):=by
  rw[Bool.eq_iff_iff,List.all_eq_true]
  unfold FH
  simp only[List.all_eq_true,Bool.or_eq_true,Bool.not_eq_true',decide_eq_false_iff_not,decide_eq_true_eq,List.mem_range]
  constructor
  ·intro h1 d hd
   obtain⟨r,hr,j,hj,hla,e1,_,_,h2⟩:=hkey d hd
   rw[h2,decide_eq_true_eq,e1]
   rcases h1 r hr j hj with h3|h3
   ·exact absurd hla h3
   ·exact h3
  ·intro h1 r hr j hj
   by_cases hla:Bn (PL n k r j)=at'
   ·right
    have hd:=(Ht h at' (cI (PL n k r j),Dm r.2)).2 ⟨r,hr,j,hj,hla,rfl⟩
    have h2:=h1 _ hd
    have hrk:=h.ok r hr
    rw[FI (λu hu x hx=>by have:=hrk.tv u hu x hx;have:=h.hn;omega) (λx hx=>by
     obtain⟨v,hvv,rfl⟩:=List.mem_map.1 hx
     unfold cI at hvv
     obtain⟨y,hy,rfl⟩:=List.mem_map.1 hvv
     have:=(ER (PL n k r j) 0).2 y hy
     unfold Bn at hla
     have hyt:y<tab.length:=by omega
     unfold Bq
     rw[Ai (by simpa using hyt)]
     exact hv _ (List.getElem_mem _)),decide_eq_true_eq]at h2
    exact h2
   ·exact .inl hla
 have hgd:gd (DP n k rels) (at':Int) []=(DP n k rels).getD at' []:=rfl
 unfold AL
 simp only[if_true,Ae,hlen,ha,hgd]
 have hro:=hroom at'
 generalize (DP n k rels).getD at' []=l at hkey e hro
 rw[e]
 have:=FA l (λf i=>AJ f (tab,l,(l.length:Int),i)) (λd=>Xs d.2 (Ej (d.1.map (Bq tab)))) (.inr false) (.inl ()) (λf i hi=>?_) (λf=>?_) (n:=Aa) (by unfold Aa;omega)
 ·have this:AJ Aa (tab,l,(l.length:Int),0)=_:=this
  rw[this]
  cases l.all λd=>Xs d.2 (Ej (d.1.map (Bq tab)))<;>rfl
 ·obtain⟨r,hr,j,hj,hla,e1,h1,h2,_⟩:=hkey _ (List.getElem_mem hi)
  simp only[AJ,Ae,hi,Aj hi,h1,h2,Option.bind_some,Ac (show i<4611686018427387904 by omega)]
  rw[if_pos (by simp;omega)]
  cases Xs l[i].2 (Ej (l[i].1.map (Bq tab)))<;>simp
 ·simp[AJ]
end
end T
open Go Go.Va
namespace T
abbrev PS:=Bool×Int×Int×DT
abbrev SIn (σ:Type):=Int×List Int×σ×PS×List Int×Unit
abbrev I9 (σ:Type):=List Int×σ×PS×List Int×Bool
def gL {σ:Type} (rec:SIn σ->Option (I9 σ)):Nat->(Int×List Int×σ×PS×List Int×Unit×Int)->Option ((List Int×σ×PS×List Int×Unit)⊕(List Int×σ×PS×List Int×Unit×Bool))
 |0,_=>none
 |n+1,(at_,t1,t2,t3,t4,t5,x)=>
 if t3.1=true then
 if decide (x<t3.2.1)then
 if inb at_ t4 then
 if decide ((gd t4 at_ 0)≥0)then
 if inb at_ t4 then
 if(gd t4 at_ 0) !=x then
 gL rec n (at_,t1,t2,t3,t4,(),w64 (x+1))
 else
 if inb at_ t1 then
 (AL t3 (stt t1 at_ x) at_).bind λr2=>
 if r2 then
 (rec (w64 (at_+1),stt t1 at_ x,t2,t3,t4,())).bind λr3=>
 if !r3.2.2.2.2 then
 some (.inr (r3.1,r3.2.1,r3.2.2.1,r3.2.2.2.1,(),false))
 else
 gL rec n (at_,r3.1,r3.2.1,r3.2.2.1,r3.2.2.2.1,(),w64 (x+1))
 else
 gL rec n (at_,stt t1 at_ x,t2,t3,t4,(),w64 (x+1))
 else none
 else none
 else
 if inb at_ t1 then
 (AL t3 (stt t1 at_ x) at_).bind λr4=>
 if r4 then
 (rec (w64 (at_+1),stt t1 at_ x,t2,t3,t4,())).bind λr5=>
 if !r5.2.2.2.2 then
 some (.inr (r5.1,r5.2.1,r5.2.2.1,r5.2.2.2.1,(),false))
 else
 gL rec n (at_,r5.1,r5.2.1,r5.2.2.1,r5.2.2.2.1,(),w64 (x+1))
 else
 gL rec n (at_,stt t1 at_ x,t2,t3,t4,(),w64 (x+1))
 else none
 else none
 else
 some (.inl (t1,t2,t3,t4,()))
 else none
def Iu {σ:Type} (cb:List Int->σ->Option (σ×Bool)) (rec:SIn σ->Option (I9 σ)) (x:SIn σ):Option (I9 σ):=
 if x.1==(x.2.1.length:Int)then
  (cb x.2.1 x.2.2.1).bind λr1=>some (x.2.1,r1.1,x.2.2.2.1,x.2.2.2.2.1,r1.2)
 else
  (gL rec Aa (x.1,x.2.1,x.2.2.1,x.2.2.2.1,x.2.2.2.2.1,(),0)).bind λs2=>
   match s2 with
   | .inl s3=>some (s3.1,s3.2.1,s3.2.2.1,s3.2.2.2.1,true)
   | .inr s4=>some (s4.1,s4.2.1,s4.2.2.1,s4.2.2.2.1,s4.2.2.2.2.2)
def gF {σ:Type} (cb:List Int->σ->Option (σ×Bool)):Nat->SIn σ->Option (I9 σ)
 |0,_=>none
 |d+1,x=>Iu cb (gF cb d) x
def AF {σ:Type} (cb:List Int->σ->Option (σ×Bool)):List (List Int)->σ->Option (σ×Bool)
 | [],s=>some (s,true)
 |t::l,s=>match cb t s with|some (s',true)=>AF cb l s'|some (s',false)=>some (s',false)|none=>none
theorem Do {σ:Type} {cb:List Int->σ->Option (σ×Bool)}: ∀(l l':List (List Int)) (s:σ),AF cb (l++l') s=match AF cb l s with|some (s',true)=>AF cb l' s'|some (s',false)=>some (s',false)|none=>none
 | [],l',s=>rfl
 |t::l,l',s=>by
  simp only[List.cons_append,AF]
  cases hc:cb t s with
  |none=>rfl
  |some q=>
   obtain⟨s',b⟩:=q
   cases b with
   |false=>rfl
   |true=>exact Do l l' s'
def C4 (given:List Int) (at' x:Nat):Bool:=!(decide (given.getD at' 0≥0)&&given.getD at' 0 !=(x:Int))
def Cq (n:Nat) (given:List Int) (ok:List Int->Bool):Nat->List Int->List (List Int)
 |0,pre=> [pre]
 |m+1,pre=>(List.range n).flatMap λx=>if C4 given pre.length x&&ok (pre++ [(x:Int)])then Cq n given ok m (pre++ [(x:Int)])else []
section
variable {n k:Nat} {rels:List AX} {given:List Int}
def okB (n k:Nat) (rels:List AX) (pre:List Int):Bool:=FH n k rels (pre.length-1) pre
theorem Lc (h:RelsOk n k rels) (hg:given.length=n^k) {σ:Type} (cb:List Int->σ->Option (σ×Bool)): ∀(m d at':Nat) (tab:List Int) (s:σ),at'+m=n^k->m<d->tab.length=n^k->(∀x∈tab,0<=x/\x<256)->
    ∀s' b,AF cb (Cq n given (okB n k rels) m (tab.take at')) s=some (s',b)->
    ∃tab':List Int,tab'.length=n^k/\(∀x∈tab',0<=x/\x<256)/\tab'.take at'=tab.take at'/\gF cb d ((at':Int),tab,s,(true,(n:Int),(k:Int),DP n k rels),given,())=some (tab',s',(true,(n:Int),(k:Int),DP n k rels),given,b):=by
  have hn:=h.hn
  have hp:=De (n:=n) (k:=k) hn.2 h.hk.2
  intro m
  induction m with
  |zero=>
    intro d a tab s ha hd ht hv s' b hf
    obtain⟨d,rfl⟩: ∃z,d=z+1:=⟨d-1,by omega⟩
    have e:tab.take a=tab:=List.take_of_length_le (by omega)
    rw[e]at hf
    simp only[Cq,AF]at hf
    refine⟨tab,ht,hv,rfl,?_⟩
    simp only[gF,Iu]
    rw[if_pos (by simp;omega)]
    cases hc:cb tab s with
    |none=>rw[hc]at hf;exact absurd hf (by simp)
    |some q=>
      obtain⟨s1,b1⟩:=q
      rw[hc]at hf
      have:s1=s'/\b1=b:=by cases b1<;>simpa using hf
      obtain⟨rfl,rfl⟩:=this
      rfl
  |succ m ih=>
    intro d a tab s ha hd ht hv s' b hf
    obtain⟨d,rfl⟩: ∃z,d=z+1:=⟨d-1,by omega⟩
    have hat:a<n^k:=by omega
    have key: ∀(c x f:Nat) (tab1:List Int) (s1:σ),x+c=n->c<f->tab1.length=n^k->(∀x∈tab1,0<=x/\x<256)->tab1.take a=tab.take a-> ∀s' b,
        AF cb ((List.range' x c).flatMap λx=>if C4 given (tab.take a).length x&&okB n k rels (tab.take a++ [(x:Int)])then Cq n given (okB n k rels) m (tab.take a++ [(x:Int)])else []) s1=some (s',b)->
        ∃tab':List Int,tab'.length=n^k/\(∀x∈tab',0<=x/\x<256)/\tab'.take a=tab.take a/\gL (gF cb d) f ((a:Int),tab1,s1,(true,(n:Int),(k:Int),DP n k rels),given,(),(x:Int))=some (if b then .inl (tab',s',(true,(n:Int),(k:Int),DP n k rels),given,())else .inr (tab',s',(true,(n:Int),(k:Int),DP n k rels),given,(),false)):=by
      intro c
      induction c with
      |zero=>
        intro x f tab1 s1 hx hf1 ht1 hv1 htk s' b hf2
        obtain⟨f,rfl⟩: ∃z,f=z+1:=⟨f-1,by omega⟩
        have:s1=s'/\true=b:=by simpa[AF]using hf2
        obtain⟨rfl,rfl⟩:=this
        refine⟨tab1,ht1,hv1,htk,?_⟩
        simp only[gL]
        rw[if_pos trivial,if_neg (by simp;omega)];rfl
      |succ c ihc=>
        intro x f tab1 s1 hx hf1 ht1 hv1 htk s' b hf2
        obtain⟨f,rfl⟩: ∃z,f=z+1:=⟨f-1,by omega⟩
        have hlen:(tab.take a).length=a:=by rw[List.length_take];omega
        have hag:a<given.length:=by omega
        have hat1:a<tab1.length:=by omega
        rw[List.range'_succ,List.flatMap_cons,Do,hlen]at hf2
        rw[hlen]at ihc
        have hset:(tab1.set a (x:Int)).take (a+1)=tab.take a++ [(x:Int)]:=by
          rw[List.take_succ_eq_append_getElem (by simp;omega),List.take_set_of_le (Nat.le_refl _),List.getElem_set_self,htk]
        have hsl:(tab1.set a (x:Int)).length=n^k:=by simp[ht1]
        have hsv: ∀y∈tab1.set a (x:Int),0<=y/\y<256:=λy hy=>by
          rcases List.mem_or_eq_of_mem_set hy with h1|h1
          · exact hv1 y h1
          · subst h1;omega
        have hst:(tab1.set a (x:Int)).take a=tab.take a:=by rw[List.take_set_of_le (Nat.le_refl _),htk]
        have hfit:=J3 h hsl hsv hat
        have hokB:okB n k rels (tab.take a++ [(x:Int)])=FH n k rels a (tab1.set a (x:Int)):=by
          unfold okB
          rw[List.length_append,hlen,List.length_singleton,Nat.add_sub_cancel,←hset,G5]
        have hw:w64 ((x:Int)+1)=((x+1:Nat):Int):=Ac (by omega)
        have hwa:w64 ((a:Int)+1)=((a+1:Nat):Int):=Ac (by omega)
        have step : C4 given a x = true → ∀ R, R = (AL (true, (n : Int), (k : Int), DP n k rels) (tab1.set a (x : Int)) (a : Int)).bind (fun r4 =>
                if r4 then
                  (gF cb d (w64 ((a:Int)+1),tab1.set a (x:Int),s1,(true,(n:Int),(k:Int),DP n k rels),given,())).bind λr5=>
                    if !r5.2.2.2.2 then
                      some (.inr (r5.1,r5.2.1,r5.2.2.1,r5.2.2.2.1,(),false))
                    else
                      gL (gF cb d) f ((a:Int),r5.1,r5.2.1,r5.2.2.1,r5.2.2.2.1,(),w64 ((x:Int)+1))
                else
                  gL (gF cb d) f ((a:Int),tab1.set a (x:Int),s1,(true,(n:Int),(k:Int),DP n k rels),given,(),w64 ((x:Int)+1)))->
            ∃tab':List Int,tab'.length=n^k/\(∀x∈tab',0<=x/\x<256)/\tab'.take a=tab.take a/\R=some (if b then .inl (tab',s',(true,(n:Int),(k:Int),DP n k rels),given,())else .inr (tab',s',(true,(n:Int),(k:Int),DP n k rels),given,(),false)):=by
          intro hm R hR
          rw[hfit]at hR
          simp only[Option.bind_some]at hR
          rw[hm,hokB]at hf2
          cases hfi:FH n k rels a (tab1.set a (x:Int))with
          |false=>
            rw[hfi]at hf2 hR
            simp only[Bool.and_false,Bool.false_eq_true,if_false,AF]at hf2 hR
            rw[hw]at hR
            rw[hR]
            exact ihc (x+1) f _ s1 (by omega) (by omega) hsl hsv hst s' b hf2
          |true=>
            rw[hfi]at hf2 hR
            simp only[Bool.and_true,if_true]at hf2 hR
            rw[hwa]at hR
            cases hq:AF cb (Cq n given (okB n k rels) m (tab.take a++ [(x:Int)])) s1 with
            |none=>rw[hq]at hf2;exact absurd hf2 (by simp)
            |some q=>
              obtain⟨s2,b2⟩:=q
              rw[hq]at hf2
              rw[←hset]at hq
              obtain⟨tab2,h1,h2,h3,h4⟩:=ih d (a+1) _ s1 (by omega) (by omega) hsl hsv s2 b2 hq
              have h3':tab2.take a=tab.take a:=by
                have:=congrArg (List.take a) h3
                rw[List.take_take,List.take_take,Nat.min_eq_left (by omega)]at this
                rw[this,hst]
              rw[h4]at hR
              simp only[Option.bind_some]at hR
              cases b2 with
              |false=>
                have:s2=s'/\false=b:=by simpa using hf2
                obtain⟨rfl,rfl⟩:=this
                refine⟨tab2,h1,h2,h3',?_⟩
                rw[hR];rfl
              |true=>
                simp only[Bool.not_true,Bool.false_eq_true,if_false,hw]at hR
                rw[hR]
                exact ihc (x+1) f tab2 s2 (by omega) (by omega) h1 h2 h3' s' b hf2
        simp only[gL,Dg,Ae,hag,hat1,if_true]
        rw[if_pos (by simp;omega)]
        by_cases hc1:gd given (a:Int) 0≥0
        · rw[if_pos (decide_eq_true hc1)]
          by_cases hc2:gd given (a:Int) 0=(x:Int)
          · rw[if_neg (by simpa using hc2)]
            exact step (by unfold C4;rw[show given.getD a 0=(x:Int) from hc2];simp) _ rfl
          · rw[if_pos (by simpa using hc2),hw]
            have hm:C4 given a x=false:=by
              unfold C4
              rw[decide_eq_true (show given.getD a 0≥0 from hc1)]
              simp only[Bool.true_and,Bool.not_eq_false',bne_iff_ne];exact hc2
            rw[hm]at hf2
            simp only[Bool.false_and,Bool.false_eq_true,if_false,AF]at hf2
            exact ihc (x+1) f tab1 s1 (by omega) (by omega) ht1 hv1 htk s' b hf2
        · rw[if_neg (by simpa using hc1)]
          exact step (by unfold C4;rw[decide_eq_false (show¬given.getD a 0≥0 from hc1)];rfl) _ rfl
    simp only[Cq]at hf
    rw[List.range_eq_range']at hf
    obtain⟨tab',h1,h2,h3,h4⟩:=key n 0 Aa tab s (by omega) (by unfold Aa;omega) ht hv rfl s' b hf
    refine⟨tab',h1,h2,h3,?_⟩
    simp only[gF,Iu]
    rw[if_neg (by simp;omega)]
    have h4:gL (gF cb d) Aa ((a:Int),tab,s,(true,(n:Int),(k:Int),DP n k rels),given,(),0)=_:=h4
    rw[h4]
    cases b<;>rfl
end
end T
open Go Go.Va
namespace T
section
variable {n k:Nat} {rels:List AX} {given:List Int}
theorem GG {m:Nat} {r:AX} (h:ROk n m r) {t:List Int} (ht:t.length=m):Dl r t=some (decide (t∈r.2)):=by
 have hm:=h.hm
 have har:=h.ar
 have hmany:=h.many
 unfold Dl
 obtain⟨q,h3,_⟩:=D6 (list:=r.2) (t:=t) (k:=m) (by omega) (by omega) h.tl ht h.inc
 rw[if_neg (by simp;omega),h3];rfl
theorem Jp (h:RelsOk n k rels) {tab:List Int} {at':Nat} (ht:tab.length=at'+1):Da ((DX n k rels).getD at' []) tab=some (okB n k rels tab):=by
 obtain⟨hlen,hroom⟩:=Hv h
 have hkey: ∀d∈(DX n k rels).getD at' [],∃r∈rels,∃j,j<r.2.length^k/\Bn (PL n k r j)=at'/\d=(cI (PL n k r j),r)/\(∀v∈d.1,0<=v/\v<tab.length)/\d.1.length<=3/\Dl d.2 (d.1.map (Bq tab))=some (decide (d.1.map (Bq tab)∈d.2.2)):=λd hd=>by
  obtain⟨r,hr,j,hj,hla,rfl⟩:=(Hw h at' d).1 hd
  have hrk:=h.ok r hr
  have hm:=hrk.hm
  have hpl: ∀v∈cI (PL n k r j),0<=v/\v<tab.length:=λv hv=>by
   unfold cI at hv
   obtain⟨y,hy,rfl⟩:=List.mem_map.1 hv
   have:=(ER (PL n k r j) 0).2 y hy
   unfold Bn at hla
   omega
  refine⟨r,hr,j,hj,hla,rfl,hpl,by rw[CS,hrk.pl_len];omega,GG hrk (by rw[List.length_map,CS,hrk.pl_len])⟩
 have e:okB n k rels tab=((DX n k rels).getD at' []).all λd=>decide (d.1.map (Bq tab)∈d.2.2):=by
  rw[Bool.eq_iff_iff,List.all_eq_true]
  unfold okB FH
  rw[show tab.length-1=at' by omega]
  simp only[List.all_eq_true,Bool.or_eq_true,Bool.not_eq_true',decide_eq_false_iff_not,decide_eq_true_eq,List.mem_range]
  constructor
  ·intro h1 d hd
   obtain⟨r,hr,j,hj,hla,e1,_⟩:=hkey d hd
   rw[e1]
   rcases h1 r hr j hj with h3|h3
   ·exact absurd hla h3
   ·exact h3
  ·intro h1 r hr j hj
   by_cases hla:Bn (PL n k r j)=at'
   ·right
    exact h1 _ ((Hw h at' (cI (PL n k r j),r)).2 ⟨r,hr,j,hj,hla,rfl⟩)
   ·exact .inl hla
 have hro:=hroom at'
 rw[e]
 generalize (DX n k rels).getD at' []=l at hkey hro
 unfold Da
 have:=FA l (λf i=>BW f (l,tab,i)) (λd=>decide (d.1.map (Bq tab)∈d.2.2)) (.inr false) (.inl ()) (λf i hi=>?_) (λf=>?_) (n:=Aa) (by unfold Aa;omega)
 ·have this:BW Aa (l,tab,0)=_:=this
  rw[this]
  cases l.all λd=>decide (d.1.map (Bq tab)∈d.2.2)<;>rfl
 ·obtain⟨r,hr,j,hj,hla,e1,h1,h2,h3⟩:=hkey _ (List.getElem_mem hi)
  have h6:=CD l[i].1.length (λf (o:List Int) q=>BX f (l,tab,(i:Int),o,q)) (λq=>(l[i].1.take q).map (Bq tab)) (r:=some (l,tab,(i:Int),l[i].1.map (Bq tab))) (λf q hq=>?_) (λf=>?_) (n:=Aa) (by unfold Aa;omega)
  ·have h6:BX Aa (l,tab,(i:Int),[],0)=_:=h6
   simp only[BW,h6,Option.bind_some,Ae,hi,Aj hi,h3,Ac (show i<4611686018427387904 by omega),if_true]
   rw[if_pos (by simp;omega)]
   by_cases hc:l[i].1.map (Bq tab)∈l[i].2.2
   ·rw[decide_eq_true hc];simp
   ·rw[decide_eq_false hc];simp
  ·obtain⟨hv0,hv1⟩:=h1 _ (List.getElem_mem hq)
   have hin:inb l[i].1[q] tab:=⟨hv0,hv1⟩
   have hval:gd tab l[i].1[q] 0=Bq tab l[i].1[q]:=rfl
   have htk:(l[i].1.take (q+1)).map (Bq tab)=(l[i].1.take q).map (Bq tab)++ [Bq tab l[i].1[q]]:=by
    rw[List.take_succ_eq_append_getElem hq,List.map_append];rfl
   simp only[BX,Ae,hi,Aj hi,hq,Aj hq,hin,hval,htk,if_true,Ac (show q<4611686018427387904 by omega)]
   rw[if_pos (by simp;omega),if_pos (by simp;unfold lim;omega)]
  ·simp only[BX,Ae,hi,Aj hi,List.take_length,if_true]
   rw[if_neg (by simp)]
 ·simp[BW]
abbrev SS:=List (List Int)×Int×Int
def DW (s:SS):Bool:=s.2.2==1&&decide (s.2.1>0)
def sCb (t:List Int) (s:SS):Option (SS×Bool):=
 let s':SS:=(if decide ((s.1.length:Int)<s.2.2)then s.1++ [t]else s.1,s.2.1+1,s.2.2)
 some (s',!DW s')
theorem G1: ∀(l:List (List Int)) (s s':SS) (b:Bool),AF sCb l s=some (s',b)->s.2.1<=s'.2.1/\s'.2.1<=s.2.1+l.length/\s'.1.length<=s.1.length+l.length/\s'.2.2=s.2.2/\(DW s=false->b=!DW s')
 | [],s,s',b,h=>by
  have:s=s'/\true=b:=by simpa[AF]using h
  obtain⟨rfl,rfl⟩:=this
  exact⟨by omega,by simp,by simp,rfl,λh=>by simp[h]⟩
 |t::l,s,s',b,h=>by
  simp only[AF,sCb]at h
  generalize hs1:((if decide ((s.1.length:Int)<s.2.2)then s.1++ [t]else s.1,s.2.1+1,s.2.2):SS)=s1 at h
  have h1:s1.2.1=s.2.1+1:=by rw[←hs1]
  have h2:s1.1.length<=s.1.length+1:=by
   rw[←hs1]
   show(if decide ((s.1.length:Int)<s.2.2)then s.1++ [t]else s.1).length<=_
   split<;>simp
  have h3:s1.2.2=s.2.2:=by rw[←hs1]
  cases hb:DW s1 with
  |true=>
   rw[hb]at h
   have:s1=s'/\false=b:=by simpa using h
   obtain⟨rfl,rfl⟩:=this
   rw[List.length_cons]
   exact⟨by omega,by omega,by omega,h3,λ_=>by rw[hb];rfl⟩
  |false=>
   rw[hb]at h
   obtain⟨g1,g2,g3,g4,g5⟩:=G1 l s1 s' b h
   rw[List.length_cons]
   exact⟨by omega,by push_cast;omega,by omega,by omega,λ_=>g5 hb⟩
theorem FC: ∀(l:List (List Int)) (s:SS),∃q,AF sCb l s=some q
 | [],s=>⟨_,rfl⟩
 |t::l,s=>by
  simp only[AF,sCb]
  generalize ((if decide ((s.1.length:Int)<s.2.2)then s.1++ [t]else s.1,s.2.1+1,s.2.2):SS)=s1
  cases hb:DW s1 with
  |true=>exact⟨_,rfl⟩
  |false=>exact FC l s1
theorem Ld (h:RelsOk n k rels) (hg:given.length=n^k): ∀(m d:Nat) (pre:List Int) (s:SS),pre.length+m=n^k->m<d->DW s=false->0<=s.2.1->s.2.2<=1000000->s.2.1+(Cq n given (okB n k rels) m pre).length<=4611686018427387904->
    ∀s' b,AF sCb (Cq n given (okB n k rels) m pre) s=some (s',b)->BC d ((n:Int),DX n k rels,given,pre,s)=some s':=by
  have hn:=h.hn
  have hp:=De (n:=n) (k:=k) hn.2 h.hk.2
  obtain⟨hlenN,_⟩:=Hv h
  intro m
  induction m with
  |zero=>
    intro d pre s hpre hd hst h0 hr1 hr2 s' b hf
    obtain⟨d,rfl⟩: ∃z,d=z+1:=⟨d-1,by omega⟩
    simp only[Cq,AF,sCb]at hf
    simp only[BC,DQ]
    simp only[Cq,List.length_singleton]at hr2
    have hs':s'=(if decide ((s.1.length:Int)<s.2.2)then s.1++ [pre]else s.1,s.2.1+1,s.2.2):=by
      cases hb:DW ((if decide ((s.1.length:Int)<s.2.2)then s.1++ [pre]else s.1,s.2.1+1,s.2.2):SS)<;>rw[hb]at hf<;>simp at hf<;>rw[←hf.1]<;>simp
    have hw:w64 (s.2.1+1)=s.2.1+1:=AE (by omega) (by omega)
    rw[if_pos (by simp;omega),hs',hw,BU (by omega)]
    by_cases hc:(s.1.length:Int)<s.2.2
    · rw[if_pos (decide_eq_true hc),if_pos (decide_eq_true hc)]
      simp only[Option.bind_some]
      rw[if_pos (by rw[List.length_singleton];unfold lim;omega)]
    · rw[if_neg (by simpa using hc),if_neg (by simpa using hc)]
  |succ m ih=>
    intro d pre s hpre hd hst h0 hr1 hr2 s' b hf
    obtain⟨d,rfl⟩: ∃z,d=z+1:=⟨d-1,by omega⟩
    have hat:pre.length<n^k:=by omega
    have key: ∀(c x f:Nat) (s1:SS),x+c=n->c<f->DW s1=false->0<=s1.2.1->
        s1.2.2<=1000000->
        s1.2.1+((List.range' x c).flatMap λx=>if C4 given pre.length x&&okB n k rels (pre++ [(x:Int)])then Cq n given (okB n k rels) m (pre++ [(x:Int)])else []).length<=4611686018427387904-> ∀s' b,
        AF sCb ((List.range' x c).flatMap λx=>if C4 given pre.length x&&okB n k rels (pre++ [(x:Int)])then Cq n given (okB n k rels) m (pre++ [(x:Int)])else []) s1=some (s',b)->
        Au (BC d) f ((n:Int),DX n k rels,given,pre,s1,([],(0,0)),(pre.length:Int),(x:Int))=some (if b then .inl (s',([],(0,0)))else .inr s'):=by
      intro c
      induction c with
      |zero=>
        intro x f s1 hx hf1 hst1 h01 hr1 hr2 s' b hf2
        obtain⟨f,rfl⟩: ∃z,f=z+1:=⟨f-1,by omega⟩
        have:s1=s'/\true=b:=by simpa[AF]using hf2
        obtain⟨rfl,rfl⟩:=this
        simp only[Au]
        rw[if_neg (by simp;omega)];rfl
      |succ c ihc=>
        intro x f s1 hx hf1 hst1 h01 hr1 hr2 s' b hf2
        obtain⟨f,rfl⟩: ∃z,f=z+1:=⟨f-1,by omega⟩
        have hag:pre.length<given.length:=by omega
        have haN:pre.length<(DX n k rels).length:=by omega
        rw[List.range'_succ,List.flatMap_cons,Do]at hf2
        rw[List.range'_succ,List.flatMap_cons,List.length_append]at hr2
        have hol:=Jp h (tab:=pre++ [(x:Int)]) (at':=pre.length) (by simp)
        have hw:w64 ((x:Int)+1)=((x+1:Nat):Int):=Ac (by omega)
        have step : C4 given pre.length x = true → ∀ R, R = (Da (gd (DX n k rels) (pre.length : Int) []) (pre ++ [(x : Int)])).bind (fun r6 =>
                  if r6 then
                    (BC d ((n:Int),DX n k rels,given,pre++ [(x:Int)],(s1.1,(s1.2.1,s1.2.2)))).bind λr7=>
                      if r7.2.2==1 then
                        if decide (r7.2.1>0)then
                          some (.inr (r7.1,(r7.2.1,r7.2.2)))
                        else
                          Au (BC d) f ((n:Int),DX n k rels,given,pre,(r7.1,(r7.2.1,r7.2.2)),([],(0,0)),(pre.length:Int),w64 ((x:Int)+1))
                      else
                        Au (BC d) f ((n:Int),DX n k rels,given,pre,(r7.1,(r7.2.1,r7.2.2)),([],(0,0)),(pre.length:Int),w64 ((x:Int)+1))
                  else
                    if s1.2.2==1 then
                      if decide (s1.2.1>0)then
                        some (.inr (s1.1,(s1.2.1,s1.2.2)))
                      else
                        Au (BC d) f ((n:Int),DX n k rels,given,pre,(s1.1,(s1.2.1,s1.2.2)),([],(0,0)),(pre.length:Int),w64 ((x:Int)+1))
                    else
                      Au (BC d) f ((n:Int),DX n k rels,given,pre,(s1.1,(s1.2.1,s1.2.2)),([],(0,0)),(pre.length:Int),w64 ((x:Int)+1)))->
            R=some (if b then .inl (s',([],(0,0)))else .inr s'):=by
          intro hm R hR
          have hgd:gd (DX n k rels) (pre.length:Int) []=(DX n k rels).getD pre.length []:=rfl
          rw[hgd,hol]at hR
          simp only[Option.bind_some,hw]at hR
          rw[hm]at hf2 hr2
          have hnst: ∀(z:SS) {γ:Type} (A B:γ),DW z=false->(if z.2.2==1 then if decide (z.2.1>0)then A else B else B)=B:=λz γ A B hz=>by
            unfold DW at hz
            by_cases h1:z.2.2=1
            · rw[if_pos (by simpa using h1),if_neg (by simp[h1]at hz;simpa using hz)]
            · rw[if_neg (by simpa using h1)]
          have hyst: ∀(z:SS) {γ:Type} (A B:γ),DW z=true->(if z.2.2==1 then if decide (z.2.1>0)then A else B else B)=A:=λz γ A B hz=>by
            unfold DW at hz
            simp only[Bool.and_eq_true]at hz
            rw[if_pos hz.1,if_pos hz.2]
          cases hfi:okB n k rels (pre++ [(x:Int)])with
          |false=>
            rw[hfi]at hf2 hr2 hR
            simp only[Bool.and_false,Bool.false_eq_true,if_false,AF,List.length_nil,Nat.zero_add]at hf2 hr2 hR
            rw[hnst s1 _ _ hst1]at hR
            rw[hR]
            exact ihc (x+1) f s1 (by omega) (by omega) hst1 h01 hr1 hr2 s' b hf2
          |true=>
            rw[hfi]at hf2 hr2 hR
            simp only[Bool.and_true,if_true]at hf2 hr2 hR
            obtain⟨⟨s2,b2⟩,hq⟩:=FC (Cq n given (okB n k rels) m (pre++ [(x:Int)])) s1
            obtain⟨g1,g2,g3,g4,g5⟩:=G1 _ _ _ _ hq
            have g5:=g5 hst1
            rw[hq]at hf2
            have hrec:=ih d (pre++ [(x:Int)]) s1 (by simp;omega) (by omega) hst1 h01 (by omega) (by push_cast at hr2;omega) s2 b2 hq
            have hrec:BC d ((n:Int),DX n k rels,given,pre++ [(x:Int)],(s1.1,(s1.2.1,s1.2.2)))=some s2:=hrec
            rw[hrec]at hR
            simp only[Option.bind_some]at hR
            cases hb2:DW s2 with
            |true=>
              rw[hb2]at g5
              subst g5
              have:s2=s'/\false=b:=by simpa using hf2
              obtain⟨rfl,rfl⟩:=this
              rw[hyst s2 _ _ hb2]at hR
              rw[hR];rfl
            |false=>
              rw[hb2]at g5
              subst g5
              rw[hnst s2 _ _ hb2]at hR
              rw[hR]
              exact ihc (x+1) f s2 (by omega) (by omega) hb2 (by omega) (by push_cast at hr2;omega) (by push_cast at hr2;omega) s' b hf2
        simp only[Au,Ae,hag,haN,if_true,BU (show pre.length<=1099511627775 by omega),Option.bind_some]
        rw[if_pos (by simp;omega)]
        have hlim:pre.length+ [(x:Int)].length<=lim:=by rw[List.length_singleton];unfold lim;omega
        rw[if_pos hlim]
        by_cases hc1:gd given (pre.length:Int) 0≥0
        · rw[if_pos (decide_eq_true hc1)]
          by_cases hc2:gd given (pre.length:Int) 0=(x:Int)
          · rw[if_neg (by simpa using hc2)]
            exact step (by unfold C4;rw[show given.getD pre.length 0=(x:Int) from hc2];simp) _ rfl
          · rw[if_pos (by simpa using hc2),hw]
            have hm:C4 given pre.length x=false:=by
              unfold C4
              rw[decide_eq_true (show given.getD pre.length 0≥0 from hc1)]
              simp only[Bool.true_and,Bool.not_eq_false',bne_iff_ne];exact hc2
            rw[hm]at hf2 hr2
            simp only[Bool.false_and,Bool.false_eq_true,if_false,AF,List.length_nil,Nat.zero_add]at hf2 hr2
            exact ihc (x+1) f s1 (by omega) (by omega) hst1 h01 hr1 hr2 s' b hf2
        · rw[if_neg (by simpa using hc1)]
          exact step (by unfold C4;rw[decide_eq_false (show¬given.getD pre.length 0≥0 from hc1)];rfl) _ rfl
    simp only[Cq]at hf hr2
    rw[List.range_eq_range']at hf hr2
    have h4:=key n 0 Aa s (by omega) (by unfold Aa;omega) hst h0 hr1 hr2 s' b hf
    simp only[BC,DQ]
    rw[if_neg (by simp;omega)]
    have h4:Au (BC d) Aa ((n:Int),DX n k rels,given,pre,(s.1,(s.2.1,s.2.2)),([],(0,0)),(pre.length:Int),0)=_:=h4
    rw[h4]
    cases b<;>rfl
end
end T
open Go Go.Va
namespace T
theorem HB (rec): ∀f x,Ah rec f x=gL rec f x
 |0,_=>rfl
 |f+1,(a,b,c,d,e,g,x)=>by simp only[Ah,gL,HB rec f]
def Ib (t:List Int) (s:List Opn×Int):Option ((List Opn×Int)×Bool):=(CN t s.1 s.2).bind λr=>some ((r.1,r.2.1),r.2.2)
theorem Jk: ∀d x,Ar d x=gF Ib d x
 |0,_=>rfl
 |d+1,(a,t,(s1,s2),ps,g,u)=>by
  have e:Ar d=gF Ib d:=funext λx=>Jk d x
  simp only[Ar,gF,Iu,Bm,HB,e]
  split
  ·unfold Ib;cases CN t s1 s2<;>rfl
  ·congr 1;funext z;cases z<;>rfl
section
variable {n k:Nat} {rels:List AX} {given:List Int}
theorem Hg {ok:List Int->Bool}: ∀(m:Nat) (pre:List Int),(Cq n given ok m pre).length<=n^m
 |0,pre=>by simp[Cq]
 |m+1,pre=>by
  simp only[Cq]
  have key: ∀(l:List Nat),(l.flatMap λx=>if C4 given pre.length x&&ok (pre++ [(x:Int)])then Cq n given ok m (pre++ [(x:Int)])else []).length<=l.length*n^m:=by
   intro l
   induction l with
   |nil=>simp
   |cons x l ih=>
    rw[List.flatMap_cons,List.length_append,List.length_cons,Nat.succ_mul]
    have:(if C4 given pre.length x&&ok (pre++ [(x:Int)])then Cq n given ok m (pre++ [(x:Int)])else []).length<=n^m:=by
     split
     ·exact Hg m _
     ·simp
    omega
  have:=key (List.range n)
  rw[List.length_range]at this
  rw[Nat.pow_succ,Nat.mul_comm]
  exact this
theorem F8 {ok:List Int->Bool}: ∀(m:Nat) (pre t:List Int),t∈Cq n given ok m pre->t.length=pre.length+m/\((∀x∈pre,0<=x/\x<(n:Int))-> ∀x∈t,0<=x/\x<(n:Int))
 |0,pre,t,h=>by simp only[Cq,List.mem_singleton]at h;subst h;exact⟨rfl,λh=>h⟩
 |m+1,pre,t,h=>by
  simp only[Cq,List.mem_flatMap]at h
  obtain⟨x,hx,h⟩:=h
  have hx:=List.mem_range.1 hx
  split at h
  ·obtain⟨h1,h2⟩:=F8 m _ t h
   refine⟨by rw[h1];simp;omega,λhp=>h2 λy hy=>?_⟩
   rcases List.mem_append.1 hy with h3|h3
   ·exact hp y h3
   ·rw[List.mem_singleton.1 h3];omega
  ·simp at h
def Yik (n k:Nat) (rels:List AX) (given:List Int):List (List Int):=Cq n given (okB n k rels) (n^k) []
theorem Gb {t:List Int} (h:t∈Yik n k rels given):t.length=n^k/\ ∀x∈t,0<=x/\x<(n:Int):=by
 obtain⟨h1,h2⟩:=F8 _ _ _ h
 exact⟨by rw[h1];simp,h2 λx hx=>by simp at hx⟩
theorem Jb:(Yik n k rels given).length<=n^n^k:=Hg _ _
theorem Gg {most:Int} (h1:most≠1): ∀(l:List (List Int)) (f:List (List Int)) (c:Int),AF sCb l (f,c,most)=some ((f++l.take (most-f.length).toNat,c+l.length,most),true)
 | [],f,c=>by simp[AF]
 |t::l,f,c=>by
  have hns: ∀(f':List (List Int)) (c':Int),DW (f',c',most)=false:=λf' c'=>by unfold DW;simp[h1]
  simp only[AF,sCb,hns,Bool.not_false]
  rw[Gg h1 l]
  by_cases hc:(f.length:Int)<most
  ·rw[if_pos (by simpa using hc)]
   have e1:(most-(f.length:Int)).toNat=(most-((f++ [t]).length:Int)).toNat+1:=by rw[List.length_append,List.length_singleton];omega
   rw[e1,List.take_succ_cons]
   simp;omega
  ·rw[if_neg (by simpa using hc)]
   have e1:(most-(f.length:Int)).toNat=0:=by omega
   rw[e1];simp;omega
theorem GH (h:RelsOk n k rels) (hg:given.length=n^k) (hz:n^n^k<=4611686018427387904) {most:Int} (hm:most<=1000000):
  ∃s b,AF sCb (Yik n k rels given) ([],0,most)=some (s,b)/\DM (n:Int) rels (k:Int) given most=some s:=by
 obtain⟨⟨s,b⟩,hf⟩:=FC (Yik n k rels given) ([],0,most)
 refine⟨s,b,hf,?_⟩
 have:=Ld h hg (n^k) Aa [] ([],0,most) (by simp) (by have:=De (n:=n) (k:=k) h.hn.2 h.hk.2;unfold Aa;omega) (by unfold DW;simp) (by simp) hm (by have:=Jb (n:=n) (k:=k) (rels:=rels) (given:=given);unfold Yik at this;simp;omega) s b hf
 unfold DM
 rw[FO h]
 simp only[Option.bind_some,this]
theorem J0 (h:RelsOk n k rels) (hg:given.length=n^k) {σ:Type} (cb:List Int->σ->Option (σ×Bool)) {s s':σ} {b:Bool} (hf:AF cb (Yik n k rels given) s=some (s',b)):
  ∃r:I9 σ,gF cb Aa (0,List.replicate (Int.toNat (given.length:Int)) (0:Int),s,(true,(n:Int),(k:Int),DP n k rels),given,())=some r/\r.2.1=s':=by
 have hp:=De (n:=n) (k:=k) h.hn.2 h.hk.2
 obtain⟨tab',h1,h2,h3,h4⟩:=Lc h hg cb (n^k) Aa 0 (List.replicate (Int.toNat (given.length:Int)) (0:Int)) s (by omega) (by unfold Aa;omega) (by rw[List.length_replicate,hg,Int.toNat_natCast]) (λx hx=>by rw[(List.mem_replicate.1 hx).2];omega) s' b hf
 exact⟨_,h4,rfl⟩
theorem Jm {k:Int}: ∀(l:List (List Int)) (f:List Opn),(∀t∈l,t.length<=1000)->f.length<=300-> ∃s b,AF Ib l (f,k)=some (s,b)/\(f.length+l.length<=300->s=(f++l.map λt=>(k,t),k))/\(300<f.length+l.length->300<s.1.length)
 | [],f,_,hf=>⟨(f,k),true,rfl,λ_=>by simp,λh=>by simp at h;omega⟩
 |t::l,f,ht,hf=>by
  have hcl:B3 t=some t:=by
   unfold B3
   have:=ht t (by simp)
   rw[if_pos (by simp;unfold lim;omega)];simp
  have hcb:Ib t (f,k)=some ((f++ [(k,t)],k),decide (((f++ [(k,t)]).length:Int)<=300)):=by
   unfold Ib CN
   simp only[hcl,Option.bind_some]
   rw[if_pos (by rw[List.length_singleton];unfold lim;omega)];rfl
  simp only[AF,hcb]
  by_cases hc:f.length+1<=300
  ·rw[decide_eq_true (by simp;omega)]
   obtain⟨s,b,h1,h2,h3⟩:=Jm l (f++ [(k,t)]) (λt ht'=>ht t (List.mem_cons_of_mem _ ht')) (by simp;omega)
   refine⟨s,b,h1,λh=>?_,λh=>h3 (by simp at h⊢;omega)⟩
   rw[h2 (by simp at h⊢;omega)];simp
  ·rw[decide_eq_false (by simp;omega)]
   refine⟨_,_,rfl,λh=>?_,λh=>?_⟩
   ·simp at h;omega
   ·show 300<(f++ [(k,t)]).length
    simp;omega
def Fa (k:Nat) (l:List (List Int)):List Opn×Bool:=if l.length<=300 then(l.map λt=>((k:Int),t),true)else([],false)
theorem Fo (h:RelsOk n k rels) (hg:given.length=n^k):Ds (n:Int) rels (k:Int) given=some (Fa k (Yik n k rels given)):=by
 have hp:=De (n:=n) (k:=k) h.hn.2 h.hk.2
 obtain⟨s,b,h1,h2,h3⟩:=Jm (k:=(k:Int)) (Yik n k rels given) [] (λt ht=>by rw[(Gb ht).1];omega) (by simp)
 obtain⟨r,h4,h5⟩:=J0 h hg Ib h1
 unfold Ds BG
 rw[EJ h]
 simp only[Option.bind_some,Jk,h4]
 rw[if_pos (by unfold lim;omega)]
 simp only[Option.bind_some,h5]
 unfold Fa
 by_cases hc:(Yik n k rels given).length<=300
 ·have:=h2 (by simpa using hc)
  rw[this,if_pos hc,if_neg (by simp;omega)];simp
 ·have:=h3 (by simp;omega)
  rw[if_pos (by simp;omega),if_neg hc]
theorem GF {l:List (List Int)} (hl:l.length<=1000) (ht: ∀t∈l,t.length<=1000):Ed (k:Int) l=some (l.map λt=>((k:Int),t)):=by
 unfold Ed
 have:=CD l.length (λf o i=>Cv f ((k:Int),l,o,i)) (λq=>(l.take q).map λt=>((k:Int),t)) (r:=some (l.map λt=>((k:Int),t))) (λf q hq=>?_) (λf=>?_) (n:=Aa) (by unfold Aa;omega)
 ·have this:Cv Aa ((k:Int),l,[],0)=_:=this
  rw[this];rfl
 ·have:=ht _ (List.getElem_mem hq)
  have e:(l.take (q+1)).map (λt=>((k:Int),t))=(l.take q).map (λt=>((k:Int),t))++ [((k:Int),l[q])]:=by rw[List.take_succ_eq_append_getElem hq,List.map_append];rfl
  simp only[Cv,Ae,hq,Aj hq,BU (show l[q].length<=1099511627775 by omega),Option.bind_some,e,if_true,Ac (show q<4611686018427387904 by omega)]
  rw[if_pos (by simp;omega),if_pos (by simp;unfold lim;omega)]
 ·simp only[Cv,List.take_length]
  rw[if_neg (by simp)]
theorem Ho (h:RelsOk n k rels) (hg:given.length=n^k) (hz:n^n^k<=4611686018427387904): ∃s:SS,DM (n:Int) rels (k:Int) given 300=some s/\s.2.1=((Yik n k rels given).length:Int)/\((Yik n k rels given).length<=300->s.1=Yik n k rels given):=by
 obtain⟨s,b,h1,h2⟩:=GH h hg hz (most:=300) (by omega)
 rw[Gg (by omega)]at h1
 have:=(Option.some.inj h1).symm
 simp only[Prod.mk.injEq]at this
 obtain⟨rfl,rfl⟩:=this
 exact⟨_,h2,by simp,λh=>by
  show []++(Yik n k rels given).take _=_
  rw[List.nil_append,List.take_of_length_le (by simp;omega)]⟩
end
end T
open Go Go.Va
namespace T
def GC (a:List AX):Prop:=a.length<=1048576/\ ∀r∈a,IC r.2
def KQ (l:List Opn):Prop:=l.length<=1000/\ ∀f∈l,f.2.length<=1000
def E3 (n:Int) (rels:List AX):Bool:=decide (1<=n/\n<=4)&&decide (rels.length<=4)&&rels.all (Ex n)
def HC (k:Int) (rels:List AX):Bool:=rels.all λr=>!(k==3&&decide ((r.2.length:Int)>12))
theorem D1 {n k:Int} {rels:List AX} (h:GC rels):EM n rels k=some (E3 n rels&&HC k rels):=by
 have hl:=h.1
 unfold EM Co ED E3
 by_cases h1:1<=n/\n<=4
 ·rw[if_pos (by simp;omega)]
  simp only[Option.bind_some]
  rw[if_neg (by simp;omega)]
  by_cases h2:rels.length<=4
  ·rw[if_neg (by simp;omega)]
   have e1:=FA rels (λf i=>B4 f (n,rels,(rels.length:Int),i)) (Ex n) (.inr false) (.inl ()) (λf i hi=>by
    have:=h.2 _ (List.getElem_mem hi)
    simp only[B4,Ae,hi,Aj hi,D4 (r:=(rels[i].1,rels[i].2)) this,Option.bind_some,Ac (show i<4611686018427387904 by omega)]
    rw[if_pos (by simp;omega)]
    cases Ex n rels[i]<;>simp) (λf=>by simp[B4]) (n:=Aa) (by unfold Aa;omega)
   have e2:=FA rels (λf i=>Cr f (k,rels,(rels.length:Int),i)) (λr=>!(k==3&&decide ((r.2.length:Int)>12))) (.inr false) (.inl ()) (λf i hi=>by
    simp only[Cr,Ae,hi,Aj hi,Ac (show i<4611686018427387904 by omega)]
    rw[if_pos (by simp;omega)]
    by_cases c1:k=3
    ·by_cases c2:(rels[i].2.length:Int)>12
     ·simp[c1,c2]
     ·simp[c1,c2]
    ·simp[c1]) (λf=>by simp[Cr]) (n:=Aa) (by unfold Aa;omega)
   rw[e1]
   unfold HC
   cases hr:rels.all (Ex n)with
   |false=>simp
   |true=>
    simp only[Option.bind_some,if_true,Bool.not_true,Bool.false_eq_true,if_false]
    rw[e2]
    cases rels.all λr=>!(k==3&&decide ((r.2.length:Int)>12))<;>simp[h1,h2]
  ·rw[if_pos (by simp;omega)]
   simp[h2]
 ·by_cases h2:n≥1
  ·rw[if_pos (by simpa using h2)]
   have: ¬n<=4:=by omega
   simp[this]
  ·rw[if_neg (by simpa using h2)]
   have: ¬1<=n:=by omega
   simp[this]
theorem FQ {n k:Int} {rels:List AX} (h:GC rels):Em n rels k=some (E3 n rels&&decide (1<=k/\k<=3)&&HC k rels):=by
 have hl:=h.1
 unfold Em Ft Fs E3
 rw[BE,BE]
 by_cases h1:1<=n/\n<=4
 ·simp only[Option.bind_some]
  rw[if_neg (by simp;omega)]
  by_cases h2:rels.length<=4
  ·rw[if_neg (by simp;omega)]
   have e1:=FA rels (λf i=>CG f (n,rels,i)) (Ex n) (.inr false) (.inl ()) (λf i hi=>by
    have:=h.2 _ (List.getElem_mem hi)
    simp only[CG,Ae,hi,Aj hi,EG (n:=n) this (by omega),Option.bind_some,Ac (show i<4611686018427387904 by omega)]
    rw[if_pos (by simp;omega)]
    cases Ex n rels[i]<;>simp) (λf=>by simp[CG]) (n:=Aa) (by unfold Aa;omega)
   have e2:=FA rels (λf i=>B0 f (rels,k,i)) (λr=>!(k==3&&decide ((r.2.length:Int)>12))) (.inr false) (.inl ()) (λf i hi=>by
    simp only[B0,Ae,hi,Aj hi,Ac (show i<4611686018427387904 by omega)]
    rw[if_pos (by simp;omega)]
    by_cases c1:k=3
    ·by_cases c2:(rels[i].2.length:Int)>12
     ·simp[c1,c2]
     ·simp[c1,c2]
    ·simp[c1]) (λf=>by simp[B0]) (n:=Aa) (by unfold Aa;omega)
   rw[e1]
   unfold HC
   cases hr:rels.all (Ex n)with
   |false=>simp
   |true=>
    simp only[Option.bind_some,if_true,Bool.not_true,Bool.false_eq_true,if_false]
    rw[e2]
    by_cases hk:1<=k/\k<=3
    ·rw[if_neg (by simp;omega)]
     cases rels.all λr=>!(k==3&&decide ((r.2.length:Int)>12))<;>simp[h1,h2,hk]
    ·rw[if_pos (by simp;omega)];simp[hk]
  ·rw[if_pos (by simp;omega)]
   simp[h2]
 ·simp[h1]
theorem Fw {n:Int} {rels:List AX} (h:E3 n rels=true):(1<=n/\n<=4)/\rels.length<=4/\ ∀r∈rels,ROk n.toNat r.1.toNat r:=by
 unfold E3 at h
 simp only[Bool.and_eq_true,decide_eq_true_eq,List.all_eq_true]at h
 obtain⟨⟨h1,h2⟩,h3⟩:=h
 refine⟨h1,h2,λr hr=>KW (by omega) ?_⟩
 rw[Int.toNat_of_nonneg (by omega)];exact h3 r hr
theorem Kl {n:Int} {rels:List AX} {k:Nat} (h:E3 n rels=true) (hk:1<=k/\k<=3):RelsOk n.toNat k rels:=by
 obtain⟨h1,h2,h3⟩:=Fw h
 exact⟨by omega,hk,by omega,h3⟩
def EE (n:Int) (rels:List AX) (k:Int):Bool:=E3 n rels&&HC k rels&&(decide (1<=k/\k<=3)&&decide (n.toNat^k.toNat<=9))
theorem FP {n k:Int} {rels:List AX} (h:GC rels):El n rels k=some (EE n rels k):=by
 unfold El EE
 rw[FQ h]
 simp only[Option.bind_some]
 cases ht:E3 n rels with
 |false=>simp
 |true=>
  obtain⟨h1,_⟩:=Fw ht
  by_cases hk:1<=k/\k<=3
  ·have e:=DC (b:=n.toNat) (k:=k.toNat) (by omega) (by omega)
   rw[Int.toNat_of_nonneg (by omega),Int.toNat_of_nonneg (by omega)]at e
   have h9:(((n.toNat^k.toNat:Nat):Int)<=9)↔n.toNat^k.toNat<=9:=by omega
   rw[decide_eq_true hk,Bool.true_and,Bool.true_and,Bool.true_and]
   cases HC k rels with
   |false=>simp
   |true=>
    rw[if_pos rfl,e]
    simp only[Option.bind_some,decide_eq_decide.2 h9,Bool.true_and]
  ·simp[hk]
theorem DE {n k:Int} (h1:1<=n/\n<=4):DB n k=some (decide (1<=k/\k<=3)&&decide (n.toNat^k.toNat<=9)):=by
 unfold DB
 by_cases hk:1<=k/\k<=3
 ·have e:=Du (b:=n.toNat) (k:=k.toNat) (by omega) (by omega)
  rw[Int.toNat_of_nonneg (by omega),Int.toNat_of_nonneg (by omega)]at e
  have h9:(((n.toNat^k.toNat:Nat):Int)<=9)↔n.toNat^k.toNat<=9:=by omega
  rw[decide_eq_true hk,Bool.true_and,if_pos (by simp;omega),if_pos (by simp;omega),e]
  simp only[Option.bind_some,decide_eq_decide.2 h9]
 ·by_cases h2:k≥1
  ·rw[if_pos (by simpa using h2),if_neg (by simp;omega)];simp[hk]
  ·rw[if_neg (by simpa using h2)];simp[hk]
theorem Gh {N:Nat} (h:N<=1000):Dp (N:Int)=some (List.replicate N (-1)):=by
 unfold Dp
 rw[Int.toNat_natCast,if_pos (by unfold lim;omega)]
 have:=CD N (λf o i=>BL f (o,((List.replicate N (0:Int)).length:Int),i)) (λj=>List.replicate j (-1)++List.replicate (N-j) (0:Int)) (r:=some (List.replicate N (-1))) (λf j hj=>?_) (λf=>?_) (n:=Aa) (by unfold Aa;omega)
 ·have this:BL Aa (List.replicate N (0:Int),((List.replicate N (0:Int)).length:Int),0)=_:=this
  rw[this];rfl
 ·have hin:j<(List.replicate j (-1)++List.replicate (N-j) (0:Int)).length:=by simp;omega
  have e:(List.replicate j (-1)++List.replicate (N-j) (0:Int)).set j (-1)=List.replicate (j+1) (-1)++List.replicate (N-(j+1)) (0:Int):=by
   rw[show N-j=(N-(j+1))+1 by omega,List.replicate_succ,List.set_append_right _ _ (by simp),List.replicate_succ']
   simp
  simp only[BL,Ae,hin,Dg,e,if_true,Ac (show j<4611686018427387904 by omega)]
  rw[if_pos (by simp;omega)]
 ·simp only[BL]
  rw[if_neg (by simp)];simp
theorem HE {N:Nat} (h:N<=1000):DZ (N:Int)=some (List.replicate N (-1)):=by
 unfold DZ
 have:=CD N (λf o i=>Ca f ((N:Int),o,i)) (λj=>List.replicate j (-1)) (r:=some (List.replicate N (-1))) (λf j hj=>?_) (λf=>?_) (n:=Aa) (by unfold Aa;omega)
 ·have this:Ca Aa ((N:Int),[],0)=_:=this
  rw[this];rfl
 ·simp only[Ca,List.replicate_succ',Ac (show j<4611686018427387904 by omega)]
  rw[if_pos (by simp;omega),if_pos (by simp;unfold lim;omega)]
 ·simp only[Ca]
  rw[if_neg (by simp)]
theorem K4 {n k:Nat} (hn:1<=n/\n<=4) (hz:n^k<=9):n^n^k<=4611686018427387904:=by
 have h1:n^n^k<=4^n^k:=Nat.pow_le_pow_left hn.2 _
 have h2:4^n^k<=4^9:=Nat.pow_le_pow_right (by omega) hz
 have:(4:Nat)^9=262144:=by decide
 omega
end T
open Go Go.Va
namespace T
section
variable {n k:Int} {rels:List AX}
theorem Jw {n k:Nat} {l:List (List Int)} (h: ∀t∈l,t.length<=1000):KQ (Fa k l).1:=by
 unfold Fa
 split
 ·refine⟨by simp;omega,λf hf=>?_⟩
  obtain⟨t,ht,rfl⟩:=List.mem_map.1 hf
  exact h t ht
 ·exact⟨by simp,λf hf=>by simp at hf⟩
theorem G4 {n k:Nat} {rels:List AX} {given:List Int} (h:RelsOk n k rels) (hg:given.length=n^k) (h9:n^k<=9):
  Ds (n:Int) rels (k:Int) given=some (Fa k (Yik n k rels given))/\
  ((DM (n:Int) rels (k:Int) given 300).bind λr4=>if decide (r4.2.1>300)then some ([],false)else(Ed (k:Int) r4.1).bind λr5=>some (r5,true))=some (Fa k (Yik n k rels given))/\KQ (Fa k (Yik n k rels given)).1:=by
 have hlen: ∀t∈Yik n k rels given,t.length<=1000:=λt ht=>by rw[(Gb ht).1];omega
 obtain⟨s,h1,h2,h3⟩:=Ho h hg (K4 h.hn h9)
 refine⟨Fo h hg,?_,Jw (n:=n) hlen⟩
 rw[h1]
 simp only[Option.bind_some,h2]
 unfold Fa
 by_cases hc:(Yik n k rels given).length<=300
 ·rw[if_neg (by simp;omega),if_pos hc,h3 hc,GF (by omega) hlen];rfl
 ·rw[if_pos (by simp;omega),if_neg hc]
theorem IA {n k:Int} (hn:1<=n/\n<=4) (hk:1<=k/\k<=3):B5 n k=some ((n.toNat^k.toNat:Nat):Int)/\BD n k=some ((n.toNat^k.toNat:Nat):Int):=by
 have e1:=Du (b:=n.toNat) (k:=k.toNat) (by omega) (by omega)
 have e2:=DC (b:=n.toNat) (k:=k.toNat) (by omega) (by omega)
 rw[Int.toNat_of_nonneg (by omega),Int.toNat_of_nonneg (by omega)]at e1 e2
 exact⟨e1,e2⟩
theorem Gy (h:EE n rels k=true):(1<=n/\n<=4)/\(1<=k/\k<=3)/\n.toNat^k.toNat<=9/\RelsOk n.toNat k.toNat rels:=by
 unfold EE at h
 simp only[Bool.and_eq_true,decide_eq_true_eq]at h
 obtain⟨⟨h1,_⟩,h2,h3⟩:=h
 exact⟨(Fw h1).1,h2,h3,Kl h1 (by omega)⟩
theorem Fb (h:GC rels): ∃R:List Opn×Bool,A7 n rels k=some R/\CX n rels k=some R/\KQ R.1:=by
 unfold A7 CX
 rw[D1 h,FP h]
 cases hb:EE n rels k with
 |false=>
  refine⟨([],false),?_,by simp,by simp,λf hf=>by simp at hf⟩
  cases hc:E3 n rels&&HC k rels with
  |false=>simp
  |true=>
   unfold EE at hb
   rw[hc,Bool.true_and]at hb
   rw[Bool.and_eq_true]at hc
   simp only[Option.bind_some,Bool.not_true,Bool.false_eq_true,if_false,DE (k:=k) (Fw hc.1).1,hb]
   rfl
 |true=>
  obtain⟨hn,hk,h9,hR⟩:=Gy hb
  have hb':=hb
  unfold EE at hb'
  simp only[Bool.and_eq_true]at hb'
  obtain⟨⟨ht,hf⟩,hr⟩:=hb'
  obtain⟨p1,p2⟩:=IA hn hk
  obtain⟨q1,q2,q3⟩:=G4 hR (given:=List.replicate (n.toNat^k.toNat) (-1)) (by simp) h9
  rw[Int.toNat_of_nonneg (by omega),Int.toNat_of_nonneg (by omega)]at q1 q2
  refine⟨_,?_,?_,q3⟩
  ·rw[ht,hf]
   simp only[Option.bind_some,Bool.and_self,Bool.not_true,Bool.false_eq_true,if_false,DE (k:=k) hn,hr.1,hr.2,p1,Gh (show n.toNat^k.toNat<=1000 by omega),q1]
  ·simp only[Option.bind_some,Bool.not_true,Bool.false_eq_true,if_false,p2,HE (show n.toNat^k.toNat<=1000 by omega),q2]
end
end T
open Go Go.Va
namespace T
section
variable {n:Int} {rels:List AX}
end
def F4 (V:List Int) (x:Nat):Int:=match V.findIdx? (λy=>y==(x:Int))with|some i=>(i:Int)|none=> -1
section
variable {n:Nat} {t:List Int}
end
section
variable {n m:Nat} {t:List Int} {r:AX} {rels:List AX}
end
end T
set_option linter.unusedVariables false
open Go Go.Va
namespace T
def BK:Nat->((List (List Int))×(List (List Int))×Int×Int)->Option ((List (List Int)))
 |0,_=>none
 |n+1,(list,t7,t8,t9)=>
 if decide (t9<t8)then
 if inb t9 t7 then
 (B3 (gd t7 t9 [])).bind λr1=>
 if list.length+ [r1].length<=lim then
 BK n (list++ [r1],t7,t8,w64 (t9+1))
 else none
 else none
 else
 some list
def D2 (rows:List (List Int)):Option ((List (List Int))):=
 (BK Aa ([],rows,(rows.length:Int),0)).bind λs1=>
 some s1
end T
open Go Go.Va
namespace T
section
variable {α:Type} {nw old:Nat->α} {N i:Nat}
end
def pr4 (p:Int):Prop:=p=2∨p=3∨p=5∨p=7
def Ix (p:Int) (W:Nat) (r:List Int):Prop:=r.length=W/\ ∀x∈r,0<=x/\x<p
section
variable {p:Int} {W:Nat} {r row:List Int}
theorem KO (h:Ix p W r) {i:Nat} (hi:i<W):0<=r.getD i 0/\r.getD i 0<p:=by
 have:i<r.length:=by rw[h.1];exact hi
 rw[Ai this];exact h.2 _ (List.getElem_mem this)
end
abbrev ES:=List (List Int)×List Int×List (List Int)
structure ESok (p:Int) (W N v:Nat) (s:ES):Prop where
 t: ∀r∈s.1,Ix p W r
 l: ∀r∈s.2.2,Ix p W r
 bl:s.2.1.length=s.1.length
 n:s.1.length+s.2.2.length=N
 bv: ∀x∈s.2.1,0<=x/\x<(v:Int)
 bn:s.2.1.Nodup
section
variable {p:Int} {W N:Nat}
end
end T
open Go Go.Va
namespace T
section
variable {p:Int} {W N V:Nat}
theorem IY {b:List Int} {u:Nat} (h:(u:Int)∉b):F4 b u= -1:=by
 unfold F4
 have h1:(b.findIdx? λy=>y==(u:Int))=none:=by
  rw[List.findIdx?_eq_none_iff]
  intro y hy
  simp only[beq_eq_false_iff_ne]
  intro e;exact h (e▸hy)
 rw[h1]
theorem Iy {b:List Int} {u:Nat} (h:(u:Int)∈b): ∃i,∃hi:i<b.length,F4 b u=(i:Int)/\b[i]=(u:Int):=by
 unfold F4
 have h1:(b.findIdx? λy=>y==(u:Int)).isSome=true:=by
  rw[List.findIdx?_isSome,List.any_eq_true]
  exact⟨_,h,by simp⟩
 obtain⟨i,hi⟩:=Option.isSome_iff_exists.1 h1
 rw[hi]
 obtain⟨g1,g2,_⟩:=List.findIdx?_eq_some_iff_getElem.1 hi
 exact⟨i,g1,rfl,by simpa using g2⟩
theorem He {rows:List (List Int)} (hN:rows.length<=100000) (hr: ∀r∈rows,r.length<=100000):D2 rows=some rows:=by
 unfold D2
 have:=CD rows.length (λf o i=>BK f (o,rows,(rows.length:Int),i)) (λk=>rows.take k) (r:=some rows) (λf k hk=>by
  have hl:=hr _ (List.getElem_mem hk)
  have hcl:B3 rows[k]=some rows[k]:=by
   unfold B3
   rw[if_pos (by simp;unfold lim;omega)];simp
  simp only[BK,Ae,hk,Aj hk,hcl,Option.bind_some,List.take_succ_eq_append_getElem hk,if_true,Ac (show k<4611686018427387904 by omega)]
  rw[if_pos (by simp;omega),if_pos (by simp;unfold lim;omega)]) (λf=>by
  simp only[BK,List.take_length]
  rw[if_neg (by simp)]) (n:=Aa) (by unfold Aa;omega)
 have this:BK Aa ([],rows,(rows.length:Int),0)=_:=this
 rw[this];rfl
end
end T
open Go Go.Va
namespace T
def Lb (N:Nat) (b:List Int):List Int:=((List.range N).filter λv:Nat=>!decide ((v:Int)∈b)).map λv:Nat=>(v:Int)
section
variable {p:Int} {W N V:Nat}
theorem JE {b:List Int} {u:Nat}:F4 b u<0↔(u:Int)∉b:=by
 by_cases h:(u:Int)∈b
 ·obtain⟨i,hi,h1,_⟩:=Iy h
  rw[h1];simp[h]
 ·rw[IY h];simp[h]
def JK (V:Nat) (s:ES) (u:Nat):Int:=if F4 s.2.1 u<0 then 0 else(s.1.getD (F4 s.2.1 u).toNat []).getD V 0
def Lk (V:Nat) (s:ES):List Int:=(List.range V).map (JK V s)
end
end T
open Go Go.Va
namespace T
def cg (p a b:Int):Prop:= ∃k,a=b+p*k
section
variable {p a b c d:Int}
theorem Ip (h:a=b):cg p a b:=⟨0,by rw[h];simp⟩
theorem KB (h:cg p a b) (g:cg p c d):cg p (a+c) (b+d):=by obtain⟨k,h⟩:=h;obtain⟨m,g⟩:=g;exact⟨k+m,by grind⟩
theorem KC (x:Int) (h:cg p a b):cg p (x*a) (x*b):=by obtain⟨k,h⟩:=h;exact⟨x*k,by grind⟩
end
inductive Sp (p:Int) (V:Nat) (A:List (List Int)):(Nat->Int)->Prop
 |zero:Sp p V A λ_=>0
 |add {f:Nat->Int} (r:List Int) (c:Int):r∈A->Sp p V A f->Sp p V A λi=>f i+c*r.getD i 0
 |cgr {f g:Nat->Int}:Sp p V A f->(∀i,i<V->cg p (g i) (f i))->Sp p V A g
section
variable {p:Int} {V W N:Nat} {A B:List (List Int)} {f g:Nat->Int}
theorem Sp.lin (hf:Sp p V A f) (hg:Sp p V A g) (c:Int):Sp p V A λi=>f i+c*g i:=by
 induction hg with
 |zero=>exact hf.cgr λi _=>Ip (by simp)
 |add r d hr _ ih=>exact(ih.add r (c*d) hr).cgr λi _=>Ip (by grind)
 |cgr _ h ih=>exact ih.cgr λi hi=>KB (Ip rfl) (KC c (h i hi))
theorem Sp.mem {r:List Int} (h:r∈A):Sp p V A λi=>r.getD i 0:=(Sp.add r 1 h .zero).cgr λi _=>Ip (by simp)
theorem Sp.sub (h: ∀r∈A,Sp p V B λi=>r.getD i 0) (hf:Sp p V A f):Sp p V B f:=by
 induction hf with
 |zero=>exact .zero
 |add r c hr _ ih=>exact ih.lin (h r hr) c
 |cgr _ h ih=>exact ih.cgr h
def eqSp (p:Int) (V:Nat) (A B:List (List Int)):Prop:= ∀f,Sp p V A f↔Sp p V B f
theorem J1 (h: ∀r∈A,Sp p V B λi=>r.getD i 0) (g: ∀r∈B,Sp p V A λi=>r.getD i 0):eqSp p V A B:=λ_=>⟨Sp.sub h,Sp.sub g⟩
end
end T
open Go Go.Va
namespace T
section
variable {p:Int} {V W N:Nat} {A B:List (List Int)} {f g:Nat->Int}
theorem Fl {α:Type} {l:List α} {i:Nat} {d:α} (hi:i<l.length):l.getD i d∈l:=by rw[Ai hi];exact List.getElem_mem hi
end
end T
open Go Go.Va
namespace T
section
variable {p:Int} {V W N:Nat} {A B C D:List (List Int)} {f g:Nat->Int}
theorem eqSp.symm (h:eqSp p V A B):eqSp p V B A:=λf=>(h f).symm
theorem eqSp.trans (h:eqSp p V A B) (g:eqSp p V B C):eqSp p V A C:=λf=>(h f).trans (g f)
theorem eqSp.app (h:eqSp p V A B):eqSp p V (A++C) (B++C):=by
 have key: ∀ {A B:List (List Int)},eqSp p V A B-> ∀r∈A++C,Sp p V (B++C) λi=>r.getD i 0:=fun {A B} h r hr=>by
  rcases List.mem_append.1 hr with hr|hr
  ·exact Sp.sub (λq hq=>Sp.mem (List.mem_append_left _ hq)) ((h _).1 (Sp.mem hr))
  ·exact Sp.mem (List.mem_append_right _ hr)
 exact J1 (key h) (key h.symm)
end
end T
open Go Go.Va
namespace T
def i64 (x:Int):Prop:= -9223372036854775808<=x/\x<=9223372036854775807
section
variable {c:List Int} {ar:Int}
end
end T
set_option linter.unusedVariables false
open Go Go.Va
namespace T
def Ce:Nat->((List ((List Int)×Int×(List (List Int))))×(List (List ((List Int)×Int×(List (List Int)))))×Int×Int×Int)->Option ((List ((List Int)×Int×(List (List Int))))×(List (List ((List Int)×Int×(List (List Int)))))×Int×Int)
 |0,_=>none
 |n+1,(list,out,i,most,k)=>
 if inb i list then
 if decide (k<(((gd list i ([],(0,[]))).1).length:Int))then
 if inb i list then
 if inb k ((gd list i ([],(0,[]))).1)then
 (Cl most (gd ((gd list i ([],(0,[]))).1) k 0)).bind λr1=>
 Ce n (list,out,i,r1,w64 (k+1))
 else none
 else none
 else
 some (list,out,i,most)
 else none
def Cd:Nat->((List ((List Int)×Int×(List (List Int))))×(List (List ((List Int)×Int×(List (List Int)))))×Int)->Option ((List (List ((List Int)×Int×(List (List Int))))))
 |0,_=>none
 |n+1,(list,out,i)=>
 if decide (i<(list.length:Int))then
 (Ce Aa (list,out,i,0,0)).bind λs1=>
 if inb s1.2.2.2 s1.2.1 then
 if inb s1.2.2.1 s1.1 then
 if(gd s1.2.1 s1.2.2.2 []).length+ [gd s1.1 s1.2.2.1 ([],(0,[]))].length<=lim then
 if inb s1.2.2.2 s1.2.1 then
 if s1.2.2.2=s1.2.2.2 then
 Cd n (s1.1,stt s1.2.1 s1.2.2.2 ((gd s1.2.1 s1.2.2.2 [])++ [gd s1.1 s1.2.2.1 ([],(0,[]))]),w64 (s1.2.2.1+1))
 else none
 else none
 else none
 else none
 else none
 else
 some out
def EB (vars:Int) (list:List ((List Int)×Int×(List (List Int)))):Option ((List (List ((List Int)×Int×(List (List Int)))))):=
 if 0<=vars/\vars<=vars/\vars<=lim then
 (Cd Aa (list,List.replicate (Int.toNat vars) ([]:List ((List Int)×Int×(List (List Int)))),0)).bind λs1=>
 some s1
 else none
def AI (rec:(Int×(List (List ((List Int)×Int×(List (List Int)))))×(List Int)×(List Int)×((List (List Int))×(Int×Int×Bool)))->Option (((List (List Int))×(Int×Int×Bool)))):Nat->(Int×(List (List ((List Int)×Int×(List (List Int)))))×(List Int)×(List Int)×((List (List Int))×(Int×Int×Bool))×((List (List Int))×(Int×Int×Bool))×Int×Int×(List Int)×Bool×Int)->Option (Int×(List (List ((List Int)×Int×(List (List Int)))))×(List Int)×(List Int)×((List (List Int))×(Int×Int×Bool))×((List (List Int))×(Int×Int×Bool))×Int×Int×(List Int)×Bool)
 |0,_=>none
 |n+1,(t0,t1,t2,t3,t9,t10,t11,t12,t13,t14,t15)=>
 if inb t11 t1 then
 if decide (t15<((gd t1 t11 []).length:Int))then
 if t14 then
 if inb t11 t1 then
 if inb t15 (gd t1 t11 [])then
 (CP (gd (gd t1 t11 []) t15 ([],(0,[]))) t13).bind λr3=>
 AI rec n (t0,t1,t2,t3,(t9.1,(t9.2.1,(t9.2.2.1,t9.2.2.2))),(t10.1,(t10.2.1,(t10.2.2.1,t10.2.2.2))),t11,t12,t13,r3,w64 (t15+1))
 else none
 else none
 else
 some (t0,t1,t2,t3,(t9.1,(t9.2.1,(t9.2.2.1,t9.2.2.2))),(t10.1,(t10.2.1,(t10.2.2.1,t10.2.2.2))),t11,t12,t13,t14)
 else
 some (t0,t1,t2,t3,(t9.1,(t9.2.1,(t9.2.2.1,t9.2.2.2))),(t10.1,(t10.2.1,(t10.2.2.1,t10.2.2.2))),t11,t12,t13,t14)
 else none
def Ao (rec:(Int×(List (List ((List Int)×Int×(List (List Int)))))×(List Int)×(List Int)×((List (List Int))×(Int×Int×Bool)))->Option (((List (List Int))×(Int×Int×Bool)))):Nat->(Int×(List (List ((List Int)×Int×(List (List Int)))))×(List Int)×(List Int)×((List (List Int))×(Int×Int×Bool))×((List (List Int))×(Int×Int×Bool))×Int×Int)->Option (((List (List Int))×(Int×Int×Bool))×((List (List Int))×(Int×Int×Bool)))
 |0,_=>none
 |n+1,(t0,t1,t2,t3,t9,t10,t11,t12)=>
 if decide (t12<t0)then
 if t9.2.2.2 then
 if !(decide (t9.2.1>0))then
 if inb t11 t2 then
 if decide ((gd t2 t11 0)≥0)then
 if inb t11 t2 then
 if(gd t2 t11 0) !=t12 then
 Ao rec n (t0,t1,t2,t3,(t9.1,(t9.2.1,(t9.2.2.1,t9.2.2.2))),(t10.1,(t10.2.1,(t10.2.2.1,t10.2.2.2))),t11,w64 (t12+1))
 else
 (Bh t3).bind λr2=>
 if r2.length+ [t12].length<=lim then
 (AI rec Aa (t0,t1,t2,t3,(t9.1,(t9.2.1,(t9.2.2.1,t9.2.2.2))),(t10.1,(t10.2.1,(t10.2.2.1,t10.2.2.2))),t11,t12,r2++ [t12],true,0)).bind λs3=>
 if s3.2.2.2.2.2.2.2.2.2 then
 (rec (s3.1,s3.2.1,s3.2.2.1,s3.2.2.2.2.2.2.2.2.1,(s3.2.2.2.2.1.1,(s3.2.2.2.2.1.2.1,(s3.2.2.2.2.1.2.2.1,s3.2.2.2.2.1.2.2.2))))).bind λr4=>
 Ao rec n (s3.1,s3.2.1,s3.2.2.1,s3.2.2.2.1,(r4.1,(r4.2.1,(r4.2.2.1,r4.2.2.2))),(s3.2.2.2.2.2.1.1,(s3.2.2.2.2.2.1.2.1,(s3.2.2.2.2.2.1.2.2.1,s3.2.2.2.2.2.1.2.2.2))),s3.2.2.2.2.2.2.1,w64 (s3.2.2.2.2.2.2.2.1+1))
 else
 Ao rec n (s3.1,s3.2.1,s3.2.2.1,s3.2.2.2.1,(s3.2.2.2.2.1.1,(s3.2.2.2.2.1.2.1,(s3.2.2.2.2.1.2.2.1,s3.2.2.2.2.1.2.2.2))),(s3.2.2.2.2.2.1.1,(s3.2.2.2.2.2.1.2.1,(s3.2.2.2.2.2.1.2.2.1,s3.2.2.2.2.2.1.2.2.2))),s3.2.2.2.2.2.2.1,w64 (s3.2.2.2.2.2.2.2.1+1))
 else none
 else none
 else
 (Bh t3).bind λr5=>
 if r5.length+ [t12].length<=lim then
 (AI rec Aa (t0,t1,t2,t3,(t9.1,(t9.2.1,(t9.2.2.1,t9.2.2.2))),(t10.1,(t10.2.1,(t10.2.2.1,t10.2.2.2))),t11,t12,r5++ [t12],true,0)).bind λs6=>
 if s6.2.2.2.2.2.2.2.2.2 then
 (rec (s6.1,s6.2.1,s6.2.2.1,s6.2.2.2.2.2.2.2.2.1,(s6.2.2.2.2.1.1,(s6.2.2.2.2.1.2.1,(s6.2.2.2.2.1.2.2.1,s6.2.2.2.2.1.2.2.2))))).bind λr7=>
 Ao rec n (s6.1,s6.2.1,s6.2.2.1,s6.2.2.2.1,(r7.1,(r7.2.1,(r7.2.2.1,r7.2.2.2))),(s6.2.2.2.2.2.1.1,(s6.2.2.2.2.2.1.2.1,(s6.2.2.2.2.2.1.2.2.1,s6.2.2.2.2.2.1.2.2.2))),s6.2.2.2.2.2.2.1,w64 (s6.2.2.2.2.2.2.2.1+1))
 else
 Ao rec n (s6.1,s6.2.1,s6.2.2.1,s6.2.2.2.1,(s6.2.2.2.2.1.1,(s6.2.2.2.2.1.2.1,(s6.2.2.2.2.1.2.2.1,s6.2.2.2.2.1.2.2.2))),(s6.2.2.2.2.2.1.1,(s6.2.2.2.2.2.1.2.1,(s6.2.2.2.2.2.1.2.2.1,s6.2.2.2.2.2.1.2.2.2))),s6.2.2.2.2.2.2.1,w64 (s6.2.2.2.2.2.2.2.1+1))
 else none
 else none
 else
 some ((t9.1,(t9.2.1,(t9.2.2.1,t9.2.2.2))),(t10.1,(t10.2.1,(t10.2.2.1,t10.2.2.2))))
 else
 if !false then
 if inb t11 t2 then
 if decide ((gd t2 t11 0)≥0)then
 if inb t11 t2 then
 if(gd t2 t11 0) !=t12 then
 Ao rec n (t0,t1,t2,t3,(t9.1,(t9.2.1,(t9.2.2.1,t9.2.2.2))),(t10.1,(t10.2.1,(t10.2.2.1,t10.2.2.2))),t11,w64 (t12+1))
 else
 (Bh t3).bind λr8=>
 if r8.length+ [t12].length<=lim then
 (AI rec Aa (t0,t1,t2,t3,(t9.1,(t9.2.1,(t9.2.2.1,t9.2.2.2))),(t10.1,(t10.2.1,(t10.2.2.1,t10.2.2.2))),t11,t12,r8++ [t12],true,0)).bind λs9=>
 if s9.2.2.2.2.2.2.2.2.2 then
 (rec (s9.1,s9.2.1,s9.2.2.1,s9.2.2.2.2.2.2.2.2.1,(s9.2.2.2.2.1.1,(s9.2.2.2.2.1.2.1,(s9.2.2.2.2.1.2.2.1,s9.2.2.2.2.1.2.2.2))))).bind λr10=>
 Ao rec n (s9.1,s9.2.1,s9.2.2.1,s9.2.2.2.1,(r10.1,(r10.2.1,(r10.2.2.1,r10.2.2.2))),(s9.2.2.2.2.2.1.1,(s9.2.2.2.2.2.1.2.1,(s9.2.2.2.2.2.1.2.2.1,s9.2.2.2.2.2.1.2.2.2))),s9.2.2.2.2.2.2.1,w64 (s9.2.2.2.2.2.2.2.1+1))
 else
 Ao rec n (s9.1,s9.2.1,s9.2.2.1,s9.2.2.2.1,(s9.2.2.2.2.1.1,(s9.2.2.2.2.1.2.1,(s9.2.2.2.2.1.2.2.1,s9.2.2.2.2.1.2.2.2))),(s9.2.2.2.2.2.1.1,(s9.2.2.2.2.2.1.2.1,(s9.2.2.2.2.2.1.2.2.1,s9.2.2.2.2.2.1.2.2.2))),s9.2.2.2.2.2.2.1,w64 (s9.2.2.2.2.2.2.2.1+1))
 else none
 else none
 else
 (Bh t3).bind λr11=>
 if r11.length+ [t12].length<=lim then
 (AI rec Aa (t0,t1,t2,t3,(t9.1,(t9.2.1,(t9.2.2.1,t9.2.2.2))),(t10.1,(t10.2.1,(t10.2.2.1,t10.2.2.2))),t11,t12,r11++ [t12],true,0)).bind λs12=>
 if s12.2.2.2.2.2.2.2.2.2 then
 (rec (s12.1,s12.2.1,s12.2.2.1,s12.2.2.2.2.2.2.2.2.1,(s12.2.2.2.2.1.1,(s12.2.2.2.2.1.2.1,(s12.2.2.2.2.1.2.2.1,s12.2.2.2.2.1.2.2.2))))).bind λr13=>
 Ao rec n (s12.1,s12.2.1,s12.2.2.1,s12.2.2.2.1,(r13.1,(r13.2.1,(r13.2.2.1,r13.2.2.2))),(s12.2.2.2.2.2.1.1,(s12.2.2.2.2.2.1.2.1,(s12.2.2.2.2.2.1.2.2.1,s12.2.2.2.2.2.1.2.2.2))),s12.2.2.2.2.2.2.1,w64 (s12.2.2.2.2.2.2.2.1+1))
 else
 Ao rec n (s12.1,s12.2.1,s12.2.2.1,s12.2.2.2.1,(s12.2.2.2.2.1.1,(s12.2.2.2.2.1.2.1,(s12.2.2.2.2.1.2.2.1,s12.2.2.2.2.1.2.2.2))),(s12.2.2.2.2.2.1.1,(s12.2.2.2.2.2.1.2.1,(s12.2.2.2.2.2.1.2.2.1,s12.2.2.2.2.2.1.2.2.2))),s12.2.2.2.2.2.2.1,w64 (s12.2.2.2.2.2.2.2.1+1))
 else none
 else none
 else
 some ((t9.1,(t9.2.1,(t9.2.2.1,t9.2.2.2))),(t10.1,(t10.2.1,(t10.2.2.1,t10.2.2.2))))
 else
 some ((t9.1,(t9.2.1,(t9.2.2.1,t9.2.2.2))),(t10.1,(t10.2.1,(t10.2.2.1,t10.2.2.2))))
def DS (rec:(Int×(List (List ((List Int)×Int×(List (List Int)))))×(List Int)×(List Int)×((List (List Int))×(Int×Int×Bool)))->Option (((List (List Int))×(Int×Int×Bool)))) (t0:Int) (t1:List (List ((List Int)×Int×(List (List Int))))) (t2:List Int) (t3:List Int) (t4:(List (List Int))×(Int×Int×Bool)):Option (((List (List Int))×(Int×Int×Bool))):=
 if(t3.length:Int)==(t1.length:Int)then
 if decide ((t4.1.length:Int)<t4.2.2.1)then
 (Bh t3).bind λr1=>
 if t4.1.length+ [r1].length<=lim then
 some (t4.1++ [r1],(w64 (t4.2.1+1),(t4.2.2.1,t4.2.2.2)))
 else none
 else
 some (t4.1,(w64 (t4.2.1+1),(t4.2.2.1,t4.2.2.2)))
 else
 (Ao rec Aa (t0,t1,t2,t3,(t4.1,(t4.2.1,(t4.2.2.1,t4.2.2.2))),([],(0,(0,false))),(t3.length:Int),0)).bind λs2=>
 some (s2.1.1,(s2.1.2.1,(s2.1.2.2.1,s2.1.2.2.2)))
def Av:Nat->(Int×(List (List ((List Int)×Int×(List (List Int)))))×(List Int)×(List Int)×((List (List Int))×(Int×Int×Bool)))->Option (((List (List Int))×(Int×Int×Bool)))
 |0,_=>none
 |d+1,x=>DS (Av d) x.1 x.2.1 x.2.2.1 x.2.2.2.1 x.2.2.2.2
def EA (net:Int×Int×(List ((List Int)×Int×(List (List Int))))) (list:List ((List Int)×Int×(List (List Int)))) (partial_:List Int) (most:Int) (one:Bool):Option (((List (List Int))×(Int×Int×Bool))):=
 (EB net.1 list).bind λr1=>
 (Av Aa (net.2.1,r1,partial_,[],([],(0,(most,one))))).bind λr2=>
 some (r2.1,(r2.2.1,(r2.2.2.1,r2.2.2.2)))
def Bu:Nat->((Int×((List (List (List Int)))×(List (List (List ByteArray)))))×((List Int)×Int×(List (List Int)))×Int×(List ((List Int)×Int×(List (List Int))))×Int×Int×(List Int)×Int×Int)->Option ((Int×((List (List (List Int)))×(List (List (List ByteArray)))))×((List Int)×Int×(List (List Int)))×Int×(List ((List Int)×Int×(List (List Int))))×Int×Int)
 |0,_=>none
 |n+1,(t3,t5,t6,t20,t21,t22,t27,t28,t29)=>
 if decide (t29<t28)then
 if inb t29 t27 then
 Bu n ((t3.1,(t3.2.1,t3.2.2)),(t5.1,(t5.2.1,t5.2.2)),Yiv t6 (gd t27 t29 0),t20,t21,t22,t27,t28,w64 (t29+1))
 else none
 else
 some ((t3.1,(t3.2.1,t3.2.2)),(t5.1,(t5.2.1,t5.2.2)),t6,t20,t21,t22)
def Bt:Nat->((Int×((List (List (List Int)))×(List (List (List ByteArray)))))×(List ((List Int)×Int×(List (List Int))))×Int×Int)->Option ((Int×((List (List (List Int)))×(List (List (List ByteArray))))))
 |0,_=>none
 |n+1,(t3,t20,t21,t22)=>
 if decide (t22<t21)then
 if inb t22 t20 then
 (Bu Aa ((t3.1,(t3.2.1,t3.2.2)),((gd t20 t22 ([],(0,[]))).1,(((gd t20 t22 ([],(0,[]))).2).1,((gd t20 t22 ([],(0,[]))).2).2)),0,t20,t21,t22,(gd t20 t22 ([],(0,[]))).1,(((gd t20 t22 ([],(0,[]))).1).length:Int),0)).bind λs1=>
 if inb s1.2.2.1 s1.1.2.1 then
 if(gd s1.1.2.1 s1.2.2.1 []).length+ [s1.2.1.1].length<=lim then
 if inb s1.2.2.1 s1.1.2.1 then
 if s1.2.2.1=s1.2.2.1 then
 if inb s1.2.2.1 s1.1.2.2 then
 (C9 (s1.2.1.2.1,s1.2.1.2.2)).bind λr2=>
 if(gd s1.1.2.2 s1.2.2.1 []).length+ [r2].length<=lim then
 if inb s1.2.2.1 s1.1.2.2 then
 if s1.2.2.1=s1.2.2.1 then
 Bt n ((s1.1.1,(stt s1.1.2.1 s1.2.2.1 ((gd s1.1.2.1 s1.2.2.1 [])++ [s1.2.1.1]),stt s1.1.2.2 s1.2.2.1 ((gd s1.1.2.2 s1.2.2.1 [])++ [r2]))),s1.2.2.2.1,s1.2.2.2.2.1,w64 (s1.2.2.2.2.2+1))
 else none
 else none
 else none
 else none
 else none
 else none
 else none
 else none
 else none
 else
 some (t3.1,(t3.2.1,t3.2.2))
def CO (t0:Int×Int×(List ((List Int)×Int×(List (List Int))))):Option ((Bool×Int×(List (List (List Int)))×(List (List (List ByteArray))))):=
 if 0<=t0.1/\t0.1<=t0.1/\t0.1<=lim then
 if 0<=t0.1/\t0.1<=t0.1/\t0.1<=lim then
 (Bt Aa ((t0.2.1,(List.replicate (Int.toNat t0.1) ([]:List (List Int)),List.replicate (Int.toNat t0.1) ([]:List (List ByteArray)))),t0.2.2,(t0.2.2.length:Int),0)).bind λs1=>
 some (true,(s1.1,(s1.2.1,s1.2.2)))
 else none
 else none
def Fm (list:List Int):Option ((Bool×(List Int))):=
 if([]:List Int).length+list.length<=lim then
 some (true,[]++list)
 else none
def B7 (values:List Int) (t1:Bool×(List Int)):Option ((Bool×(List Int))×Bool):=
 (Fm values).bind λr1=>
 some ((r1.1,r1.2),false)
def Ak (rec:(Int×(List Int)×(Bool×(List Int))×(Bool×Int×(List (List (List Int)))×(List (List (List ByteArray))))×(List Int)×Unit)->Option ((List Int)×(Bool×(List Int))×(Bool×Int×(List (List (List Int)))×(List (List (List ByteArray))))×(List Int)×Bool)):Nat->(Int×(List Int)×(Bool×(List Int))×(Bool×Int×(List (List (List Int)))×(List (List (List ByteArray))))×(List Int)×Unit×Int×Bool×(List (List Int))×Int×Int)->Option (Int×(List Int)×(Bool×(List Int))×(Bool×Int×(List (List (List Int)))×(List (List (List ByteArray))))×(List Int)×Unit×Int×Bool)
 |0,_=>none
 |n+1,(t0,t1,t2,t3,t4,t5,t8,t9,t50,t51,t52)=>
 if decide (t52<t51)then
 if inb t52 t50 then
 if t9 then
 if t3.1=true then
 if inb t0 t3.2.2.2 then
 if inb t52 (gd t3.2.2.2 t0 [])then
 (BR (gd t50 t52 []) t1).bind λr2=>
 (CB r2).bind λr3=>
 Ak rec n (t0,t1,(t2.1,t2.2),t3,t4,(),t8,Xs (gd (gd t3.2.2.2 t0 []) t52 []) r3,t50,t51,w64 (t52+1))
 else none
 else none
 else none
 else
 Ak rec n (t0,t1,(t2.1,t2.2),t3,t4,(),t8,false,t50,t51,w64 (t52+1))
 else none
 else
 some (t0,t1,(t2.1,t2.2),t3,t4,(),t8,t9)
def Af (rec:(Int×(List Int)×(Bool×(List Int))×(Bool×Int×(List (List (List Int)))×(List (List (List ByteArray))))×(List Int)×Unit)->Option ((List Int)×(Bool×(List Int))×(Bool×Int×(List (List (List Int)))×(List (List (List ByteArray))))×(List Int)×Bool)):Nat->(Int×(List Int)×(Bool×(List Int))×(Bool×Int×(List (List (List Int)))×(List (List (List ByteArray))))×(List Int)×Unit×Int)->Option (((List Int)×(Bool×(List Int))×(Bool×Int×(List (List (List Int)))×(List (List (List ByteArray))))×(List Int)×Unit)⊕((List Int)×(Bool×(List Int))×(Bool×Int×(List (List (List Int)))×(List (List (List ByteArray))))×(List Int)×Unit×Bool))
 |0,_=>none
 |n+1,(t0,t1,t2,t3,t4,t5,t8)=>
 if t3.1=true then
 if decide (t8<t3.2.1)then
 if inb t0 t4 then
 if decide ((gd t4 t0 0)≥0)then
 if inb t0 t4 then
 if(gd t4 t0 0) !=t8 then
 Af rec n (t0,t1,(t2.1,t2.2),t3,t4,(),w64 (t8+1))
 else
 if inb t0 t1 then
 if t3.1=true then
 if inb t0 t3.2.2.1 then
 (Ak rec Aa (t0,stt t1 t0 t8,(t2.1,t2.2),t3,t4,(),t8,true,gd t3.2.2.1 t0 [],((gd t3.2.2.1 t0 []).length:Int),0)).bind λs2=>
 if s2.2.2.2.2.2.2.2 then
 (rec (w64 (s2.1+1),s2.2.1,(s2.2.2.1.1,s2.2.2.1.2),s2.2.2.2.1,s2.2.2.2.2.1,())).bind λr3=>
 if !r3.2.2.2.2 then
 some (.inr (r3.1,(r3.2.1.1,r3.2.1.2),r3.2.2.1,r3.2.2.2.1,(),false))
 else
 Af rec n (s2.1,r3.1,(r3.2.1.1,r3.2.1.2),r3.2.2.1,r3.2.2.2.1,(),w64 (s2.2.2.2.2.2.2.1+1))
 else
 Af rec n (s2.1,s2.2.1,(s2.2.2.1.1,s2.2.2.1.2),s2.2.2.2.1,s2.2.2.2.2.1,(),w64 (s2.2.2.2.2.2.2.1+1))
 else none
 else none
 else none
 else none
 else
 if inb t0 t1 then
 if t3.1=true then
 if inb t0 t3.2.2.1 then
 (Ak rec Aa (t0,stt t1 t0 t8,(t2.1,t2.2),t3,t4,(),t8,true,gd t3.2.2.1 t0 [],((gd t3.2.2.1 t0 []).length:Int),0)).bind λs4=>
 if s4.2.2.2.2.2.2.2 then
 (rec (w64 (s4.1+1),s4.2.1,(s4.2.2.1.1,s4.2.2.1.2),s4.2.2.2.1,s4.2.2.2.2.1,())).bind λr5=>
 if !r5.2.2.2.2 then
 some (.inr (r5.1,(r5.2.1.1,r5.2.1.2),r5.2.2.1,r5.2.2.2.1,(),false))
 else
 Af rec n (s4.1,r5.1,(r5.2.1.1,r5.2.1.2),r5.2.2.1,r5.2.2.2.1,(),w64 (s4.2.2.2.2.2.2.1+1))
 else
 Af rec n (s4.1,s4.2.1,(s4.2.2.1.1,s4.2.2.1.2),s4.2.2.2.1,s4.2.2.2.2.1,(),w64 (s4.2.2.2.2.2.2.1+1))
 else none
 else none
 else none
 else none
 else
 some (.inl (t1,(t2.1,t2.2),t3,t4,()))
 else none
def A8 (rec:(Int×(List Int)×(Bool×(List Int))×(Bool×Int×(List (List (List Int)))×(List (List (List ByteArray))))×(List Int)×Unit)->Option ((List Int)×(Bool×(List Int))×(Bool×Int×(List (List (List Int)))×(List (List (List ByteArray))))×(List Int)×Bool)) (t0:Int) (t1:List Int) (t2:Bool×(List Int)) (t3:Bool×Int×(List (List (List Int)))×(List (List (List ByteArray)))) (t4:List Int) (t5:Unit):Option ((List Int)×(Bool×(List Int))×(Bool×Int×(List (List (List Int)))×(List (List (List ByteArray))))×(List Int)×Bool):=
 if t0==(t1.length:Int)then
  (B7 t1 (t2.1,t2.2)).bind λr1=>
   some (t1,(r1.1.1,r1.1.2),t3,t4,r1.2)
 else
  (Af rec Aa (t0,t1,(t2.1,t2.2),t3,t4,(),0)).bind λs2=>
   match s2 with
   | .inl s3=>
    some (s3.1,(s3.2.1.1,s3.2.1.2),s3.2.2.1,s3.2.2.2.1,true)
   | .inr s4=>
    some (s4.1,(s4.2.1.1,s4.2.1.2),s4.2.2.1,s4.2.2.2.1,s4.2.2.2.2.2)
def Am:Nat->(Int×(List Int)×(Bool×(List Int))×(Bool×Int×(List (List (List Int)))×(List (List (List ByteArray))))×(List Int)×Unit)->Option ((List Int)×(Bool×(List Int))×(Bool×Int×(List (List (List Int)))×(List (List (List ByteArray))))×(List Int)×Bool)
 |0,_=>none
 |d+1,x=>A8 (Am d) x.1 x.2.1 x.2.2.1 x.2.2.2.1 x.2.2.2.2.1 x.2.2.2.2.2
def By (s:Bool×Int×(List (List (List Int)))×(List (List (List ByteArray)))) (partial_:List Int) (found:Bool×(List Int)):Option ((Bool×(List Int))):=
 if 0<=(partial_.length:Int)/\(partial_.length:Int)<=(partial_.length:Int)/\(partial_.length:Int)<=lim then
 (Am Aa (0,List.replicate (Int.toNat (partial_.length:Int)) (0:Int),(found.1,found.2),s,partial_,())).bind λr1=>
 some (r1.2.1.1,r1.2.1.2)
 else none
def Dh (net:Int×Int×(List ((List Int)×Int×(List (List Int))))) (partial_:List Int):Option ((Bool×(List Int))):=
 (CO (net.1,(net.2.1,net.2.2))).bind λr1=>
 (By r1 partial_ (false,[])).bind λr2=>
 some (r2.1,r2.2)
end T
open Go Go.Va
namespace T
abbrev NS:=Bool×Int×List (List (List Int))×List (List (List ByteArray))
abbrev NIn (σ:Type):=Int×List Int×σ×NS×List Int×Unit
abbrev JP (σ:Type):=List Int×σ×NS×List Int×Bool
def hM {σ:Type}:Nat->(Int×List Int×σ×NS×List Int×Unit×Int×Bool×List (List Int)×Int×Int)->Option (Int×List Int×σ×NS×List Int×Unit×Int×Bool)
 |0,_=>none
 |n+1,(t0,t1,t2,t3,t4,t5,t8,t9,t50,t51,t52)=>
 if decide (t52<t51)then
 if inb t52 t50 then
 if t9 then
 if t3.1=true then
 if inb t0 t3.2.2.2 then
 if inb t52 (gd t3.2.2.2 t0 [])then
 (BR (gd t50 t52 []) t1).bind λr2=>
 (CB r2).bind λr3=>
 hM n (t0,t1,t2,t3,t4,(),t8,Xs (gd (gd t3.2.2.2 t0 []) t52 []) r3,t50,t51,w64 (t52+1))
 else none
 else none
 else none
 else
 hM n (t0,t1,t2,t3,t4,(),t8,false,t50,t51,w64 (t52+1))
 else none
 else
 some (t0,t1,t2,t3,t4,(),t8,t9)
def hL {σ:Type} (rec:NIn σ->Option (JP σ)):Nat->(Int×List Int×σ×NS×List Int×Unit×Int)->Option ((List Int×σ×NS×List Int×Unit)⊕(List Int×σ×NS×List Int×Unit×Bool))
 |0,_=>none
 |n+1,(t0,t1,t2,t3,t4,t5,t8)=>
 if t3.1=true then
 if decide (t8<t3.2.1)then
 if inb t0 t4 then
 if decide ((gd t4 t0 0)≥0)then
 if inb t0 t4 then
 if(gd t4 t0 0) !=t8 then
 hL rec n (t0,t1,t2,t3,t4,(),w64 (t8+1))
 else
 if inb t0 t1 then
 if t3.1=true then
 if inb t0 t3.2.2.1 then
 (hM Aa (t0,stt t1 t0 t8,t2,t3,t4,(),t8,true,gd t3.2.2.1 t0 [],((gd t3.2.2.1 t0 []).length:Int),0)).bind λs2=>
 if s2.2.2.2.2.2.2.2 then
 (rec (w64 (s2.1+1),s2.2.1,s2.2.2.1,s2.2.2.2.1,s2.2.2.2.2.1,())).bind λr3=>
 if !r3.2.2.2.2 then
 some (.inr (r3.1,r3.2.1,r3.2.2.1,r3.2.2.2.1,(),false))
 else
 hL rec n (s2.1,r3.1,r3.2.1,r3.2.2.1,r3.2.2.2.1,(),w64 (s2.2.2.2.2.2.2.1+1))
 else
 hL rec n (s2.1,s2.2.1,s2.2.2.1,s2.2.2.2.1,s2.2.2.2.2.1,(),w64 (s2.2.2.2.2.2.2.1+1))
 else none
 else none
 else none
 else none
 else
 if inb t0 t1 then
 if t3.1=true then
 if inb t0 t3.2.2.1 then
 (hM Aa (t0,stt t1 t0 t8,t2,t3,t4,(),t8,true,gd t3.2.2.1 t0 [],((gd t3.2.2.1 t0 []).length:Int),0)).bind λs4=>
 if s4.2.2.2.2.2.2.2 then
 (rec (w64 (s4.1+1),s4.2.1,s4.2.2.1,s4.2.2.2.1,s4.2.2.2.2.1,())).bind λr5=>
 if !r5.2.2.2.2 then
 some (.inr (r5.1,r5.2.1,r5.2.2.1,r5.2.2.2.1,(),false))
 else
 hL rec n (s4.1,r5.1,r5.2.1,r5.2.2.1,r5.2.2.2.1,(),w64 (s4.2.2.2.2.2.2.1+1))
 else
 hL rec n (s4.1,s4.2.1,s4.2.2.1,s4.2.2.2.1,s4.2.2.2.2.1,(),w64 (s4.2.2.2.2.2.2.1+1))
 else none
 else none
 else none
 else none
 else
 some (.inl (t1,t2,t3,t4,()))
 else none
def HF {σ:Type} (cb:List Int->σ->Option (σ×Bool)) (rec:NIn σ->Option (JP σ)) (x:NIn σ):Option (JP σ):=
 if x.1==(x.2.1.length:Int)then
  (cb x.2.1 x.2.2.1).bind λr1=>some (x.2.1,r1.1,x.2.2.2.1,x.2.2.2.2.1,r1.2)
 else
  (hL rec Aa (x.1,x.2.1,x.2.2.1,x.2.2.2.1,x.2.2.2.2.1,(),0)).bind λs2=>
   match s2 with
   | .inl s3=>some (s3.1,s3.2.1,s3.2.2.1,s3.2.2.2.1,true)
   | .inr s4=>some (s4.1,s4.2.1,s4.2.2.1,s4.2.2.2.1,s4.2.2.2.2.2)
def hF {σ:Type} (cb:List Int->σ->Option (σ×Bool)):Nat->NIn σ->Option (JP σ)
 |0,_=>none
 |d+1,x=>HF cb (hF cb d) x
def BM (c:Con):Nat:=c.1.foldl (λm v=>max m v.toNat) 0
def Ax (cs:List Con) (v:Nat):List Con:=cs.filter λc=>BM c==v
def AW (cs:List Con) (V:Nat):List (List (List Int)):=(List.range V).map λv=>(Ax cs v).map (·.1)
def CF (cs:List Con) (V:Nat):List (List (List ByteArray)):=(List.range V).map λv=>(Ax cs v).map λc=>Dm c.2.2
def okN (cs:List Con) (pre:List Int):Bool:=(Ax cs (pre.length-1)).all (Dn pre)
theorem HK: ∀(l:List Int) (m:Nat),m<=l.foldl (λm v=>max m v.toNat) m/\(∀v∈l,v.toNat<=l.foldl (λm v=>max m v.toNat) m)/\ ∀B,m<=B->(∀v∈l,v.toNat<=B)->l.foldl (λm v=>max m v.toNat) m<=B
 | [],m=>⟨Nat.le_refl _,by simp,λB h _=>h⟩
 |v::l,m=>by
  obtain⟨h1,h2,h3⟩:=HK l (max m v.toNat)
  simp only[List.foldl_cons]
  refine⟨by omega,λw hw=>?_,λB h h'=>h3 B (by have:=h' v (List.mem_cons_self ..);omega) λw hw=>h' w (List.mem_cons_of_mem _ hw)⟩
  rcases List.mem_cons.1 hw with rfl|hw
  ·omega
  ·exact h2 w hw
section
variable {V n:Nat} {cs:List Con} {given:List Int}
structure SrchOk (V n:Nat) (cs:List Con):Prop where
 hv:V<=9
 hn:1<=n/\n<=4
 hc:cs.length<=40
 con: ∀c∈cs,ConOk (V:Int) (n:Int) c
theorem Es {c:Con} {v:Nat}:c∈Ax cs v↔c∈cs/\BM c=v:=by simp[Ax]
theorem Eo (h:SrchOk V n cs) {v:Nat} {c:Con} (hc:c∈Ax cs v):ConOk ((v+1:Nat):Int) (n:Int) c/\v<V:=by
 obtain⟨h1,h2⟩:=Es.1 hc
 have hk:=h.con c h1
 obtain⟨_,g2,g3⟩:=HK c.1 0
 have hv:v<V:=by
  have hm:=hk.ar
  have hsl:=hk.sl
  have h0:=hk.sv 0 (by omega)
  have:=g3 (V-1) (by omega) λw hw=>by
   obtain⟨i,hi,rfl⟩:=List.mem_iff_getElem.1 hw
   have:=hk.sv i hi
   omega
  have:BM c<=V-1:=this
  omega
 refine⟨⟨hk.ar,hk.sl,λi hi=>?_,hk.tl,hk.tv,hk.inc,hk.many⟩,hv⟩
 have h3:=hk.sv i hi
 have h4:=g2 _ (List.getElem_mem hi)
 have h4:(c.1[i]).toNat<=BM c:=h4
 omega
theorem GV (h:SrchOk V n cs) {v:Nat} {c:Con} (hc:c∈Ax cs v) (tab:List Int):Dn (tab.take (v+1)) c=Dn tab c:=by
 have hk:=(Eo h hc).1
 unfold Dn
 have:c.1.map (Bq (tab.take (v+1)))=c.1.map (Bq tab):=List.map_congr_left λx hx=>by
  obtain⟨i,hi,rfl⟩:=List.mem_iff_getElem.1 hx
  have:=hk.sv i hi
  unfold Bq
  rw[List.getD_eq_getElem?_getD,List.getD_eq_getElem?_getD,List.getElem?_take,if_pos (by omega)]
 rw[this]
theorem Gv (h:SrchOk V n cs) {v:Nat} {tab:List Int} (hv:v<tab.length):okN cs (tab.take (v+1))=(Ax cs v).all (Dn tab):=by
 unfold okN
 rw[List.length_take,show min (v+1) tab.length-1=v by omega,Bool.eq_iff_iff,List.all_eq_true,List.all_eq_true]
 exact⟨λg c hc=>by rw[←GV h hc];exact g c hc,λg c hc=>by rw[GV h hc];exact g c hc⟩
theorem EU {v:Nat} (hv:v<V):(AW cs V).length=V/\(AW cs V).getD v []=(Ax cs v).map (·.1):=by
 refine⟨by simp[AW],?_⟩
 rw[Ai (by simp[AW];exact hv)];simp[AW]
theorem Hb {v:Nat} (hv:v<V):(CF cs V).length=V/\(CF cs V).getD v []=(Ax cs v).map λc=>Dm c.2.2:=by
 refine⟨by simp[CF],?_⟩
 rw[Ai (by simp[CF];exact hv)];simp[CF]
theorem Le (h:SrchOk V n cs) {v:Nat} (hv:v<V) {tab:List Int} (ht:tab.length=V) (htv: ∀x∈tab,0<=x/\x<256) {σ:Type} (s:σ) (x:Int):
  hM Aa ((v:Int),tab,s,(true,((n:Int),(AW cs V,CF cs V))),given,(),x,true,gd (AW cs V) (v:Int) [],((gd (AW cs V) (v:Int) []).length:Int),0)=
   some ((v:Int),tab,s,(true,((n:Int),(AW cs V,CF cs V))),given,(),x,okN cs (tab.take (v+1))):=by
 obtain⟨l1,e1⟩:=EU (cs:=cs) hv
 obtain⟨l2,e2⟩:=Hb (cs:=cs) hv
 have hn:=h.hn
 have hg1:gd (AW cs V) (v:Int) []=(Ax cs v).map (·.1):=e1
 have hg2:gd (CF cs V) (v:Int) []=(Ax cs v).map λc=>Dm c.2.2:=e2
 rw[Gv h (by omega),hg1]
 have hlen:(Ax cs v).length<=40:=Nat.le_trans (List.length_filter_le _ _) h.hc
 have:=CD (Ax cs v).length (λf (o:Bool) i=>hM f ((v:Int),tab,s,(true,((n:Int),(AW cs V,CF cs V))),given,(),x,o,(Ax cs v).map (·.1),(((Ax cs v).map (·.1)).length:Int),i)) (λk=>((Ax cs v).take k).all (Dn tab)) (r:=some ((v:Int),tab,s,(true,((n:Int),(AW cs V,CF cs V))),given,(),x,(Ax cs v).all (Dn tab))) (λf k hk=>?_) (λf=>?_) (n:=Aa) (by unfold Aa;omega)
 ·exact this
 ·have hmem:=List.getElem_mem hk
  have hcon:=(Eo h hmem).1
  have hsl:=hcon.sl
  have har:=hcon.ar
  have hmany:=hcon.many
  have hin:inb (k:Int) ((Ax cs v).map (·.1)):=by unfold inb;rw[List.length_map];omega
  have hgk:gd ((Ax cs v).map (·.1)) (k:Int) []=(Ax cs v)[k].1:=by
   have:=Aj (xs:=(Ax cs v).map (·.1)) (d:= []) (k:=k) (by simpa using hk)
   rw[this];simp
  have hin2:inb (k:Int) ((Ax cs v).map λc=>Dm c.2.2):=by unfold inb;rw[List.length_map];omega
  have hgk2:gd ((Ax cs v).map λc=>Dm c.2.2) (k:Int) []=Dm (Ax cs v)[k].2.2:=by
   have:=Aj (xs:=(Ax cs v).map λc=>Dm c.2.2) (d:= []) (k:=k) (by simpa using hk)
   rw[this];simp
  have hsc: ∀y∈(Ax cs v)[k].1,0<=y/\y<tab.length:=λy hy=>by
   obtain⟨i,hi,rfl⟩:=List.mem_iff_getElem.1 hy
   have:=hcon.sv i hi
   omega
  have hc:=Db (f:=(Ax cs v)[k].1) (g:=tab) (by omega) hsc
  have hval: ∀y∈(Ax cs v)[k].1.map (Bq tab),0<=y/\y<256:=λy hy=>by
   obtain⟨z,hz,rfl⟩:=List.mem_map.1 hy
   have:=hsc z hz
   exact htv _ (Fl (by omega))
  have hk2:=DD (l:=(Ax cs v)[k].1.map (Bq tab)) (by rw[List.length_map];omega) hval
  have hmk:=FI (l:=(Ax cs v)[k].2.2) (t:=(Ax cs v)[k].1.map (Bq tab)) (λt ht y hy=>by
   obtain⟨i,hi,rfl⟩:=List.mem_iff_getElem.1 hy
   have:=hcon.tv t ht i hi
   omega) hval
  have hiv:inb (v:Int) (CF cs V):=by unfold inb;omega
  have htk:((Ax cs v).take (k+1)).all (Dn tab)=(((Ax cs v).take k).all (Dn tab)&&Dn tab (Ax cs v)[k]):=by
   rw[List.take_succ_eq_append_getElem hk,List.all_append];simp
  simp only[hM,hin,hgk,hc,hk2,hiv,hg2,hin2,hgk2,hmk,Option.bind_some,Ac (show k<4611686018427387904 by omega),htk,if_true]
  rw[if_pos (by simp;omega)]
  cases ((Ax cs v).take k).all (Dn tab)with
  |false=>simp
  |true=>simp[Dn]
 ·simp only[hM,List.take_length]
  rw[if_neg (by simp)]
end
end T
