/- Plain lemmas on the typed functions of the program, and the plain law of FnExactMalcevPolymorphism; no conditions. -/
import Derived.Test.YtgeboeaoblppcabV1
import Derived.Test.YtgeboeaoblppcabV5
import Derived.KernelRfl
set_option linter.all false
namespace Go.Va
theorem E9 (x:Int):w64 x=(x+9223372036854775808)%18446744073709551616-9223372036854775808:=by
 simp[w64,IntKind.wrap,IntKind.bits,IntKind.signed]
 split<;>omega
theorem Ay {x:Int} (h1: -9223372036854775808<=x) (h2:x<=9223372036854775807):w64 x=x:=by
 rw[E9];omega
theorem Ad {k:Nat} (h:k<4611686018427387904):w64 ((k:Int)+1)=((k+1:Nat):Int):=by
 rw[Ay (by omega) (by omega)];rfl
theorem Ae {α:Type} {k:Nat} {xs:List α}:inb (k:Int) xs↔k<xs.length:=by
 unfold inb;omega
theorem Ah {α:Type} {k:Nat} {xs:List α} {d:α} (h:k<xs.length):gd xs (k:Int) d=xs[k]:=by
 unfold gd;simp[h]
theorem A7 {α:Type} {k:Nat} {xs:List α} {x:α}:stt xs (k:Int) x=xs.set k x:=by
 unfold stt;simp
def Ej {α σ β:Type} (step:σ->α->Option (σ⊕β)) (fin:σ->Option β):List α->σ->Option β
 | [],s=>fin s
 |a::l,s=>match step s a with|some (.inl s')=>Ej step fin l s'|some (.inr r)=>some r|none=>none
theorem GZ {α σ β:Type} (xs:List α) (L:Nat->σ->Int->Option β) (step:σ->α->Option (σ⊕β)) (fin:σ->Option β)
  (hs: ∀n s (k:Nat) (hk:k<xs.length),L (n+1) s k=match step s xs[k]with|some (.inl s')=>L n s' ((k+1:Nat):Int)|some (.inr r)=>some r|none=>none)
  (he: ∀n s,L (n+1) s (xs.length:Nat)=fin s): ∀(n k:Nat) (s:σ),k<=xs.length->xs.length-k<n->L n s k=Ej step fin (xs.drop k) s:=by
 intro n
 induction n with
 |zero=>intro k s _ h;omega
 |succ n ih=>
  intro k s hk hn
  rcases Nat.lt_or_ge k xs.length with hlt|hge
  ·rw[hs n s k hlt,List.drop_eq_getElem_cons hlt]
   simp only[Ej]
   cases step s xs[k]with
   |none=>rfl
   |some q=>
    cases q with
    |inl s'=>exact ih (k+1) s' hlt (by omega)
    |inr r=>rfl
  ·have:k=xs.length:=by omega
   subst this
   rw[he,List.drop_length];rfl
theorem FQ {α σ β:Type} (xs:List α) (L:Nat->σ->Int->Option β) (step:σ->α->Option (σ⊕β)) (fin:σ->Option β)
  (hs: ∀n s (k:Nat) (hk:k<xs.length),L (n+1) s k=match step s xs[k]with|some (.inl s')=>L n s' ((k+1:Nat):Int)|some (.inr r)=>some r|none=>none)
  (he: ∀n s,L (n+1) s (xs.length:Nat)=fin s) {n:Nat} (hn:xs.length<n) (s:σ):L n s 0=Ej step fin xs s:=by
 have:=GZ xs L step fin hs he n 0 s (Nat.zero_le _) (by omega)
 simpa using this
theorem EE {α β:Type} {p:α->Bool} {step:Unit->α->Option (Unit⊕β)} {fin:Unit->Option β} {r:β}: ∀ {l:List α},(∀a∈l,step () a=if p a then some (.inl ())else some (.inr r))->Ej step fin l ()=if l.all p then fin ()else some r
 | [],_=>rfl
 |a::l,h=>by
  simp only[Ej]
  rw[h a (by simp)]
  cases hp:p a with
  |true=>simp only[if_true,List.all_cons,hp,Bool.true_and];exact EE λb hb=>h b (List.mem_cons_of_mem _ hb)
  |false=>simp[List.all_cons,hp]
theorem GU {α β γ:Type} (xs:List α) (L:Nat->List β->Int->Option γ) (g:α->β) (fin:List β->Option γ)
  (hs: ∀n (out:List β) (k:Nat) (hk:k<xs.length),out.length=xs.length->L (n+1) out k=L n (out.set k (g xs[k])) ((k+1:Nat):Int))
  (he: ∀n out,out.length=xs.length->L (n+1) out (xs.length:Nat)=fin out): ∀(n k:Nat) (out:List β),out.length=xs.length->k<=xs.length->xs.length-k<n->L n out k=fin (out.take k++(xs.drop k).map g):=by
 intro n
 induction n with
 |zero=>intro k out _ _ h;omega
 |succ n ih=>
  intro k out hl hk hn
  rcases Nat.lt_or_ge k xs.length with hlt|hge
  ·have:(out.set k (g xs[k])).take (k+1)=out.take k++ [g xs[k]]:=by
    rw[List.take_succ_eq_append_getElem (by simp;omega),List.take_set_of_le (Nat.le_refl _),List.getElem_set_self]
   rw[hs n out k hlt hl,ih (k+1) _ (by simpa using hl) hlt (by omega),List.drop_eq_getElem_cons hlt,this,List.map_cons,List.append_assoc,List.singleton_append]
  ·have:k=xs.length:=by omega
   subst this
   rw[he _ _ hl,List.drop_length,List.take_of_length_le (by omega)];simp
theorem Ee {α β γ:Type} (xs:List α) (L:Nat->List β->Int->Option γ) (g:α->β) (fin:List β->Option γ)
  (hs: ∀n (out:List β) (k:Nat) (hk:k<xs.length),out.length=xs.length->L (n+1) out k=L n (out.set k (g xs[k])) ((k+1:Nat):Int))
  (he: ∀n out,out.length=xs.length->L (n+1) out (xs.length:Nat)=fin out) {n:Nat} {out:List β} (hl:out.length=xs.length) (hn:xs.length<n):L n out 0=fin (xs.map g):=by
 have:=GU xs L g fin hs he n 0 out hl (Nat.zero_le _) (by omega)
 simpa using this
theorem eqX {α:Type} [DecidableEq α] (a b:List α) (hl:a.length=b.length) (L:Nat->Int->Option (Unit⊕Bool))
  (hs: ∀n (k:Nat) (h1:k<a.length) (h2:k<b.length),L (n+1) k=if a[k]=b[k]then L n ((k+1:Nat):Int)else some (.inr false)) (he: ∀n,L (n+1) (a.length:Nat)=some (.inl ())) {n:Nat} (hn:a.length<n):
  L n 0=some (if a=b then .inl ()else .inr false):=by
 have key: ∀(n k:Nat),k<=a.length->a.length-k<n->L n k=some (if a.drop k=b.drop k then .inl ()else .inr false):=by
  intro n
  induction n with
  |zero=>intro k _ h;omega
  |succ n ih=>
   intro k hk hn
   rcases Nat.lt_or_ge k a.length with hlt|hge
   ·have h2:k<b.length:=by omega
    have e:(a.drop k=b.drop k)↔(a[k]=b[k]/\a.drop (k+1)=b.drop (k+1)):=by
     rw[List.drop_eq_getElem_cons hlt,List.drop_eq_getElem_cons h2];exact List.cons_eq_cons
    rw[hs n k hlt h2]
    by_cases h:a[k]=b[k]
    ·rw[if_pos h,ih (k+1) hlt (by omega)]
     by_cases h3:a.drop (k+1)=b.drop (k+1)
     ·rw[if_pos h3,if_pos (e.2 ⟨h,h3⟩)]
     ·rw[if_neg h3,if_neg λh'=>h3 (e.1 h').2]
    ·rw[if_neg h,if_neg λh'=>h (e.1 h').1]
   ·have:k=a.length:=by omega
    subst this
    rw[he,List.drop_length,hl,List.drop_length];rfl
 have:=key n 0 (Nat.zero_le _) (by omega)
 simpa using this
theorem El {α β:Type} (xs:List α) (L:Nat->Int->Option β) (p:α->Bool) (r e:β)
  (hs: ∀n (k:Nat) (hk:k<xs.length),L (n+1) k=if p xs[k]then L n ((k+1:Nat):Int)else some r) (he: ∀n,L (n+1) (xs.length:Nat)=some e) {n:Nat} (hn:xs.length<n):
  L n 0=some (if xs.all p then e else r):=by
 have:=FQ xs (λn (_:Unit) i=>L n i) (λ_ a=>if p a then some (.inl ())else some (.inr r)) (λ_=>some e) (λn s k hk=>by rw[hs n k hk];cases p xs[k]<;>simp) (λn s=>he n) hn ()
 rw[this,EE (p:=p) (r:=r) λa _=>by cases p a<;>simp]
 cases xs.all p<;>simp
theorem Cw {σ β:Type} (N:Nat) (L:Nat->σ->Int->Option β) (S:Nat->σ) {r:Option β}
  (hs: ∀n (k:Nat),k<N->L (n+1) (S k) k=L n (S (k+1)) ((k+1:Nat):Int)) (he: ∀n,L (n+1) (S N) (N:Nat)=r) {n:Nat} (hn:N<n):L n (S 0) 0=r:=by
 have key: ∀(n k:Nat),k<=N->N-k<n->L n (S k) k=r:=by
  intro n
  induction n with
  |zero=>intro k _ h;omega
  |succ n ih=>
   intro k hk hn
   rcases Nat.lt_or_ge k N with hlt|hge
   ·rw[hs n k hlt];exact ih (k+1) hlt (by omega)
   ·have:k=N:=by omega
    subst this;exact he n
 exact key n 0 (Nat.zero_le _) (by omega)
theorem G9 {σ β:Type} (N:Nat) (L:Nat->σ->Int->Option β) (S:Nat->σ) (p:Nat->Bool) {r e:Option β}
  (hs: ∀n (k:Nat),k<N->L (n+1) (S k) k=if p k then L n (S (k+1)) ((k+1:Nat):Int)else r) (he: ∀n,L (n+1) (S N) (N:Nat)=e) {n:Nat} (hn:N<n):
  L n (S 0) 0=if(List.range N).all p then e else r:=by
 have key: ∀(n k:Nat),k<=N->N-k<n->L n (S k) k=if(List.range' k (N-k)).all p then e else r:=by
  intro n
  induction n with
  |zero=>intro k _ h;omega
  |succ n ih=>
   intro k hk hn
   rcases Nat.lt_or_ge k N with hlt|hge
   ·rw[hs n k hlt,show N-k=(N-(k+1))+1 by omega,List.range'_succ,List.all_cons]
    cases hp:p k with
    |false=>simp
    |true=>simp only[if_true,Bool.true_and];exact ih (k+1) hlt (by omega)
   ·have:k=N:=by omega
    subst this;rw[he];simp
 have:=key n 0 (Nat.zero_le _) (by omega)
 rw[List.range_eq_range']
 simpa using this
theorem Ha {σ β:Type} (N:Nat) (L:Nat->σ->Int->Option β) (S:Nat->σ) (p:Nat->Bool) {r e:Option β}
  (hs: ∀n (k:Nat),k<N->(∀j,j<k->p j=true)->L (n+1) (S k) k=if p k then L n (S (k+1)) ((k+1:Nat):Int)else r) (he: ∀n,(∀j,j<N->p j=true)->L (n+1) (S N) (N:Nat)=e) {n:Nat} (hn:N<n):
  L n (S 0) 0=if(List.range N).all p then e else r:=by
 have key: ∀(n k:Nat),k<=N->N-k<n->(∀j,j<k->p j=true)->L n (S k) k=if(List.range' k (N-k)).all p then e else r:=by
  intro n
  induction n with
  |zero=>intro k _ h;omega
  |succ n ih=>
   intro k hk hn hb
   rcases Nat.lt_or_ge k N with hlt|hge
   ·rw[hs n k hlt hb,show N-k=(N-(k+1))+1 by omega,List.range'_succ,List.all_cons]
    cases hp:p k with
    |false=>simp
    |true=>
     simp only[if_true,Bool.true_and]
     refine ih (k+1) hlt (by omega) λj hj=>?_
     rcases Nat.lt_or_ge j k with h|h
     ·exact hb j h
     ·have:j=k:=by omega
      rw[this];exact hp
   ·have:k=N:=by omega
    subst this;rw[he n hb];simp
 have:=key n 0 (Nat.zero_le _) (by omega) (λj h=>by omega)
 rw[List.range_eq_range']
 simpa using this
def szR (t:Nat) (left:Int):Int:=if(t:Int)<=left then left-t else-1
end Go.Va
set_option linter.unusedVariables false
open Go Go.Va
namespace T
def Ab:Nat:=1099511627776
def BH (a:List Int) (left:Int):Option (Int):=
 if decide ((w64 (left-(a.length:Int)))<0)then
 some (-1)
 else
 some (w64 (left-(a.length:Int)))
def Bj:Nat->((List (List Int))×Int×Int)->Option ((Int)⊕(Int))
 |0,_=>none
 |n+1,(a,left,i)=>
 if decide (i<(a.length:Int))then
 if inb i a then
 (BH (gd a i []) left).bind λr1=>
 if decide (r1<0)then
 some (.inr (-1))
 else
 Bj n (a,r1,w64 (i+1))
 else none
 else
 some (.inl left)
def Co (a:List (List Int)) (left:Int):Option (Int):=
 if decide ((w64 (left-(a.length:Int)))<0)then
  some (-1)
 else
  (Bj Ab (a,w64 (left-(a.length:Int)),0)).bind λs1=>
   match s1 with
   | .inl s2=>
    some s2
   | .inr s3=>
    some s3
def Bu:Nat->((List Int)×(List Int)×Int)->Option ((List Int))
 |0,_=>none
 |n+1,(a,out,i)=>
 if decide (i<(a.length:Int))then
 if inb i a then
 if inb i out then
 Bu n (a,stt out i (gd a i 0),w64 (i+1))
 else none
 else none
 else
 some out
def CI (a:List Int):Option ((List Int)):=
 if 0<=(a.length:Int)/\(a.length:Int)<=(a.length:Int)/\(a.length:Int)<=lim then
 (Bu Ab (a,List.replicate (Int.toNat (a.length:Int)) (0:Int),0)).bind λs1=>
 some s1
 else none
def Bk:Nat->((List (List Int))×(List (List Int))×Int)->Option ((List (List Int)))
 |0,_=>none
 |n+1,(a,out,i)=>
 if decide (i<(a.length:Int))then
 if inb i a then
 (CI (gd a i [])).bind λr1=>
 if inb i out then
 Bk n (a,stt out i r1,w64 (i+1))
 else none
 else none
 else
 some out
def Cp (a:List (List Int)):Option ((List (List Int))):=
 if 0<=(a.length:Int)/\(a.length:Int)<=(a.length:Int)/\(a.length:Int)<=lim then
 (Bk Ab (a,List.replicate (Int.toNat (a.length:Int)) ([]:List Int),0)).bind λs1=>
 some s1
 else none
def BZ (x:Int) (a:Int) (b:Int):Option (Bool):=
 if decide (x≥a)then
 some (decide (x<=b))
 else
 some false
def AT:Nat->(Int×(List Int)×Int)->Option ((Unit)⊕(Bool))
 |0,_=>none
 |n+1,(n_,list,i)=>
 if decide (i<(list.length:Int))then
 if inb i list then
 (BZ (gd list i 0) 0 (w64 (n_-1))).bind λr1=>
 if !r1 then
 some (.inr false)
 else
 AT n (n_,list,w64 (i+1))
 else none
 else
 some (.inl ())
def BT (n_:Int) (list:List Int):Option (Bool):=
 (AT Ab (n_,list,0)).bind λs1=>
  match s1 with
  | .inl s2=>
   some true
  | .inr s3=>
   some s3
def Cs (n_:Int) (k:Int) (t:List Int):Option (Bool):=
 if(t.length:Int)==k then
 (BT n_ t).bind λr1=>
 some r1
 else
 some false
def Bs:Nat->(Int×(List Int)×Int×Int)->Option ((Unit)⊕(Bool))
 |0,_=>none
 |n+1,(n_,t7,t8,t9)=>
 if decide (t9<t8)then
 if inb t9 t7 then
 if decide ((gd t7 t9 0)<0)then
 some (.inr false)
 else
 if decide ((gd t7 t9 0)≥n_)then
 some (.inr false)
 else
 Bs n (n_,t7,t8,w64 (t9+1))
 else none
 else
 some (.inl ())
def CF (list:List Int) (n_:Int):Option (Bool):=
 (Bs Ab (n_,list,(list.length:Int),0)).bind λs1=>
  match s1 with
  | .inl s2=>
   some true
  | .inr s3=>
   some s3
def Bt:Nat->((List Int)×(List Int)×Int)->Option ((Unit)⊕(Bool))
 |0,_=>none
 |n+1,(a,b,i)=>
 if decide (i<(a.length:Int))then
 if inb i a then
 if inb i b then
 if(gd a i 0) !=(gd b i 0)then
 some (.inr false)
 else
 Bt n (a,b,w64 (i+1))
 else none
 else none
 else
 some (.inl ())
def B6 (a:List Int) (b:List Int):Option (Bool):=
 if(a.length:Int) !=(b.length:Int)then
  some false
 else
  (Bt Ab (a,b,0)).bind λs1=>
   match s1 with
   | .inl s2=>
    some true
   | .inr s3=>
    some s3
def Bi:Nat->((List (List Int))×(List (List Int))×Int)->Option ((Unit)⊕(Bool))
 |0,_=>none
 |n+1,(a,b,i)=>
 if decide (i<(a.length:Int))then
 if inb i a then
 if inb i b then
 (B6 (gd a i []) (gd b i [])).bind λr1=>
 if !r1 then
 some (.inr false)
 else
 Bi n (a,b,w64 (i+1))
 else none
 else none
 else
 some (.inl ())
def Cn (a:List (List Int)) (b:List (List Int)):Option (Bool):=
 if(a.length:Int) !=(b.length:Int)then
  some false
 else
  (Bi Ab (a,b,0)).bind λs1=>
   match s1 with
   | .inl s2=>
    some true
   | .inr s3=>
    some s3
def AY:Nat->(Int×Int×Int)->Option (Int)
 |0,_=>none
 |n+1,(n_,k,out)=>
 if decide (k>0)then
 AY n (n_,w64 (k-1),w64 (out*n_))
 else
 some out
def BG (n_:Int) (k:Int):Option (Int):=
 (AY Ab (n_,k,1)).bind λs1=>
 some s1
def Bx:Nat->((List Int)×(List Int)×Int)->Option ((Unit)⊕(Bool))
 |0,_=>none
 |n+1,(a,b,i)=>
 if decide (i<(a.length:Int))then
 if inb i a then
 if inb i b then
 if(gd a i 0) !=(gd b i 0)then
 if inb i a then
 if inb i b then
 some (.inr (decide ((gd a i 0)<(gd b i 0))))
 else none
 else none
 else
 Bx n (a,b,w64 (i+1))
 else none
 else none
 else
 some (.inl ())
def CM (a:List Int) (b:List Int):Option (Bool):=
 (Bx Ab (a,b,0)).bind λs1=>
  match s1 with
  | .inl s2=>
   some false
  | .inr s3=>
   some s3
def Bv:Nat->((List Int)×(List Int)×Int)->Option ((Unit)⊕(Bool))
 |0,_=>none
 |n+1,(a,b,i)=>
 if decide (i<(a.length:Int))then
 if inb i a then
 if inb i b then
 if(gd a i 0) !=(gd b i 0)then
 some (.inr false)
 else
 Bv n (a,b,w64 (i+1))
 else none
 else none
 else
 some (.inl ())
def CK (a:List Int) (b:List Int):Option (Bool):=
 if(a.length:Int) !=(b.length:Int)then
  some false
 else
  (Bv Ab (a,b,0)).bind λs1=>
   match s1 with
   | .inl s2=>
    some true
   | .inr s3=>
    some s3
def Bf:Nat->((List (List Int))×(List Int)×Int×Int)->Option ((List (List Int))×(List Int)×Int)
 |0,_=>none
 |n+1,(list,t,from_,to)=>
 if decide (from_<to)then
 if(2:Int)≠0 then
 if inb (w64 (Int.tdiv (w64 (from_+to)) 2)) list then
 (CM (gd list (w64 (Int.tdiv (w64 (from_+to)) 2)) []) t).bind λr1=>
 if r1 then
 Bf n (list,t,w64 ((w64 (Int.tdiv (w64 (from_+to)) 2))+1),to)
 else
 Bf n (list,t,from_,w64 (Int.tdiv (w64 (from_+to)) 2))
 else none
 else none
 else
 some (list,t,from_)
def CO (list:List (List Int)) (t:List Int):Option (Int×Bool):=
 (Bf Ab (list,t,0,(list.length:Int))).bind λs1=>
 if decide (s1.2.2<(s1.1.length:Int))then
 if inb s1.2.2 s1.1 then
 (CK (gd s1.1 s1.2.2 []) s1.2.1).bind λr2=>
 some (s1.2.2,r2)
 else none
 else
 some (s1.2.2,false)
def Av:Nat->((List Int)×(List Int)×Int)->Option (((List Int)×(List Int))⊕(Int))
 |0,_=>none
 |n+1,(s,t,i)=>
 if decide (i<(s.length:Int))then
 if decide (i<(t.length:Int))then
 if inb i s then
 if inb i t then
 if(gd s i 0) !=(gd t i 0)then
 if inb i s then
 if inb i t then
 if decide ((gd s i 0)<(gd t i 0))then
 some (.inr (-1))
 else
 some (.inr 1)
 else none
 else none
 else
 Av n (s,t,w64 (i+1))
 else none
 else none
 else
 some (.inl (s,t))
 else
 some (.inl (s,t))
def B5 (s:List Int) (t:List Int):Option (Int):=
 (Av Ab (s,t,0)).bind λs1=>
  match s1 with
  | .inl s2=>
   if decide ((s2.1.length:Int)<(s2.2.length:Int))then
    some (-1)
   else
    if decide ((s2.1.length:Int)>(s2.2.length:Int))then
     some 1
    else
     some 0
  | .inr s3=>
   some s3
def BA:Nat->(Int×Int×Int)->Option (Int)
 |0,_=>none
 |n+1,(n_,k,p)=>
 if decide (k>0)then
 BA n (n_,w64 (k-1),w64 (p*n_))
 else
 some p
def Cl (n_:Int) (k:Int):Option (Int):=
 (BA Ab (n_,k,1)).bind λs1=>
 some s1
end T
open Go Go.Va
namespace T
theorem Fu {a:List Int} {left:Int} (h0:0<=left) (h1:left<=4611686018427387904) (ha:a.length<=9223372036854775807):BH a left=some (szR a.length left):=by
 unfold BH szR
 rw[Ay (by omega) (by omega)]
 by_cases h:(a.length:Int)<=left
 ·rw[if_neg (by simp;omega),if_pos h]
 ·rw[if_pos (by simp;omega),if_neg h]
def Eb (a:List (List Int)):Nat:=a.length+(a.map List.length).sum
theorem ER {a:List (List Int)} {left:Int} (h0:0<=left) (h1:left<=1099511627775) (ha:a.length<=9223372036854775807) (hr: ∀r∈a,r.length<=9223372036854775807):Co a left=some (szR (Eb a) left):=by
 unfold Co
 rw[Ay (by omega) (by omega)]
 by_cases h:(a.length:Int)<=left
 ·rw[if_neg (by simp;omega)]
  have key:=FQ a (λn s i=>Bj n (a,s,i)) (λs r=>(BH r s).bind λq=>if q<0 then some (.inr (.inr (-1)))else some (.inl q)) (λs=>some (.inl s)) ?_ ?_ (n:=Ab) (by unfold Ab;omega) (left-a.length)
  ·rw[key]
   have run: ∀(l:List (List Int)) (s:Int),0<=s->s<=1099511627775->(∀r∈l,r.length<=9223372036854775807)->
     Ej (λs r=>(BH r s).bind λq=>if q<0 then some (.inr (.inr (-1)))else some (.inl q)) (λs=>some (.inl s)) l s=some (if((l.map List.length).sum:Int)<=s then(.inl (s-(l.map List.length).sum):Int⊕Int)else .inr (-1)):=by
    intro l
    induction l with
    |nil=>intro s h0 _ _;simp[Ej,h0]
    |cons r l ih=>
     intro s h0 h1 hr
     simp only[Ej]
     rw[Fu h0 (by omega) (hr r (by simp))]
     unfold szR
     by_cases h:(r.length:Int)<=s
     ·rw[if_pos h]
      simp only[Option.bind_some]
      rw[if_neg (by omega)]
      dsimp only
      rw[ih (s-r.length) (by omega) (by omega) λr hr'=>hr r (List.mem_cons_of_mem _ hr')]
      simp only[List.map_cons,List.sum_cons]
      congr 1
      by_cases h2:(((l.map List.length).sum:Nat):Int)<=s-r.length
      ·rw[if_pos h2,if_pos (by omega)];congr 1;omega
      ·rw[if_neg h2,if_neg (by omega)]
     ·rw[if_neg h]
      simp only[List.map_cons,List.sum_cons]
      rw[if_neg (by omega)]
      rfl
   rw[run a _ (by omega) (by omega) hr]
   unfold szR Eb
   by_cases h2:(((a.map List.length).sum:Nat):Int)<=left-a.length
   ·rw[if_pos h2,if_pos (by omega)]
    simp only[Option.bind_some,Option.some.injEq];omega
   ·rw[if_neg h2,if_neg (by omega)];rfl
  ·intro n s k hk
   simp only[Bj,Ae,Ah hk,Ad (show k<4611686018427387904 by omega)]
   simp[hk]
   cases BH a[k] s with
   |none=>rfl
   |some q=>by_cases hq:q<0<;>simp[hq]
  ·intro n s
   simp[Bj]
 ·rw[if_pos (by simp;omega)]
  unfold szR Eb
  rw[if_neg (by omega)]
theorem Fv {a:List Int} (ha:a.length<=1099511627775):CI a=some a:=by
 unfold CI
 rw[if_pos (by unfold lim;omega)]
 have key:=Ee a (λn out i=>Bu n (a,out,i)) id some ?_ ?_ (n:=Ab) (out:=List.replicate (Int.toNat (a.length:Int)) (0:Int)) (by simp) (by unfold Ab;omega)
 ·rw[key];simp
 ·intro n out k hk hl
  simp only[Bu,Ae,Ah hk,A7,Ad (show k<4611686018427387904 by omega)]
  simp[hk,hl]
 ·intro n out hl
  simp[Bu]
theorem ET {a:List (List Int)} (ha:a.length<=1099511627775) (hr: ∀r∈a,r.length<=1099511627775):Cp a=some a:=by
 unfold Cp
 rw[if_pos (by unfold lim;omega)]
 have key:=Ee a (λn out i=>Bk n (a,out,i)) id some ?_ ?_ (n:=Ab) (out:=List.replicate (Int.toNat (a.length:Int)) ([]:List Int)) (by simp) (by unfold Ab;omega)
 ·rw[key];simp
 ·intro n out k hk hl
  simp only[Bk,Ae,Ah hk,A7,Ad (show k<4611686018427387904 by omega)]
  simp[hk,hl,Fv (hr _ (List.getElem_mem hk))]
 ·intro n out hl
  simp[Bk]
theorem D5 {a b:List Int} (ha:a.length<=1099511627775):B6 a b=some (decide (a=b)):=by
 unfold B6
 by_cases hl:a.length=b.length
 ·rw[if_neg (by simp[hl]),eqX a b hl (λn i=>Bt n (a,b,i)) ?_ ?_ (by unfold Ab;omega)]
  ·by_cases h:a=b<;>simp[h]
  ·intro n k h1 h2
   simp only[Bt,Ae,Ah h1,Ah h2,Ad (show k<4611686018427387904 by omega)]
   by_cases h:a[k]=b[k]<;>simp[h1,h2,h]
  ·intro n
   simp[Bt]
 ·rw[if_pos (by simp;omega),decide_eq_false (λe=>hl (by rw[e]))]
theorem EK {a b:List (List Int)} (ha:a.length<=1099511627775) (hr: ∀r∈a,r.length<=1099511627775):Cn a b=some (decide (a=b)):=by
 unfold Cn
 by_cases hl:a.length=b.length
 ·rw[if_neg (by simp[hl]),eqX a b hl (λn i=>Bi n (a,b,i)) ?_ ?_ (by unfold Ab;omega)]
  ·by_cases h:a=b<;>simp[h]
  ·intro n k h1 h2
   simp only[Bi,Ae,Ah h1,Ah h2,Ad (show k<4611686018427387904 by omega),D5 (hr _ (List.getElem_mem h1))]
   by_cases h:a[k]=b[k]<;>simp[h1,h2,h]
  ·intro n
   simp[Bi]
 ·rw[if_pos (by simp;omega),decide_eq_false (λe=>hl (by rw[e]))]
theorem Gl {l:List (List Int)}: ∀ {r:List Int},r∈l->r.length<=(l.map List.length).sum:=by
 induction l with
 |nil=>intro r h;cases h
 |cons x l ih=>
  intro r h
  rw[List.map_cons,List.sum_cons]
  rcases List.mem_cons.1 h with rfl|h
  ·omega
  ·have:=ih h;omega
theorem BX (x a b:Int):BZ x a b=some (decide (a<=x/\x<=b)):=by
 unfold BZ
 by_cases h:a<=x<;>simp[h]
def AR (n:Int) (l:List Int):Bool:=l.all λx=>decide (0<=x/\x<n)
theorem DE {l:List Int} (n:Int) (hl:l.length<=1099511627775):CF l n=some (AR n l):=by
 unfold CF
 rw[El l (λm i=>Bs m (n,l,(l.length:Int),i)) (λx=>decide (0<=x/\x<n)) (.inr false) (.inl ()) ?_ ?_ (by unfold Ab;omega)]
 ·unfold AR;cases l.all (λx=>decide (0<=x/\x<n))<;>simp
 ·intro m k hk
  simp only[Bs,Ae,Ah hk,Ad (show k<4611686018427387904 by omega)]
  by_cases h1:l[k]<0
  ·simp[hk,h1,show¬0<=l[k] by omega]
  ·by_cases h2:n<=l[k]
   ·simp[hk,h1,h2,show¬l[k]<n by omega]
   ·simp[hk,h1,h2,show 0<=l[k]/\l[k]<n by omega]
 ·intro m
  simp[Bs]
theorem C5 {l:List Int} {n:Int} (hn: -9223372036854775808<n) (hn':n<=9223372036854775807) (hl:l.length<=1099511627775):BT n l=some (AR n l):=by
 unfold BT
 rw[El l (λm i=>AT m (n,l,i)) (λx=>decide (0<=x/\x<n)) (.inr false) (.inl ()) ?_ ?_ (by unfold Ab;omega)]
 ·unfold AR;cases l.all (λx=>decide (0<=x/\x<n))<;>simp
 ·intro m k hk
  simp only[AT,Ae,Ah hk,Ad (show k<4611686018427387904 by omega),BX,Ay (show-9223372036854775808<=n-1 by omega) (show n-1<=9223372036854775807 by omega)]
  by_cases h1:0<=l[k]/\l[k]<n
  ·simp[hk,h1,show l[k]<=n-1 by omega]
  ·have: ¬(0<=l[k]/\l[k]<=n-1):=by omega
   simp[hk,h1,this]
 ·intro m
  simp[AT]
theorem Ds {l:List Int} {n:Int} (k:Int) (hn: -9223372036854775808<n) (hn':n<=9223372036854775807) (hl:l.length<=1099511627775):Cs n k l=some (decide ((l.length:Int)=k)&&AR n l):=by
 unfold Cs
 rw[C5 hn hn' hl]
 by_cases h:(l.length:Int)=k<;>simp[h]
end T
open Go Go.Va
namespace T
theorem Dw {n:Int} {l:List Int} (h:AR n l=true) (k:Nat) (hk:k<l.length):0<=l[k]/\l[k]<n:=by
 have:=(List.all_eq_true.1 h) l[k] (List.getElem_mem hk)
 simpa using this
section
variable {p v:Int} {rows:List (List Int)} {y:List Int}
end
end T
open Go Go.Va
namespace T
def cmpL:List Int->List Int->Int
 | [],[]=>0
 | [],_::_=> -1
 |_::_,[]=>1
 |a::s,b::t=>if a=b then cmpL s t else if a<b then-1 else 1
theorem EJ {s t:List Int} (hs:s.length<=1099511627775): ∀(n k:Nat),k<=s.length->k<=t.length->s.length-k<n->
  (Av n (s,t,(k:Int))).bind (λs1=>match s1 with
   | .inl s2=>if decide ((s2.1.length:Int)<(s2.2.length:Int))then some (-1)else if decide ((s2.1.length:Int)>(s2.2.length:Int))then some 1 else some 0
   | .inr s3=>some s3)=some (cmpL (s.drop k) (t.drop k)):=by
 intro n
 induction n with
 |zero=>intro k _ _ h;omega
 |succ n ih=>
  intro k h1 h2 hn
  by_cases k1:k<s.length
  ·by_cases k2:k<t.length
   ·rw[List.drop_eq_getElem_cons k1,List.drop_eq_getElem_cons k2]
    simp only[Av,Ae,Ah k1,Ah k2,Ad (show k<4611686018427387904 by omega),cmpL]
    by_cases he:s[k]=t[k]
    ·have:=ih (k+1) k1 k2 (by omega)
     simp[k1,k2,he]
     simpa using this
    ·by_cases hl:s[k]<t[k]<;>simp[k1,k2,he,hl]
   ·rw[List.drop_eq_getElem_cons k1,List.drop_of_length_le (show t.length<=k by omega)]
    have e:k=t.length:=by omega
    simp only[Av,cmpL]
    simp[k1,k2,show¬s.length<t.length by omega,show t.length<s.length by omega]
  ·rw[List.drop_of_length_le (show s.length<=k by omega)]
   simp only[Av]
   by_cases k2:k<t.length
   ·rw[List.drop_eq_getElem_cons k2]
    simp[k1,cmpL,show s.length<t.length by omega]
   ·rw[List.drop_of_length_le (show t.length<=k by omega)]
    simp[k1,cmpL,show¬s.length<t.length by omega,show¬t.length<s.length by omega]
theorem CE {s t:List Int} (hs:s.length<=1099511627775):B5 s t=some (cmpL s t):=by
 have:=EJ (t:=t) hs Ab 0 (Nat.zero_le _) (Nat.zero_le _) (by unfold Ab;omega)
 rw[List.drop_zero,List.drop_zero]at this
 exact this
theorem CN {s t:List Int} (hs:s.length<=1099511627775) (hl:s.length=t.length):CM s t=some (decide (cmpL s t<0)):=by
 have key: ∀(n k:Nat),k<=s.length->s.length-k<n->(Bx n (s,t,(k:Int))).bind (λs1=>match s1 with| .inl _=>some false| .inr s3=>some s3)=some (decide (cmpL (s.drop k) (t.drop k)<0)):=by
  intro n
  induction n with
  |zero=>intro k _ h;omega
  |succ n ih=>
   intro k h1 hn
   by_cases k1:k<s.length
   ·have k2:k<t.length:=by omega
    rw[List.drop_eq_getElem_cons k1,List.drop_eq_getElem_cons k2]
    simp only[Bx,Ae,Ah k1,Ah k2,Ad (show k<4611686018427387904 by omega),cmpL]
    by_cases he:s[k]=t[k]
    ·have:=ih (k+1) k1 (by omega)
     simp[k1,k2,he]
     simpa using this
    ·by_cases hl:s[k]<t[k]<;>simp[k1,k2,he,hl]
   ·rw[List.drop_of_length_le (show s.length<=k by omega),List.drop_of_length_le (show t.length<=k by omega)]
    simp[Bx,k1,cmpL]
 have:=key Ab 0 (Nat.zero_le _) (by unfold Ab;omega)
 rw[List.drop_zero,List.drop_zero]at this
 exact this
theorem DQ {a b:List Int} (ha:a.length<=1099511627775):CK a b=some (decide (a=b)):=by
 unfold CK
 by_cases hl:a.length=b.length
 ·rw[if_neg (by simp[hl]),eqX a b hl (λn i=>Bv n (a,b,i)) ?_ ?_ (by unfold Ab;omega)]
  ·by_cases h:a=b<;>simp[h]
  ·intro n k h1 h2
   simp only[Bv,Ae,Ah h1,Ah h2,Ad (show k<4611686018427387904 by omega)]
   by_cases h:a[k]=b[k]<;>simp[h1,h2,h]
  ·intro n
   simp[Bv]
 ·rw[if_pos (by simp;omega),decide_eq_false (λe=>hl (by rw[e]))]
theorem cmpL_refl: ∀s,cmpL s s=0
 | []=>rfl
 |a::s=>by simp[cmpL,cmpL_refl s]
theorem cmpL_trans: ∀ {s t u},cmpL s t<0->cmpL t u<0->cmpL s u<0
 | [],[],_,h,_=>by simp[cmpL]at h
 | [],_::_,[],_,h=>by simp[cmpL]at h
 | [],_::_,_::_,_,_=>by simp[cmpL]
 |_::_,[],_,h,_=>by simp[cmpL]at h
 |_::_,_::_,[],_,h=>by simp[cmpL]at h
 |a::s,b::t,c::u,h1,h2=>by
  simp only[cmpL]at*
  by_cases e1:a=b
  ·rw[if_pos e1]at h1
   by_cases e2:b=c
   ·rw[if_pos e2]at h2;rw[if_pos (e1.trans e2)];exact cmpL_trans h1 h2
   ·rw[if_neg e2]at h2;rw[e1,if_neg e2];exact h2
  ·rw[if_neg e1]at h1
   have l1:a<b:=by
    by_cases h:a<b
    ·exact h
    ·rw[if_neg h]at h1;omega
   by_cases e2:b=c
   ·rw[←e2,if_neg e1,if_pos l1];omega
   ·rw[if_neg e2]at h2
    have l2:b<c:=by
     by_cases h:b<c
     ·exact h
     ·rw[if_neg h]at h2;omega
    rw[if_neg (by omega),if_pos (by omega)];omega
def B4:List (List Int)->Bool
 |a::b::l=>decide (cmpL a b<0)&&B4 (b::l)
 |_=>true
theorem Fh {a:List Int} {l:List (List Int)} (h:B4 (a::l)=true):B4 l=true:=by
 cases l with
 |nil=>rfl
 |cons b l=>simp only[B4,Bool.and_eq_true]at h;exact h.2
theorem D7: ∀ {a:List Int} {l:List (List Int)},B4 (a::l)=true-> ∀b∈l,cmpL a b<0
 |a,[],_,b,hb=>by cases hb
 |a,c::l,h,b,hb=>by
  simp only[B4,Bool.and_eq_true,decide_eq_true_eq]at h
  rcases List.mem_cons.1 hb with rfl|hb
  ·exact h.1
  ·exact cmpL_trans h.1 (D7 h.2 b hb)
theorem CR: ∀ {l:List (List Int)},B4 l=true-> ∀(i j:Nat) (hi:i<j) (hj:j<l.length),cmpL (l[i]'(by omega)) l[j]<0
 | [],_,i,j,_,hj=>by simp at hj
 |a::l,h,0,j+1,_,hj=>by
  simp only[List.getElem_cons_zero,List.getElem_cons_succ]
  exact D7 h _ (List.getElem_mem _)
 |a::l,h,i+1,j+1,hi,hj=>by
  simp only[List.getElem_cons_succ]
  exact CR (Fh h) i j (by omega) (by simpa using hj)
theorem FM {l:List (List Int)}:B4 l=true↔ ∀(i:Nat) (hi:i+1<l.length),cmpL (l[i]'(by omega)) l[i+1]<0:=by
 constructor
 ·exact λh i hi=>CR h i (i+1) (by omega) hi
 ·induction l with
  |nil=>intro _;rfl
  |cons a l ih=>
   intro h
   cases l with
   |nil=>rfl
   |cons b l=>
    simp only[B4,Bool.and_eq_true,decide_eq_true_eq]
    exact⟨h 0 (by simp),ih λi hi=>by have:=h (i+1) (by simpa using hi);simpa using this⟩
end T
open Go Go.Va
namespace T
theorem Ea {n:Int} (h0:0<=n) (h8:n<=8): ∀k:Nat,0<=n^k/\n^k<=8^k
 |0=>by simp
 |k+1=>by
  obtain⟨h1,h2⟩:=Ea h0 h8 k
  rw[Int.pow_succ,Int.pow_succ]
  exact⟨Int.mul_nonneg h1 h0,Int.mul_le_mul h2 h8 h0 (by have:(0:Int)<=8^k:=Int.le_trans h1 h2;exact this)⟩
theorem Gm: ∀k:Nat,k<=20->(8:Int)^k<=8^20:=by
 intro k hk
 have:((8^k:Nat):Int)<=((8^20:Nat):Int):=Int.ofNat_le.2 (Nat.pow_le_pow_right (by omega) hk)
 simpa using this
theorem FZ {n:Int} (h0:0<=n) (h8:n<=8) {k:Nat} (hk:k<=20):0<=n^k/\n^k<=1152921504606846976:=by
  obtain⟨h1,h2⟩:=Ea h0 h8 k
  have:=Gm k hk
  exact ⟨h1, by have e : (8 : Int) ^ 20 = 1152921504606846976 := by decide
                omega⟩
theorem FP {n:Int} (h0:0<=n) (h8:n<=8): ∀(m k j:Nat),j+k<=20->k<m->AY m (n,(k:Int),n^j)=some (n^(j+k)):=by
 intro m
 induction m with
 |zero=>intro k j _ h;omega
 |succ m ih=>
  intro k j hj hk
  simp only[AY]
  cases k with
  |zero=>simp
  |succ k=>
   have e:w64 (((k+1:Nat):Int)-1)=(k:Int):=by rw[Ay (by omega) (by omega)];omega
   have hb:=FZ h0 h8 (k:=j+1) (by omega)
   rw[Int.pow_succ]at hb
   rw[e,Ay (by omega) (by omega),←Int.pow_succ,if_pos (by simp),ih k (j+1) (by omega) (by omega)]
   congr 2<;>omega
theorem D1 {n:Int} (h0:0<=n) (h8:n<=8) {k:Nat} (hk:k<=20):BG n (k:Int)=some (n^k):=by
 unfold BG
 have:=FP h0 h8 Ab k 0 (by omega) (by unfold Ab;omega)
 rw[Int.pow_zero]at this
 rw[this];simp
def Ef (n:Int):Int->List Int->Int
 |i,[]=>i
 |i,a::l=>Ef n (i*n+a) l
def idx (n:Int) (l:List Int):Int:=Ef n 0 l
theorem Eg (n:Int): ∀(l:List Int) (i:Int),Ef n i l=i*n^l.length+Ef n 0 l
 | [],i=>by simp[Ef]
 |a::l,i=>by
  simp only[Ef,List.length_cons]
  rw[Eg n l (i*n+a),Eg n l (0*n+a),Int.pow_succ]
  simp only[Int.zero_mul,Int.zero_add]
  rw[Int.add_mul,Int.mul_assoc,Int.mul_comm n (n^l.length)]
  omega
theorem DC (n a:Int) (l:List Int):idx n (a::l)=a*n^l.length+idx n l:=by
 unfold idx
 simp only[Ef]
 rw[Eg];simp
theorem CA {n a:Int} {l:List Int}:AR n (a::l)=true↔(0<=a/\a<n)/\AR n l=true:=by
 unfold AR;simp[List.all_cons]
theorem DB {n:Int}: ∀ {l:List Int},AR n l=true->0<=idx n l/\idx n l<n^l.length
 | [],_=>by simp[idx,Ef]
 |a::l,h=>by
  obtain⟨h1,h2⟩:=CA.1 h
  obtain⟨h3,h4⟩:=DB h2
  rw[DC,List.length_cons,Int.pow_succ]
  have hp:0<=n^l.length:=by omega
  have k1:=Int.mul_nonneg h1.1 hp
  have k2:=Int.mul_le_mul_of_nonneg_right (show a+1<=n by omega) hp
  rw[Int.add_mul,Int.one_mul,Int.mul_comm n]at k2
  exact⟨by omega,by omega⟩
theorem E0 {n:Int}: ∀ {s t:List Int},AR n s=true->AR n t=true->s.length=t.length->(cmpL s t<0↔idx n s<idx n t)/\(cmpL s t=0↔idx n s=idx n t)
 | [],[],_,_,_=>by simp[cmpL,idx,Ef]
 | [],_::_,_,_,h=>by simp at h
 |_::_,[],_,_,h=>by simp at h
 |a::s,b::t,hs,ht,hl=>by
  obtain⟨s1,s2⟩:=CA.1 hs
  obtain⟨t1,t2⟩:=CA.1 ht
  have hl':s.length=t.length:=by simpa using hl
  have ih:=E0 s2 t2 hl'
  obtain⟨b1,b2⟩:=DB s2
  obtain⟨c1,c2⟩:=DB t2
  rw[DC,DC,hl']
  rw[hl']at b2
  simp only[cmpL]
  have hp:0<=n^t.length:=by omega
  rcases Int.lt_trichotomy a b with h|h|h
  ·have:=Int.mul_le_mul_of_nonneg_right (show a+1<=b by omega) hp
   rw[Int.add_mul,Int.one_mul]at this
   rw[if_neg (by omega),if_pos h]
   exact⟨by constructor<;>intro<;>omega,by constructor<;>intro<;>omega⟩
  ·subst h
   rw[if_pos rfl]
   exact⟨by rw[ih.1];constructor<;>intro<;>omega,by rw[ih.2];constructor<;>intro<;>omega⟩
  ·have:=Int.mul_le_mul_of_nonneg_right (show b+1<=a by omega) hp
   rw[Int.add_mul,Int.one_mul]at this
   rw[if_neg (by omega),if_neg (by omega)]
   exact⟨by constructor<;>intro<;>omega,by constructor<;>intro<;>omega⟩
theorem D8 {n:Int} {k:Nat} {l:List (List Int)} (hi:B4 l=true) (hv: ∀t∈l,t.length=k/\AR n t=true):(l.length:Int)<=n^k∨l= []:=by
 have key: ∀(i:Nat) (h:i<l.length),(i:Int)<=idx n l[i]:=by
  intro i
  induction i with
  |zero=>intro h;exact(DB (hv _ (List.getElem_mem h)).2).1
  |succ i ih=>
   intro h
   have h1:=ih (by omega)
   obtain⟨l1,b1⟩:=hv _ (List.getElem_mem (show i<l.length by omega))
   obtain⟨l2,b2⟩:=hv _ (List.getElem_mem h)
   have:=(E0 b1 b2 (l1.trans l2.symm)).1.1 (CR hi i (i+1) (by omega) h)
   omega
 cases hn:l.length with
 |zero=>exact .inr (List.length_eq_zero_iff.1 hn)
 |succ m=>
  left
  have h:=key m (by omega)
  obtain⟨l1,b1⟩:=hv _ (List.getElem_mem (show m<l.length by omega))
  have:=(DB b1).2
  rw[l1]at this
  omega
theorem Gh {list:List (List Int)} {t:List Int} {k:Nat} (hl:list.length<=1099511627775) (hk:k<=1099511627775) (hv: ∀u∈list,u.length=k) (ht:t.length=k) (hi:B4 list=true): ∀(m a b:Nat),a<=b->b<=list.length->b-a<m->
  (∀i (h:i<list.length),i<a->cmpL list[i] t<0)->(∀i (h:i<list.length),b<=i-> ¬cmpL list[i] t<0)->
  ∃c:Nat,Bf m (list,t,(a:Int),(b:Int))=some (list,t,(c:Int))/\c<=list.length/\(∀i (h:i<list.length),i<c->cmpL list[i] t<0)/\(∀i (h:i<list.length),c<=i-> ¬cmpL list[i] t<0):=by
 intro m
 induction m with
 |zero=>intro a b _ _ h;omega
 |succ m ih=>
  intro a b hab hb hm h1 h2
  simp only[Bf]
  by_cases hlt:a<b
  ·have emid:w64 (Int.tdiv (w64 ((a:Int)+b)) 2)=(((a+b)/2:Nat):Int):=by
    rw[Ay (x:=(a:Int)+b) (by omega) (by omega),Int.tdiv_eq_ediv_of_nonneg (by omega),Ay (by omega) (by omega)];omega
   have hmid:(a+b)/2<list.length:=by omega
   rw[emid]
   have hless:=CN (s:=list[(a+b)/2]) (t:=t) (by rw[hv _ (List.getElem_mem hmid)];omega) (by rw[hv _ (List.getElem_mem hmid),ht])
   simp only[Ae,Ah hmid,hless,Option.bind_some,Ad (show(a+b)/2<4611686018427387904 by omega)]
   by_cases hc:cmpL list[(a+b)/2] t<0
   ·obtain⟨c,e,k1,k2,k3⟩:=ih ((a+b)/2+1) b (by omega) hb (by omega) (λi h hi'=>by
     rcases Nat.lt_or_ge i ((a+b)/2)with h'|h'
     ·exact cmpL_trans (CR hi i ((a+b)/2) h' hmid) hc
     ·have:i=(a+b)/2:=by omega
      subst this;exact hc) h2
    exact⟨c,by simpa[hlt,hmid,hc]using e,k1,k2,k3⟩
   ·obtain⟨c,e,k1,k2,k3⟩:=ih a ((a+b)/2) (by omega) (by omega) (by omega) h1 (λi h hi' hneg=>by
     rcases Nat.lt_or_ge ((a+b)/2) i with h'|h'
     ·exact hc (cmpL_trans (CR hi ((a+b)/2) i h' h) hneg)
     ·have:i=(a+b)/2:=by omega
      subst this;exact hc hneg)
    exact⟨c,by simpa[hlt,hmid,hc]using e,k1,k2,k3⟩
  ·have:a=b:=by omega
   subst this
   exact⟨a,by simp,hb,h1,h2⟩
theorem DU {list:List (List Int)} {t:List Int} {k:Nat} (hl:list.length<=1099511627774) (hk:k<=1099511627775) (hv: ∀u∈list,u.length=k) (ht:t.length=k) (hi:B4 list=true):
  ∃c:Nat,CO list t=some ((c:Int),decide (t∈list))/\c<=list.length/\(∀i (h:i<list.length),i<c->cmpL list[i] t<0)/\(∀i (h:i<list.length),c<=i-> ¬cmpL list[i] t<0):=by
 obtain⟨c,e,k1,k2,k3⟩:=Gh (by omega) hk hv ht hi Ab 0 list.length (Nat.zero_le _) (Nat.le_refl _) (by unfold Ab;omega) (λi _ h=>by omega) (λi h h'=>by omega)
 refine⟨c,?_,k1,k2,k3⟩
 unfold CO
 have e':Bf Ab (list,t,0,(list.length:Int))=some (list,t,(c:Int)):=e
 rw[e']
 simp only[Option.bind_some]
 by_cases hc:c<list.length
 ·have hs:=DQ (a:=list[c]) (b:=t) (by rw[hv _ (List.getElem_mem hc)];omega)
  simp only[Ae,Ah hc,hs,Option.bind_some]
  have:decide (list[c]=t)=decide (t∈list):=by
   by_cases h:list[c]=t
   ·rw[decide_eq_true h,decide_eq_true (h▸List.getElem_mem hc)]
   ·rw[decide_eq_false h]
    symm;rw[decide_eq_false_iff_not]
    intro hm
    obtain⟨j,hj,rfl⟩:=List.mem_iff_getElem.1 hm
    have hne:j≠c:=λe=>h (by subst e;rfl)
    rcases Nat.lt_or_ge j c with hlt|hge
    ·have:=k2 j hj hlt;rw[cmpL_refl]at this;omega
    ·exact k3 c hc (Nat.le_refl _) (CR hi c j (by omega) hj)
  simp[hc,this]
 ·have:decide (t∈list)=false:=by
   rw[decide_eq_false_iff_not]
   intro hm
   obtain⟨j,hj,rfl⟩:=List.mem_iff_getElem.1 hm
   have:=k2 j hj (by omega);rw[cmpL_refl]at this;omega
  rw[if_neg (by simp;omega),this]
end T
open Go Go.Va
namespace T
def G4 (n:Int):Bool:=decide (1<=n/\n<=8)
def Hf (n k:Int) (t:List Int):Bool:=decide ((t.length:Int)=k)&&AR n t
def GO (n k:Int) (ts:List (List Int)):Bool:=G4 n&&decide (1<=k/\k<=4)&&ts.all (Hf n k)&&B4 ts
theorem FK {α:Type} {l:List α} {i:Nat} {d:α} (h:i<l.length):l.getD i d=l[i]:=by simp[h]
end T
open Go Go.Va
namespace T
structure SetOk (p:Int) (k:Nat) (ts:List (List Int)):Prop where
 hp:2<=p/\p<=7
 hk:k<=4
 len: ∀t∈ts,t.length=k
 el: ∀t∈ts,AR p t=true
 inc:B4 ts=true
section
variable {p:Int} {k:Nat} {ts:List (List Int)}
theorem SetOk.get (h:SetOk p k ts) {t:List Int} (ht:t∈ts) {i:Nat} (hi:i<k):i<t.length/\0<=t.getD i 0/\t.getD i 0<p:=by
 have hl:=h.len t ht
 have:=Dw (h.el t ht) i (by omega)
 rw[FK (by omega)]
 exact⟨by omega,this⟩
end
end T
set_option linter.unusedVariables false
open Go Go.Va
namespace T
def BR (a:Int×(List (List Int))) (left:Int):Option (Int):=
 (Co a.2 left).bind λr1=>
 if decide (r1<0)then
 some (-1)
 else
 some r1
def BD (a:Int×(List (List Int))):Option ((Int×(List (List Int)))):=
 (Cp a.2).bind λr1=>
 some (a.1,r1)
def AU:Nat->(Int×(Int×(List (List Int)))×Int)->Option ((Unit)⊕(Bool))
 |0,_=>none
 |n+1,(n_,r,i)=>
 if decide (i<(r.2.length:Int))then
 if inb i r.2 then
 (Cs n_ r.1 (gd r.2 i [])).bind λr3=>
 if !r3 then
 some (.inr false)
 else
 if decide (i>0)then
 if inb (w64 (i-1)) r.2 then
 if inb i r.2 then
 (CM (gd r.2 (w64 (i-1)) []) (gd r.2 i [])).bind λr4=>
 if !r4 then
 some (.inr false)
 else
 AU n (n_,(r.1,r.2),w64 (i+1))
 else none
 else none
 else
 AU n (n_,(r.1,r.2),w64 (i+1))
 else none
 else
 some (.inl ())
def Cq (n_:Int) (r:Int×(List (List Int))):Option (Bool):=
 (BZ r.1 1 3).bind λr1=>
  if !r1 then
   some false
  else
   (BG n_ r.1).bind λr2=>
    if decide ((r.2.length:Int)>r2)then
     some false
    else
     (AU Ab (n_,(r.1,r.2),0)).bind λs3=>
      match s3 with
      | .inl s4=>
       some true
      | .inr s5=>
       some s5
def B3 (l:List Int):Option ((List Int)):=
 if([]:List Int).length+l.length<=lim then
 some ([]++l)
 else none
def BU (n_:Int):Option (Bool):=
 if decide (n_≥1)then
 some (decide (n_<=4))
 else
 some false
def AB:Nat->(Int×(Int×(List (List Int)))×(List (List Int))×Int×Int)->Option ((Unit)⊕(Bool))
 |0,_=>none
 |n+1,(n_,r,t16,t17,t18)=>
 if decide (t18<t17)then
 if inb t18 t16 then
 if((gd t16 t18 []).length:Int) !=r.1 then
 some (.inr false)
 else
 (CF (gd t16 t18 []) n_).bind λr1=>
 if !r1 then
 some (.inr false)
 else
 if decide (t18>0)then
 if inb (w64 (t18-1)) r.2 then
 (B5 (gd r.2 (w64 (t18-1)) []) (gd t16 t18 [])).bind λr2=>
 if decide (r2≥0)then
 some (.inr false)
 else
 AB n (n_,(r.1,r.2),t16,t17,w64 (t18+1))
 else none
 else
 AB n (n_,(r.1,r.2),t16,t17,w64 (t18+1))
 else none
 else
 some (.inl ())
def BQ (n_:Int) (r:Int×(List (List Int))):Option (Bool):=
 if decide (r.1<1)then
  some false
 else
  if decide (r.1>3)then
   some false
  else
   (AB Ab (n_,(r.1,r.2),r.2,(r.2.length:Int),0)).bind λs1=>
    match s1 with
    | .inl s2=>
     some true
    | .inr s3=>
     some s3
def BC (a:Int×(List (List Int))) (b:Int×(List (List Int))):Option (Bool):=
 if a.1 !=b.1 then
 some false
 else
 (Cn a.2 b.2).bind λr1=>
 if !r1 then
 some false
 else
 some true
def Bc:Nat->((List Int)×Int×Int)->Option ((List Int)×Int)
 |0,_=>none
 |n+1,(a,k,i)=>
 if decide (i<(a.length:Int))then
 if inb i a then
 Bc n (stt a i k,w64 (k+1),w64 (i+1))
 else none
 else
 some (a,k)
def BL (a:List Int) (k:Int):Option ((List Int)×Int):=
 (Bc Ab (a,k,0)).bind λs1=>
 some (s1.1,s1.2)
def AX:Nat->((List (List Int))×Int×Int)->Option ((List (List Int))×Int)
 |0,_=>none
 |n+1,(a,k,i)=>
 if decide (i<(a.length:Int))then
 if inb i a then
 (BL (gd a i []) k).bind λr1=>
 AX n (stt a i r1.1,r1.2,w64 (i+1))
 else none
 else
 some (a,k)
def B2 (a:List (List Int)) (k:Int):Option ((List (List Int))×Int):=
 (AX Ab (a,k,0)).bind λs1=>
 some (s1.1,s1.2)
def Bb:Nat->((List Int)×Int×Int)->Option ((Int)⊕(Int))
 |0,_=>none
 |n+1,(a,k,i)=>
 if decide (i<(a.length:Int))then
 if inb i a then
 if(gd a i 0) !=k then
 some (.inr (-1))
 else
 Bb n (a,w64 (k+1),w64 (i+1))
 else none
 else
 some (.inl k)
def Cc (a:List Int) (k:Int):Option (Int):=
 (Bb Ab (a,k,0)).bind λs1=>
  match s1 with
  | .inl s2=>
   some s2
  | .inr s3=>
   some s3
end T
open Go Go.Va
namespace T
theorem szX {α:Type} (xs:List α) (f:α->Int->Option Int) (tot:α->Nat) (L:Nat->Int->Int->Option (Int⊕Int))
  (hf: ∀a∈xs,∀s,0<=s->s<=1099511627775->f a s=some (szR (tot a) s))
  (hs: ∀n s (k:Nat) (hk:k<xs.length),L (n+1) s k=(f xs[k] s).bind λq=>if q<0 then some (.inr (-1))else L n q ((k+1:Nat):Int))
  (he: ∀n s,L (n+1) s (xs.length:Nat)=some (.inl s)): ∀(n k:Nat) (s:Int),k<=xs.length->xs.length-k<n->0<=s->s<=1099511627775->
   L n s k=some (if(((xs.drop k).map tot).sum:Int)<=s then .inl (s-((xs.drop k).map tot).sum)else .inr (-1)):=by
 intro n
 induction n with
 |zero=>intro k s _ h;omega
 |succ n ih=>
  intro k s hk hn h0 h1
  rcases Nat.lt_or_ge k xs.length with hlt|hge
  ·rw[hs n s k hlt,hf _ (List.getElem_mem hlt) s h0 h1,List.drop_eq_getElem_cons hlt,List.map_cons,List.sum_cons]
   unfold szR
   simp only[Option.bind_some]
   by_cases h:(tot xs[k]:Int)<=s
   ·rw[if_pos h,if_neg (by omega),ih (k+1) _ hlt (by omega) (by omega) (by omega)]
    congr 1
    by_cases h2:((((xs.drop (k+1)).map tot).sum:Nat):Int)<=s-tot xs[k]
    ·rw[if_pos h2,if_pos (by omega)];congr 1;omega
    ·rw[if_neg h2,if_neg (by omega)]
   ·rw[if_neg h,if_pos (by omega),if_neg (by omega)]
  ·have:k=xs.length:=by omega
   subst this
   rw[he,List.drop_length];simp[h0]
theorem He {α:Type} (xs:List α) (f:α->Int->Option Int) (tot:α->Nat) (L:Nat->Int->Int->Option (Int⊕Int)) (g:Option Int) {left:Int} (h0:0<=left) (h1:left<=1099511627775)
  (hf: ∀a∈xs,∀s,0<=s->s<=1099511627775->f a s=some (szR (tot a) s)) (hx:xs.length<=9223372036854775807)
  (hs: ∀n s (k:Nat) (hk:k<xs.length),k<4611686018427387904->L (n+1) s k=(f xs[k] s).bind λq=>if q<0 then some (.inr (-1))else L n q ((k+1:Nat):Int))
  (he: ∀n s,L (n+1) s (xs.length:Nat)=some (.inl s))
  (hg:g=if decide (w64 (left-(xs.length:Int))<0)then some (-1)else(L Ab (w64 (left-(xs.length:Int))) 0).bind λs1=>match s1 with| .inl s2=>some s2| .inr s3=>some s3):
  g=some (szR (xs.length+(xs.map tot).sum) left):=by
 rw[hg,Ay (by omega) (by omega)]
 by_cases h:(xs.length:Int)<=left
 ·rw[if_neg (by simp;omega)]
  have:=szX xs f tot L hf (λn s k hk=>hs n s k hk (by omega)) he Ab 0 (left-xs.length) (by omega) (by unfold Ab;omega) (by omega) (by omega)
  rw[show((0:Nat):Int)=0 from rfl,List.drop_zero]at this
  rw[this]
  unfold szR
  by_cases h2:(((xs.map tot).sum:Nat):Int)<=left-xs.length
  ·rw[if_pos h2,if_pos (by omega)]
   simp only[Option.bind_some,Option.some.injEq];omega
  ·rw[if_neg h2,if_neg (by omega)];rfl
 ·rw[if_pos (by simp;omega)]
  unfold szR
  rw[if_neg (by omega)]
theorem E7 {α:Type} (tot:α->Nat): ∀ {l:List α} {a:α},a∈l->tot a<=(l.map tot).sum
 |x::l,a,h=>by
  rw[List.map_cons,List.sum_cons]
  rcases List.mem_cons.1 h with rfl|h
  ·omega
  ·have:=E7 tot h;omega
theorem toX {α:Type} (xs:List α) (f:α->Option α) (d:α) (L:Nat->List α->Int->Option (List α)) (g:Option (List α)) (hx:xs.length<=1048576) (hf: ∀a∈xs,f a=some a)
  (hs: ∀n (out:List α) (k:Nat) (hk:k<xs.length),out.length=xs.length->k<4611686018427387904->L (n+1) out k=(f xs[k]).bind λr=>L n (out.set k r) ((k+1:Nat):Int))
  (he: ∀n out,out.length=xs.length->L (n+1) out (xs.length:Nat)=some out)
  (hg:g=if 0<=(xs.length:Int)/\(xs.length:Int)<=(xs.length:Int)/\(xs.length:Int)<=lim then(L Ab (List.replicate (Int.toNat (xs.length:Int)) d) 0).bind some else none):g=some xs:=by
 rw[hg,if_pos (by unfold lim;omega)]
 have key:=Ee xs L id some (λn out k hk hl=>by rw[hs n out k hk hl (by omega),hf _ (List.getElem_mem hk)];rfl) he (n:=Ab) (out:=List.replicate (Int.toNat (xs.length:Int)) d) (by simp) (by unfold Ab;omega)
 rw[key];simp
theorem G8 {α:Type} [DecidableEq α] (a b:List α) (f:α->α->Option Bool) (L:Nat->Int->Option (Unit⊕Bool)) (g:Option Bool) (hx:a.length<=1048576) (hf: ∀x∈a,∀y,f x y=some (decide (x=y)))
  (hs: ∀n (k:Nat) (h1:k<a.length) (h2:k<b.length),k<4611686018427387904->L (n+1) k=(f a[k] b[k]).bind λr=>if !r then some (.inr false)else L n ((k+1:Nat):Int))
  (he: ∀n,L (n+1) (a.length:Nat)=some (.inl ()))
  (hg:g=if(a.length:Int) !=(b.length:Int)then some false else(L Ab 0).bind λs1=>match s1 with| .inl _=>some true| .inr s3=>some s3):g=some (decide (a=b)):=by
 rw[hg]
 by_cases hl:a.length=b.length
 ·rw[if_neg (by simp[hl]),eqX a b hl L (λn k h1 h2=>?_) he (by unfold Ab;omega)]
  ·by_cases h:a=b<;>simp[h]
  ·rw[hs n k h1 h2 (by omega),hf _ (List.getElem_mem h1)]
   by_cases h:a[k]=b[k]<;>simp[h]
 ·rw[if_pos (by simp;omega),decide_eq_false (λe=>hl (by rw[e]))]
abbrev Con:=List Int×Int×List (List Int)
abbrev Net:=Int×Int×List Con
def ED (a:List (List Int)):Prop:=a.length<=1048576/\ ∀r∈a,r.length<=1048576
def Df (n:Int) (r:Int×List (List Int)):Bool:=decide (1<=r.1/\r.1<=3)&&(r.2.all λt=>decide ((t.length:Int)=r.1)&&AR n t)&&B4 r.2
def DY (n:Int) (r:Int×List (List Int)) (k:Nat):Bool:=decide (((r.2.getD k []).length:Int)=r.1)&&AR n (r.2.getD k [])&&(decide (k=0)||decide (cmpL (r.2.getD (k-1) []) (r.2.getD k [])<0))
theorem Am {α:Type} {l:List α} {k:Nat} {d:α} (h:k<l.length):l.getD k d=l[k]:=by simp[List.getD_eq_getElem?_getD,h]
theorem Ec {n ar:Int} {ts:List (List Int)}:(List.range ts.length).all (DY n (ar,ts))=((ts.all λt=>decide ((t.length:Int)=ar)&&AR n t)&&B4 ts):=by
 rw[Bool.eq_iff_iff,Bool.and_eq_true,List.all_eq_true,List.all_eq_true,FM]
 unfold DY
 constructor
 ·intro h
  refine⟨λt ht=>?_,λi hi=>?_⟩
  ·obtain⟨k,hk,rfl⟩:=List.getElem_of_mem ht
   have:=h k (List.mem_range.2 hk)
   rw[Am hk]at this
   simp only[Bool.and_eq_true]at this
   rw[Bool.and_eq_true];exact this.1
  ·have:=h (i+1) (List.mem_range.2 hi)
   rw[Am hi,Nat.add_sub_cancel,Am (show i<ts.length by omega)]at this
   simp at this
   exact this.2
 ·rintro ⟨h1,h2⟩ k hk
  have hk:=List.mem_range.1 hk
  have e:=h1 _ (List.getElem_mem hk)
  rw[Am hk]
  rw[Bool.and_eq_true]at e
  rw[Bool.and_eq_true,Bool.and_eq_true]
  refine⟨e,?_⟩
  cases k with
  |zero=>simp
  |succ i=>
   have:=h2 i hk
   rw[Nat.add_sub_cancel,Am (show i<ts.length by omega)]
   simp[this]
theorem C3 {n:Int} {r:Int×List (List Int)} (h:ED r.2):BQ n r=some (Df n r):=by
 obtain⟨ar,ts⟩:=r
 unfold BQ Df
 by_cases h1:ar<1
 ·simp[h1,show¬1<=ar by omega]
 ·by_cases h2:ar>3
  ·simp[h1,h2,show¬ar<=3 by omega]
  ·rw[if_neg (by simpa using h1),if_neg (by simpa using h2)]
   have key:=G9 ts.length (λm (_:Unit) i=>AB m (n,(ar,ts),ts,(ts.length:Int),i)) (λ_=>()) (DY n (ar,ts)) (r:=some (.inr false)) (e:=some (.inl ())) (λm k hk=>?_) (λm=>?_) (n:=Ab) (by unfold Ab;have:=h.1;simp at this;omega)
   ·rw[key,Ec]
    simp only[show(1<=ar/\ar<=3)=True by simp;omega,decide_true,Bool.true_and]
    cases (ts.all λt=>decide ((t.length:Int)=ar)&&AR n t)&&B4 ts<;>simp
   ·have hx:=h.2 ts[k] (List.getElem_mem hk)
    have hk':=h.1
    simp only at hk'
    simp only[AB,Ae,Ah hk,Ad (show k<4611686018427387904 by omega),DE n (show ts[k].length<=1099511627775 by omega),DY,Am hk]
    by_cases hl:(ts[k].length:Int)=ar
    ·cases hb:AR n ts[k]with
     |false=>simp[hk,hl]
     |true=>
      cases k with
      |zero=>simp[hk,hl]
      |succ i=>
       have hi:i<ts.length:=by omega
       have hx2:=h.2 ts[i] (List.getElem_mem hi)
       have e:w64 (((i+1:Nat):Int)-1)=(i:Int):=by rw[Ay (by omega) (by omega)];omega
       simp only[e,Ae,Ah hi,Nat.add_sub_cancel,Am hi,CE (show ts[i].length<=1099511627775 by omega)]
       by_cases hc:cmpL ts[i] ts[i+1]<0
       ·simp[hk,hl,hi,hc,show¬cmpL ts[i] ts[i+1]≥0 by omega];omega
       ·simp[hk,hl,hi,hc,show cmpL ts[i] ts[i+1]≥0 by omega];omega
    ·simp[hk,hl]
   ·simp[AB]
theorem Dq {n:Int} {r:Int×List (List Int)} (h:ED r.2) (hn:1<=n/\n<=8):Cq n r=some (Df n r):=by
 obtain⟨ar,ts⟩:=r
 unfold Cq Df
 rw[BX]
 by_cases h1:1<=ar/\ar<=3
 ·simp only[h1,and_self,decide_true,Option.bind_some,Bool.not_true,Bool.false_eq_true,if_false,Bool.true_and]
  obtain⟨m,rfl⟩: ∃m:Nat,ar=m:=⟨ar.toNat,by omega⟩
  rw[D1 (by omega) (by omega) (by omega)]
  simp only[Option.bind_some]
  have key:=Ha ts.length (λm' (_:Unit) i=>AU m' (n,((m:Int),ts),i)) (λ_=>()) (DY n ((m:Int),ts)) (r:=some (.inr false)) (e:=some (.inl ())) (λm' k hk hb0=>?_) (λm' _=>?_) (n:=Ab) (by unfold Ab;have:=h.1;simp at this;omega)
  ·by_cases hc:(ts.length:Int)>n^m
   ·rw[if_pos (by simpa using hc)]
    by_cases hv:((ts.all λt=>decide ((t.length:Int)=m)&&AR n t)&&B4 ts)=true
    ·rw[Bool.and_eq_true,List.all_eq_true]at hv
     rcases D8 (k:=m) hv.2 λt ht=>by have:=hv.1 t ht;simp at this;exact⟨by omega,this.2⟩with h2|h2
     ·omega
     ·subst h2
      have:=FZ (n:=n) (by omega) (by omega) (k:=m) (by omega)
      simp at hc;omega
    ·simp only[Bool.not_eq_true]at hv;rw[hv]
   ·rw[if_neg (by simpa using hc),key,Ec]
    cases (ts.all λt=>decide ((t.length:Int)=m)&&AR n t)&&B4 ts<;>simp
  ·have hx:=h.2 ts[k] (List.getElem_mem hk)
   have hk':=h.1
   simp only at hk'
   simp only[AU,Ae,Ah hk,Ad (show k<4611686018427387904 by omega),Ds (n:=n) _ (by omega) (by omega) (show ts[k].length<=1099511627775 by omega),DY,Am hk]
   by_cases hl:(ts[k].length:Int)=m
   ·cases hb:AR n ts[k]with
    |false=>simp[hk,hl]
    |true=>
     cases k with
     |zero=>simp[hk,hl]
     |succ i=>
      have hi:i<ts.length:=by omega
      have hx2:=h.2 ts[i] (List.getElem_mem hi)
      have e:w64 (((i+1:Nat):Int)-1)=(i:Int):=by rw[Ay (by omega) (by omega)];omega
      simp only[e,Ae,Ah hi,Nat.add_sub_cancel,Am hi]
      have hb1:=hb0 i (by omega)
      simp only[DY,Am hi,Bool.and_eq_true,decide_eq_true_eq]at hb1
      rw[CN (s:=ts[i]) (t:=ts[i+1]) (by omega) (by have:=hb1.1.1;omega)]
      by_cases hc:cmpL ts[i] ts[i+1]<0
      ·simp[hk,hl,hi,hc];omega
      ·simp[hk,hl,hi,hc];omega
   ·simp[hk,hl]
  ·simp[AU]
 ·have: ¬(1<=ar/\ar<=3):=h1
  simp[this]
end T
open Go Go.Va
namespace T
def g0 (l:List Int) (i:Nat):Int:=l.getD i 0
section
variable {v n up:Int} {c:Con} {vals:List Int}
theorem CX {l:List Int} (h:l.length<=1099511627775):B3 l=some l:=by
 unfold B3
 rw[if_pos (by unfold lim;simp;omega)];simp
end
end T
open Go Go.Va
namespace T
abbrev Dom:=List (List Bool)
def mk (bs:List Bool):List Int:=((List.range bs.length).filter λi=>bs.getD i false).map λi:Nat=>(i:Int)
def d2 (d:Dom) (v x:Nat):Bool:=(d.getD v []).getD x false
theorem Ao {α:Type} {l:List α} {i j:Nat} {y d:α}:(l.set i y).getD j d=if i=j/\j<l.length then y else l.getD j d:=by
 simp only[List.getD_eq_getElem?_getD,List.getElem?_set]
 by_cases h:i=j
 ·subst h
  by_cases h2:i<l.length
  ·simp[h2]
  ·simp[h2]
 ·simp[h]
end T
open Go Go.Va
namespace T
abbrev ASt:=Dom×List (Int×Int×Int)
section
variable {a:Net} {K:Nat} {c:Con}
end
end T
open Go Go.Va
namespace T
def mkL {α:Type} (f:α->Int->α×Int):List α->Int->List α×Int
 | [],k=>([],k)
 |x::l,k=>((f x k).1::(mkL f l (f x k).2).1,(mkL f l (f x k).2).2)
theorem Ey {α:Type} (f:α->Int->α×Int): ∀(l:List α) (x:α) (k:Int),mkL f (l++ [x]) k=((mkL f l k).1++ [(f x (mkL f l k).2).1],(f x (mkL f l k).2).2)
 | [],x,k=>by simp[mkL]
 |y::l,x,k=>by
  simp only[List.cons_append,mkL]
  rw[Ey f l x]
theorem CT {α:Type} (f:α->Int->α×Int): ∀(l:List α) (k:Int),(mkL f l k).1.length=l.length
 | [],_=>rfl
 |x::l,k=>by simp[mkL,CT f l]
theorem CS {α:Type} {f:α->Int->α×Int} {w:α->Nat}: ∀(l:List α) (k:Int),(∀x∈l,∀k,(f x k).2=k+w x)->(mkL f l k).2=k+((l.map w).sum:Nat)
 | [],k,_=>by simp[mkL]
 |x::l,k,h=>by
  simp only[mkL,List.map_cons,List.sum_cons]
  rw[CS l _ λy hy=>h y (List.mem_cons_of_mem _ hy),h x (by simp)];push_cast;omega
theorem FT {α β:Type} (N:Nat) (L:Nat->List α->Int->Int->Option β) (f:α->Int->α×Int) (w:α->Nat) (B:Int) (fin:List α->Int->Option β) (xs:List α) (k0:Int) (hN:xs.length=N) (hw: ∀x∈xs,∀k,(f x k).2=k+w x)
  (h0:0<=k0) (hB:k0+((xs.map w).sum:Nat)<=B)
  (hs: ∀n (a:List α) (k:Int) (i:Nat) (hi:i<N) (hl:a.length=N),a[i]'(by omega)∈xs->0<=k->k+w (a[i]'(by omega))<=B->L (n+1) a k i=L n (a.set i (f (a[i]'(by omega)) k).1) (f (a[i]'(by omega)) k).2 ((i+1:Nat):Int))
  (he: ∀n a k,a.length=N->L (n+1) a k (N:Nat)=fin a k) {n:Nat} (hn:N<n):L n xs k0 0=fin (mkL f xs k0).1 (mkL f xs k0).2:=by
 have far: ∀i,i<=N->(mkL f (xs.take i) k0).2=k0+(((xs.take i).map w).sum:Nat):=λi _=>CS _ _ λx hx=>hw x (List.mem_of_mem_take hx)
 have:=Cw N (λn (s:List α×Int) i=>L n s.1 s.2 i) (λi=>((mkL f (xs.take i) k0).1++xs.drop i,(mkL f (xs.take i) k0).2)) (r:=fin (mkL f xs k0).1 (mkL f xs k0).2) (λn i hi=>?_) (λn=>?_) hn
 ·simpa[mkL]using this
 ·have hix:i<xs.length:=by omega
  have hlen:(mkL f (xs.take i) k0).1.length=i:=by rw[CT];simp;omega
  have hl2:((mkL f (xs.take i) k0).1++xs.drop i).length=N:=by simp[hlen];omega
  have hget:((mkL f (xs.take i) k0).1++xs.drop i)[i]'(by omega)=xs[i]:=by
   rw[List.getElem_append_right (by omega)];simp[hlen]
  have hsum:(((xs.take i).map w).sum:Nat)+w xs[i]<=(xs.map w).sum:=by
   have h1:xs=xs.take i++xs[i]::xs.drop (i+1):=by rw[←List.drop_eq_getElem_cons hix,List.take_append_drop]
   have h2:(xs.map w).sum=((xs.take i).map w).sum+(w xs[i]+((xs.drop (i+1)).map w).sum):=by
    conv=>lhs;rw[h1]
    rw[List.map_append,List.sum_append,List.map_cons,List.sum_cons]
   omega
  have hf:=far i (by omega)
  dsimp only
  rw[hs n _ _ i hi hl2 (by rw[hget];exact List.getElem_mem hix) (by omega) (by rw[hget,hf];omega),hget,List.take_succ_eq_append_getElem hix,Ey]
  congr 1
  rw[List.set_append_right _ _ (by omega),hlen,Nat.sub_self,List.drop_eq_getElem_cons hix,List.set_cons_zero,List.append_assoc];rfl
 ·dsimp only
  rw[List.take_of_length_le (by omega),List.drop_of_length_le (by omega),List.append_nil]
  exact he n _ _ (by rw[CT];exact hN)
theorem Gv {α:Type} (f:α->Int->α×Int) (h:α->Int->Option Int) (w:α->Nat) (B:Int): ∀(xs:List α) (k0:Int) (L:Nat->Int->Int->Option (Int⊕Int)) (j:Nat),(∀x∈xs,∀k,(f x k).2=k+w x)->0<=k0->k0+((xs.map w).sum:Nat)<=B->
  (∀x∈xs,∀k,0<=k->k+w x<=B->h (f x k).1 k=some (f x k).2)->
  (∀n k (i:Nat) (hi:i<xs.length),0<=k->k+w xs[i]<=B->L (n+1) k ((j+i:Nat):Int)=(h ((mkL f xs k0).1[i]'(by rw[CT];exact hi)) k).bind λq=>if q<0 then some (.inr (-1))else L n q ((j+i+1:Nat):Int))->
  (∀n k,L (n+1) k ((j+xs.length:Nat):Int)=some (.inl k))-> ∀n,xs.length<n->L n k0 (j:Int)=some (.inl (mkL f xs k0).2)
 | [],k0,L,j,_,_,_,_,_,he,n,hn=>by
  obtain⟨n,rfl⟩: ∃m,n=m+1:=⟨n-1,by simp at hn;omega⟩
  have:=he n k0
  simpa[mkL]using this
 |x::xs,k0,L,j,hw,h0,hB,hh,hs,he,n,hn=>by
  obtain⟨n,rfl⟩: ∃m,n=m+1:=⟨n-1,by simp at hn;omega⟩
  rw[List.map_cons,List.sum_cons]at hB
  have hx:=hw x (by simp) k0
  have h1:=hs n k0 0 (by simp) h0 (by simp only[List.getElem_cons_zero];omega)
  simp only[Nat.add_zero,mkL,List.getElem_cons_zero]at h1
  rw[h1,hh x (by simp) k0 h0 (by omega)]
  simp only[Option.bind_some]
  rw[if_neg (by omega)]
  have:=Gv f h w B xs (f x k0).2 L (j+1) (λy hy=>hw y (List.mem_cons_of_mem _ hy)) (by omega) (by rw[hx];omega) (λy hy=>hh y (List.mem_cons_of_mem _ hy))
   (λn k i hi hk0 hkB=>by
    have:=hs n k (i+1) (by simpa using hi) hk0 (by simpa using hkB)
    simp only[mkL,List.getElem_cons_succ]at this
    rw[show j+1+i=j+(i+1) by omega];exact this)
   (λn k=>by have:=he n k;rw[List.length_cons]at this;rw[show j+1+xs.length=j+(xs.length+1) by omega];exact this) n (by simp at hn;omega)
  exact this
abbrev BM:Int:=1152921504606846976
def Fj (_:Int) (k:Int):Int×Int:=(k,k+1)
def Cj (l:List Int) (k:Int):List Int×Int:=mkL Fj l k
def DI (l:List (List Int)) (k:Int):List (List Int)×Int:=mkL Cj l k
theorem Dt {α:Type}: ∀(l:List α),(l.map λ_=>1).sum=l.length
 | []=>rfl
 |_::l=>by rw[List.map_cons,List.sum_cons,Dt l,List.length_cons];omega
theorem Dd (l:List Int) (k:Int):(Cj l k).2=k+(l.length:Nat):=by
 unfold Cj
 rw[CS (w:=λ_=>1) l k λ_ _ _=>rfl,Dt]
theorem EM (l:List (List Int)) (k:Int):(DI l k).2=k+((l.map List.length).sum:Nat):=by
 unfold DI
 rw[CS (w:=List.length) l k λx _ k=>Dd x k]
theorem Dm {l:List Int} {k:Int} (hl:l.length<=1048576) (h0:0<=k) (hB:k+l.length<=BM):BL l k=some (Cj l k):=by
 unfold BL
 have:=FT l.length (λn a k i=>Bc n (a,k,i)) Fj (λ_=>1) BM (λa k=>some (a,k)) l k rfl (λ_ _ _=>rfl) h0 (by rw[Dt];exact hB) (λn a k i hi hl' _ hk0 hkB=>?_) (λn a k hl'=>?_) (n:=Ab) (by unfold Ab;omega)
 ·rw[this];rfl
 ·have hk1:w64 (k+1)=k+1:=Ay (by omega) (by unfold BM at hkB;omega)
  simp only[Bc,Ae,A7,Ad (show i<4611686018427387904 by omega),hk1,Fj]
  simp[hl',hi]
 ·simp[Bc,hl']
theorem Eu {l:List Int} {k:Int} (hl:l.length<=1048576) (h0:0<=k) (hB:k+l.length<=BM):Cc (Cj l k).1 k=some (Cj l k).2:=by
 unfold Cc
 have hlen:(Cj l k).1.length=l.length:=CT _ _ _
 have:=Gv Fj (λx k=>if x=k then some (k+1)else some (-1)) (λ_=>1) BM l k (λn k' i=>Bb n ((Cj l k).1,k',i)) 0 (λ_ _ _=>rfl) h0 (by rw[Dt];exact hB) (λx _ k' _ _=>by simp[Fj])
  (λn k' i hi hk0 hkB=>by
   have hi':i<(Cj l k).1.length:=by omega
   have hk1:w64 (k'+1)=k'+1:=Ay (by omega) (by unfold BM at hkB;omega)
   rw[Nat.zero_add]
   simp only[Bb,Ae,Ah hi',Ad (show i<4611686018427387904 by omega),hk1]
   have e:(mkL Fj l k).1[i]'(by rw[CT];exact hi)=(Cj l k).1[i]:=rfl
   rw[e]
   by_cases h:(Cj l k).1[i]=k'
   ·simp[hi',hi,h,hlen,show¬k'+1<0 by omega]
   ·simp[hi',hi,h,hlen])
  (λn k'=>by rw[Nat.zero_add];simp[Bb,hlen]) Ab (by unfold Ab;omega)
 rw[show((0:Nat):Int)=0 from rfl]at this
 rw[this];rfl
theorem Ei {l:List (List Int)} {k:Int} (hl:l.length<=1048576) (hr: ∀r∈l,r.length<=1048576) (h0:0<=k) (hB:k+((l.map List.length).sum:Nat)<=BM):B2 l k=some (DI l k):=by
 unfold B2
 have:=FT l.length (λn a k i=>AX n (a,k,i)) Cj List.length BM (λa k=>some (a,k)) l k rfl (λx _ k=>Dd x k) h0 hB (λn a k i hi hl' hm hk0 hkB=>?_) (λn a k hl'=>?_) (n:=Ab) (by unfold Ab;omega)
 ·rw[this];rfl
 ·have hia:i<a.length:=by omega
  simp only[AX,Ae,A7,Ah hia,Ad (show i<4611686018427387904 by omega),Dm (hr _ hm) hk0 hkB,Option.bind_some]
  simp[hl',hi]
 ·simp[AX,hl']
end T
open Go Go.Va
namespace T
theorem w2:w64 2=2:=by rw[E9];rfl
section
variable {a:Net}
end
end T
set_option linter.unusedVariables false
open Go Go.Va
namespace T
def BY (a:Int×(List Int)) (b:Int×(List Int)):Option (Bool):=
 if a.1 !=b.1 then
 some false
 else
 (B6 a.2 b.2).bind λr1=>
 if !r1 then
 some false
 else
 some true
def Dl (a:Int×(List Int)) (k:Int):Option ((Unit×(List Int))×Int):=
 (BL a.2 k).bind λr1=>
 some (((),r1.1),r1.2)
end T
open Go Go.Va
namespace T
abbrev Opn:=Int×List Int
section
variable {n:Int} {f:Opn}
variable {a:Net}
theorem Gg {g:Opn} (h:f.2.length<=1048576):BY f g=some (decide (f=g)):=by
 unfold BY
 rw[D5 (by omega)]
 obtain⟨f1,f2⟩:=f
 obtain⟨g1,g2⟩:=g
 by_cases h1:f1=g1
 ·by_cases h2:f2=g2<;>simp[h1,h2]
 ·simp[h1]
end
end T
set_option linter.unusedVariables false
open Go Go.Va
namespace T
def B8 (r:Int×(List (List Int))) (t:List Int):Option (Bool):=
 if(t.length:Int) !=r.1 then
 some false
 else
 (CO r.2 t).bind λr1=>
 some r1.2
def Bh:Nat->((List Int)×(List Int)×(List Int)×Int×Int)->Option ((List Int))
 |0,_=>none
 |n+1,(g,h,t11,t12,t13)=>
 if decide (t13<t12)then
 if inb t13 t11 then
 if inb (gd t11 t13 0) g then
 if inb t13 h then
 Bh n (g,stt h t13 (gd g (gd t11 t13 0) 0),t11,t12,w64 (t13+1))
 else none
 else none
 else none
 else
 some h
def BI (f:List Int) (g:List Int):Option ((List Int)):=
 if 0<=(f.length:Int)/\(f.length:Int)<=(f.length:Int)/\(f.length:Int)<=lim then
 (Bh Ab (g,List.replicate (Int.toNat (f.length:Int)) (0:Int),f,(f.length:Int),0)).bind λs1=>
 some s1
 else none
end T
open Go Go.Va
namespace T
def Bn (vs:List Int) (v:Int):Int:=vs.getD v.toNat 0
def GT (vs:List Int) (c:Con):Bool:=decide (c.1.map (Bn vs)∈c.2.2)
def Hd (l:List Con) (vs:List Int):Bool:=l.all (GT vs)
def Hb (vars:List Int) (c:Con):Bool:=c.1.all λv=>decide (v∈vars)
def Hc (a:Net) (vars:List Int):List Con:=a.2.2.filter (Hb vars)
section
variable {a:Net}
theorem Do {f g:List Int} (hf:f.length<=1048576) (hg: ∀v∈f,0<=v/\v<g.length):BI f g=some (f.map (Bn g)):=by
 unfold BI
 rw[if_pos (by unfold lim;omega)]
 have:=Ee f (λn o i=>Bh n (g,o,f,(f.length:Int),i)) (Bn g) some (λn o k hk hlo=>?_) (λn o hlo=>?_) (n:=Ab) (out:=List.replicate (Int.toNat (f.length:Int)) (0:Int)) (by simp) (by unfold Ab;omega)
 ·simp only[this,Option.bind_some]
 ·have hko:k<o.length:=by omega
  have hv:=hg _ (List.getElem_mem hk)
  have e:gd g f[k] 0=Bn g f[k]:=rfl
  simp only[Bh,Ae,Ah hk,A7,Ad (show k<4611686018427387904 by omega),e]
  rw[if_pos (by simp;omega),if_pos hk,if_pos (show inb f[k] g from hv),if_pos hko]
 ·simp[Bh]
end
end T
open Go Go.Va
namespace T
theorem FJ {α:Type} {k:Nat} {xs:List α} {d:α}:gd xs (k:Int) d=xs.getD k d:=rfl
abbrev T3:=List (List (List Bool))
abbrev T4:=List (List (List (List Bool)))
def Gt (s:Nat) (c:List (List Bool)):Prop:=c.length=s/\ ∀x,x<s->(c.getD x []).length=s
def GR (n s:Nat) (r:T3):Prop:=r.length=n/\ ∀j,j<n->Gt s (r.getD j [])
def Ok4 (n s:Nat) (t:T4):Prop:=t.length=n/\ ∀i,i<n->GR n s (t.getD i [])
def r4 (t:T4) (i j x y:Nat):Bool:=(((t.getD i []).getD j []).getD x []).getD y false
def s4 (t:T4) (i j x y:Nat) (b:Bool):T4:=t.set i ((t.getD i []).set j (((t.getD i []).getD j []).set x ((((t.getD i []).getD j []).getD x []).set y b)))
def Ok3 (n m:Nat) (u:T3):Prop:=u.length=n/\ ∀i,i<n->(u.getD i []).length=n/\ ∀j,j<n->((u.getD i []).getD j []).length=m
def r3 (u:T3) (i j p:Nat):Bool:=((u.getD i []).getD j []).getD p false
def s3 (u:T3) (i j p:Nat) (b:Bool):T3:=u.set i ((u.getD i []).set j (((u.getD i []).getD j []).set p b))
section
variable {n s m:Nat} {t:T4} {u:T3}
theorem Ok4.at (h:Ok4 n s t) {i j x:Nat} (hi:i<n) (hj:j<n) (hx:x<s):i<t.length/\j<(t.getD i []).length/\x<((t.getD i []).getD j []).length/\(((t.getD i []).getD j []).getD x []).length=s:=
 ⟨by rw[h.1];exact hi,by rw[(h.2 i hi).1];exact hj,by rw[((h.2 i hi).2 j hj).1];exact hx,((h.2 i hi).2 j hj).2 x hx⟩
theorem Ok3.at (h:Ok3 n m u) {i j:Nat} (hi:i<n) (hj:j<n):i<u.length/\j<(u.getD i []).length/\((u.getD i []).getD j []).length=m:=
 ⟨by rw[h.1];exact hi,by rw[(h.2 i hi).1];exact hj,(h.2 i hi).2 j hj⟩
theorem E6 (h:Ok4 n s t) {i j x y:Nat} {b:Bool}:Ok4 n s (s4 t i j x y b):=by
 unfold s4
 refine⟨by rw[List.length_set];exact h.1,λi' hi'=>?_⟩
 rw[Ao]
 split
 ·rename_i hc
  obtain⟨rfl,_⟩:=hc
  have hr:=h.2 i hi'
  refine⟨by rw[List.length_set];exact hr.1,λj' hj'=>?_⟩
  rw[Ao]
  split
  ·rename_i hc
   obtain⟨rfl,_⟩:=hc
   have hcl:=hr.2 j hj'
   refine⟨by rw[List.length_set];exact hcl.1,λx' hx'=>?_⟩
   rw[Ao]
   split
   ·rename_i hc
    obtain⟨rfl,_⟩:=hc
    rw[List.length_set];exact hcl.2 x hx'
   ·exact hcl.2 x' hx'
  ·exact hr.2 j' hj'
 ·exact h.2 i' hi'
theorem G3 (h:Ok3 n m u) {i j p:Nat} {b:Bool}:Ok3 n m (s3 u i j p b):=by
 unfold s3
 refine⟨by rw[List.length_set];exact h.1,λi' hi'=>?_⟩
 rw[Ao]
 split
 ·rename_i hc
  obtain⟨rfl,_⟩:=hc
  have hr:=h.2 i hi'
  refine⟨by rw[List.length_set];exact hr.1,λj' hj'=>?_⟩
  rw[Ao]
  split
  ·rename_i hc
   obtain⟨rfl,_⟩:=hc
   rw[List.length_set];exact hr.2 j hj'
  ·exact hr.2 j' hj'
 ·exact h.2 i' hi'
theorem E5 (h:Ok4 n s t) {i j x y:Nat} {b:Bool} (hi:i<n) (hj:j<n) (hx:x<s) (hy:y<s) (i' j' x' y':Nat):
  r4 (s4 t i j x y b) i' j' x' y'=if i=i'/\j=j'/\x=x'/\y=y' then b else r4 t i' j' x' y':=by
 obtain⟨h1,h2,h3,h4⟩:=h.at hi hj hx
 unfold r4 s4
 rw[Ao]
 by_cases e1:i=i'
 ·subst e1
  rw[if_pos ⟨rfl,h1⟩,Ao]
  by_cases e2:j=j'
  ·subst e2
   rw[if_pos ⟨rfl,h2⟩,Ao]
   by_cases e3:x=x'
   ·subst e3
    rw[if_pos ⟨rfl,h3⟩,Ao]
    by_cases e4:y=y'
    ·subst e4;rw[if_pos ⟨rfl,by omega⟩,if_pos ⟨rfl,rfl,rfl,rfl⟩]
    ·rw[if_neg (by omega),if_neg (by omega)]
   ·rw[if_neg (by omega),if_neg (by omega)]
  ·rw[if_neg (by omega),if_neg (by omega)]
 ·rw[if_neg (by omega),if_neg (by omega)]
theorem G2 (h:Ok3 n m u) {i j p:Nat} {b:Bool} (hi:i<n) (hj:j<n) (hp:p<m) (i' j' p':Nat):
  r3 (s3 u i j p b) i' j' p'=if i=i'/\j=j'/\p=p' then b else r3 u i' j' p':=by
 obtain⟨h1,h2,h3⟩:=h.at hi hj
 unfold r3 s3
 rw[Ao]
 by_cases e1:i=i'
 ·subst e1
  rw[if_pos ⟨rfl,h1⟩,Ao]
  by_cases e2:j=j'
  ·subst e2
   rw[if_pos ⟨rfl,h2⟩,Ao]
   by_cases e3:p=p'
   ·subst e3;rw[if_pos ⟨rfl,by omega⟩,if_pos ⟨rfl,rfl,rfl⟩]
   ·rw[if_neg (by omega),if_neg (by omega)]
  ·rw[if_neg (by omega),if_neg (by omega)]
 ·rw[if_neg (by omega),if_neg (by omega)]
end
structure Rel34 (n s:Nat) (t:T4) (u:T3):Prop where
 o4:Ok4 n s t
 o3:Ok3 n (s*s) u
 eq: ∀i j x y,i<j->j<n->x<s->y<s->r4 t i j x y=r3 u i j (x*s+y)/\r4 t j i y x=r3 u i j (x*s+y)
theorem Gd {s x y:Nat} (hx:x<s) (hy:y<s):x*s+y<s*s:=by
 have:(x+1)*s<=s*s:=Nat.mul_le_mul_right _ hx
 rw[Nat.succ_mul]at this;omega
theorem FC {s x y x' y':Nat} (hy:y<s) (hy':y'<s) (h:x*s+y=x'*s+y'):x=x'/\y=y':=by
 have h1:(x*s+y)/s=x:=by rw[Nat.mul_comm,Nat.mul_add_div (by omega),Nat.div_eq_of_lt hy];omega
 have h2:(x'*s+y')/s=x':=by rw[Nat.mul_comm,Nat.mul_add_div (by omega),Nat.div_eq_of_lt hy'];omega
 have:x=x':=by rw[←h1,←h2,h]
 subst this
 exact⟨rfl,by omega⟩
theorem Rel34.drop {n s:Nat} {t:T4} {u:T3} (h:Rel34 n s t u) {i j x y:Nat} (hij:i<j) (hj:j<n) (hx:x<s) (hy:y<s):
  Rel34 n s (s4 (s4 t i j x y false) j i y x false) (s3 u i j (x*s+y) false):=by
 refine⟨E6 (E6 h.o4),G3 h.o3,λi' j' x' y' h1 h2 h3 h4=>?_⟩
 have hi:i<n:=by omega
 rw[E5 (E6 h.o4) hj hi hy hx,E5 h.o4 hi hj hx hy,E5 (E6 h.o4) hj hi hy hx,E5 h.o4 hi hj hx hy,G2 h.o3 hi hj (Gd hx hy)]
 obtain⟨e1,e2⟩:=h.eq i' j' x' y' h1 h2 h3 h4
 by_cases e:i=i'/\j=j'/\x=x'/\y=y'
 ·obtain⟨rfl,rfl,rfl,rfl⟩:=e
  simp
 ·have e3: ¬(i=i'/\j=j'/\x*s+y=x'*s+y'):=λ⟨q1,q2,q3⟩=>by
   have:=FC hy h4 q3
   exact e ⟨q1,q2,this.1,this.2⟩
  have e4: ¬(j=i'/\i=j'/\y=x'/\x=y'):=by omega
  have e5: ¬(i=j'/\j=i'/\x=y'/\y=x'):=by omega
  have e6: ¬(j=j'/\i=i'/\y=y'/\x=x'):=by omega
  simp only[if_neg e,if_neg e3,if_neg e4,if_neg e5,if_neg e6]
  exact⟨e1,e2⟩
end T
open Go Go.Va
namespace T
section
variable {a:Net} {n s:Nat} {t:T4} {u:T3}
def V2 (n i j x y:Nat):List Int:=((List.replicate n (0:Int)).set i (x:Int)).set j (y:Int)
def fB (a:Net) (n i j x y:Nat):Bool:=Hd (Hc a [(i:Int),(j:Int)]) (V2 n i j x y)
end
end T
open Go Go.Va
namespace T
section
variable {a:Net} {n s:Nat} {t:T4} {u:T3}
def PA (n s i:Nat) (t:T4):Prop:=t.length=n/\ ∀i',i'<i->GR n s (t.getD i' [])
def PB (n s i j:Nat) (t:T4):Prop:=PA n s i t/\(t.getD i []).length=n/\ ∀j',j'<j->Gt s ((t.getD i []).getD j' [])
theorem PA.set {i:Nat} (h:PA n s i t) (r:T3):PA n s i (t.set i r):=by
 refine⟨by rw[List.length_set];exact h.1,λi' hi'=>?_⟩
 rw[Ao,if_neg (by omega)];exact h.2 i' hi'
theorem PB.set {i j:Nat} (h:PB n s i j t) (hi:i<n) (c:List (List Bool)):PB n s i j (t.set i ((t.getD i []).set j c)):=by
 have hl:=h.1.1
 refine⟨h.1.set _,?_,λj' hj'=>?_⟩
 ·rw[Ao,if_pos ⟨rfl,by omega⟩,List.length_set];exact h.2.1
 ·rw[Ao,if_pos ⟨rfl,by omega⟩,Ao,if_neg (by omega)];exact h.2.2 j' hj'
end
end T
open Go Go.Va
namespace T
section
variable {a:Net} {n s:Nat} {t:T4} {u:T3}
def cI (o:List Nat):List Int:=o.map λx:Nat=>(x:Int)
end
end T
set_option linter.unusedVariables false
open Go Go.Va
namespace T
def CH (a:Int×(List Int)) (k:Int):Option (Int):=
 (Cc a.2 k).bind λr1=>
 if decide (r1<0)then
 some (-1)
 else
 some r1
def Bm:Nat->((List Int)×(List Int)×Int×Int)->Option ((List Int))
 |0,_=>none
 |n+1,(b,t10,t11,t12)=>
 if decide (t12<t11)then
 if inb t12 t10 then
 if(0:Int)<=8 then
 if b.length+ [IntKind.wrap .u8 (YiD .i64 (gd t10 t12 0) 8),IntKind.wrap .u8 (gd t10 t12 0)].length<=lim then
 Bm n (b++ [IntKind.wrap .u8 (YiD .i64 (gd t10 t12 0) 8),IntKind.wrap .u8 (gd t10 t12 0)],t10,t11,w64 (t12+1))
 else none
 else none
 else none
 else
 some b
def BE (list:List Int):Option (ByteArray):=
 if(0:Int)<=0/\(0:Int)<=(w64 (2*(list.length:Int)))/\(w64 (2*(list.length:Int)))<=lim then
 (Bm Ab (List.replicate (Int.toNat 0) (0:Int),list,(list.length:Int),0)).bind λs1=>
 some (Ybp s1)
 else none
def A9:Nat->((List ByteArray)×(List (List Int))×Int×Int)->Option ((List ByteArray))
 |0,_=>none
 |n+1,(set,t8,t9,t10)=>
 if decide (t10<t9)then
 if inb t10 t8 then
 (BE (gd t8 t10 [])).bind λr1=>
 A9 n (YhI set r1,t8,t9,w64 (t10+1))
 else none
 else
 some set
def BK (r:Int×(List (List Int))):Option ((List ByteArray)):=
 (A9 Ab ([],r.2,(r.2.length:Int),0)).bind λs1=>
 some s1
end T
open Go Go.Va
namespace T
def kb (l:List Int):List Int:=l.flatMap λx=> [0,x]
def Cb (l:List Int):ByteArray:=Ybp (kb l)
theorem EH {x:Int} (h0:0<=x) (h1:x<256):IntKind.wrap .u8 x=x:=by
 simp[IntKind.wrap,IntKind.bits,IntKind.signed]
 omega
theorem Fq {x:Int} (h0:0<=x) (h1:x<256):YiD .i64 x 8=0:=by
 unfold YiD
 have:(min (8:Int).toNat IntKind.i64.bits)=8:=by decide
 rw[this,Int.fdiv_eq_ediv_of_nonneg _ (by decide)]
 have:(2:Int)^8=256:=by decide
 rw[this];omega
theorem Ca {l:List Int} (hl:l.length<=1048576) (hv: ∀x∈l,0<=x/\x<256):BE l=some (Cb l):=by
 unfold BE
 have e2:w64 (2*(l.length:Int))=2*(l.length:Int):=Ay (by omega) (by omega)
 rw[e2,if_pos (by unfold lim;omega)]
 have kbl: ∀k,k<=l.length->(kb (l.take k)).length=2*k:=by
  intro k hk
  have: ∀l:List Int,(kb l).length=2*l.length:=by
   intro l
   induction l with
   |nil=>rfl
   |cons x l ih=>unfold kb at ih⊢;simp only[List.flatMap_cons,List.length_append,ih,List.length_cons,List.length_nil];omega
  rw[this];simp;omega
 have:=Cw l.length (λm o i=>Bm m (o,l,(l.length:Int),i)) (λk=>kb (l.take k)) (r:=some (kb l)) (λm k hk=>?_) (λm=>?_) (n:=Ab) (by unfold Ab;omega)
 ·have e0:kb (l.take 0)= []:=rfl
  rw[e0]at this
  have:Bm Ab (List.replicate (Int.toNat 0) (0:Int),l,(l.length:Int),0)=some (kb l):=this
  rw[this];rfl
 ·have hx:=hv _ (List.getElem_mem hk)
  have hlen:=kbl k (by omega)
  have e:kb (l.take (k+1))=kb (l.take k)++ [0,l[k]]:=by
   unfold kb;rw[List.take_succ_eq_append_getElem hk,List.flatMap_append];simp
  simp only[Bm,Ae,Ah hk,Ad (show k<4611686018427387904 by omega),EH hx.1 hx.2,Fq hx.1 hx.2,EH (show(0:Int)<=0 by omega) (show(0:Int)<256 by omega),e]
  rw[if_pos (by simp;omega),if_pos hk,if_pos (by omega),if_pos (by unfold lim;simp;omega)]
 ·simp only[Bm,List.take_length]
  rw[if_neg (by simp)]
theorem CZ: ∀(xs:List Int) (s:ByteArray),(xs.foldl (λs n=>s.push (UInt8.ofNat n.toNat)) s).data=s.data++(xs.map λn=>UInt8.ofNat n.toNat).toArray
 | [],s=>by simp
 |x::xs,s=>by
  rw[List.foldl_cons,CZ xs]
  apply Array.ext'
  simp[ByteArray.push]
theorem FN: ∀(l l':List Int),(∀x∈l,0<=x/\x<256)->(∀x∈l',0<=x/\x<256)->(kb l).map (λn=>UInt8.ofNat n.toNat)=(kb l').map (λn=>UInt8.ofNat n.toNat)->l=l'
 | [],[],_,_,_=>rfl
 | [],y::l',_,_,h=>by simp[kb]at h
 |x::l,[],_,_,h=>by simp[kb]at h
 |x::l,y::l',hv,hv',h=>by
  simp only[kb,List.flatMap_cons,List.map_append,List.map_cons,List.map_nil,List.cons_append,List.nil_append,List.cons.injEq,true_and]at h
  obtain⟨h1,h2⟩:=h
  have hx:=hv x (by simp)
  have hy:=hv' y (by simp)
  have h1:=congrArg UInt8.toNat h1
  simp only[UInt8.toNat_ofNat']at h1
  have:x=y:=by omega
  rw[this,FN l l' (λz hz=>hv z (List.mem_cons_of_mem _ hz)) (λz hz=>hv' z (List.mem_cons_of_mem _ hz)) h2]
theorem Ev {l l':List Int} (hv: ∀x∈l,0<=x/\x<256) (hv': ∀x∈l',0<=x/\x<256) (h:Cb l=Cb l'):l=l':=by
 have h:=congrArg ByteArray.data h
 unfold Cb Ybp at h
 rw[CZ,CZ]at h
 have h:=congrArg Array.toList h
 simp only[Array.toList_append]at h
 exact FN l l' hv hv' (List.append_cancel_left h)
theorem FA {a b:ByteArray}:(a==b)=decide (a=b):=by
 show(a.data==b.data)=_
 rw[Bool.eq_iff_iff,beq_iff_eq,decide_eq_true_eq]
 exact⟨λh=>ByteArray.ext h,λh=>congrArg ByteArray.data h⟩
theorem DM {ks:List ByteArray} {s:ByteArray}:Xs ks s=true↔s∈ks:=by
 unfold Xs
 rw[List.any_eq_true]
 constructor
 ·rintro ⟨k,h1,h2⟩;rw[FA,decide_eq_true_eq]at h2;subst h2;exact h1
 ·intro h;exact⟨s,h,by rw[FA];simp⟩
theorem Ez {ks:List ByteArray} {s t:ByteArray}:t∈YhI ks s↔t∈ks∨t=s:=by
 unfold YhI
 by_cases h:Xs ks s=true
 ·rw[if_pos h]
  exact⟨.inl,λh'=>h'.elim id λe=>e▸DM.1 h⟩
 ·rw[if_neg h];simp
def Cg (l:List (List Int)):List ByteArray:=l.foldl (λks t=>YhI ks (Cb t)) []
theorem FO {l:List (List Int)} {s:ByteArray}:s∈Cg l↔ ∃t∈l,s=Cb t:=by
 have key: ∀(l:List (List Int)) (ks:List ByteArray),s∈l.foldl (λks t=>YhI ks (Cb t)) ks↔s∈ks∨ ∃t∈l,s=Cb t:=by
  intro l
  induction l with
  |nil=>intro ks;simp
  |cons t l ih=>
   intro ks
   rw[List.foldl_cons,ih,Ez]
   simp only[List.mem_cons,exists_eq_or_imp,or_assoc]
 unfold Cg;rw[key];simp
theorem Dc {r:Int×List (List Int)} (hl:r.2.length<=1048576) (hv: ∀t∈r.2,t.length<=1048576/\ ∀x∈t,0<=x/\x<256):BK r=some (Cg r.2):=by
 unfold BK
 have:=Cw r.2.length (λm o i=>A9 m (o,r.2,(r.2.length:Int),i)) (λk=>Cg (r.2.take k)) (r:=some (Cg r.2)) (λm k hk=>?_) (λm=>?_) (n:=Ab) (by unfold Ab;omega)
 ·have e0:Cg (r.2.take 0)= []:=rfl
  rw[e0]at this
  simp only[this,Option.bind_some]
 ·obtain⟨h1,h2⟩:=hv _ (List.getElem_mem hk)
  have e:Cg (r.2.take (k+1))=YhI (Cg (r.2.take k)) (Cb r.2[k]):=by
   unfold Cg;rw[List.take_succ_eq_append_getElem hk,List.foldl_append];rfl
  simp only[A9,Ae,Ah hk,Ad (show k<4611686018427387904 by omega),Ca h1 h2,Option.bind_some,e]
  rw[if_pos (by simp;omega),if_pos hk]
 ·simp only[A9,List.take_length]
  rw[if_neg (by simp)]
theorem D9 {l:List (List Int)} {t:List Int} (hl: ∀t∈l,∀x∈t,0<=x/\x<256) (ht: ∀x∈t,0<=x/\x<256):Xs (Cg l) (Cb t)=decide (t∈l):=by
 rw[Bool.eq_iff_iff,DM,decide_eq_true_eq,FO]
 constructor
 ·rintro ⟨u,h1,h2⟩;rw[Ev ht (hl u h1) h2];exact h1
 ·intro h;exact⟨t,h,rfl⟩
def dg (b:Nat):Nat->Nat->List Nat
 |0,_=> []
 |k+1,i=>dg b k (i/b)++ [i%b]
theorem Dx {b:Nat}: ∀ {k i:Nat},(dg b k i).length=k
 |0,_=>rfl
 |k+1,i=>by simp[dg,Dx (k:=k)]
theorem EV {b:Nat} (hb:0<b): ∀ {k i:Nat},∀x∈dg b k i,x<b
 |0,_,x,h=>by simp[dg]at h
 |k+1,i,x,h=>by
  simp only[dg]at h
  rcases List.mem_append.1 h with h|h
  ·exact EV hb x h
  ·simp at h;subst h;exact Nat.mod_lt _ hb
theorem Bz {o:List Nat}:(cI o).length=o.length:=by unfold cI;simp
theorem D4 {o p:List Nat}:cI (o++p)=cI o++cI p:=by unfold cI;simp
end T
open Go Go.Va
namespace T
def vt (ts:List (List Int)) (x j:Nat):Nat:=((ts.getD x []).getD j 0).toNat
def atF (n:Nat) (ts:List (List Int)) (j:Nat) (args:List Nat):Nat:=args.foldl (λa x=>a*n+vt ts x j) 0
structure KOk (n k m:Nat) (op:Opn) (r:Int×List (List Int)):Prop where
 op1:op.1=(k:Int)
 hk:1<=k/\k<=3
 hn:1<=n/\n<=8
 opl:op.2.length=n^k
 opv: ∀x∈op.2,0<=x/\x<(n:Int)
 ar:r.1=(m:Int)
 hm:1<=m/\m<=3
 tl: ∀t∈r.2,t.length=m
 tv: ∀t∈r.2,∀x∈t,0<=x/\x<(n:Int)
 many:r.2.length<=64
 inc:B4 r.2=true
theorem E4 {b k:Nat} (hb:b<=64) (hk:k<=3):b^k<=262144:=by
 have h1:b^k<=64^k:=Nat.pow_le_pow_left hb k
 have h2:64^k<=64^3:=Nat.pow_le_pow_right (by omega) hk
 have:(64:Nat)^3=262144:=by decide
 omega
theorem EA {b j:Nat} (hb:b<=64) (hj:j+1<=3):w64 (((b^j:Nat):Int)*(b:Int))=((b^(j+1):Nat):Int):=by
 have h:=E4 hb hj
 rw[Nat.pow_succ]at h⊢
 rw[←Int.natCast_mul]
 exact Ay (by omega) (by omega)
theorem EO {b:Nat} (hb:b<=64): ∀(m k j:Nat),j+k<=3->k<m->BA m ((b:Int),(k:Int),((b^j:Nat):Int))=some (((b^(j+k):Nat):Int)):=by
 intro m
 induction m with
 |zero=>intro k j _ h;omega
 |succ m ih=>
  intro k j hj hk
  simp only[BA]
  cases k with
  |zero=>simp
  |succ k=>
   have e:w64 (((k+1:Nat):Int)-1)=(k:Int):=by rw[Ay (by omega) (by omega)];omega
   rw[e,EA hb (by omega),if_pos (by simp),ih k (j+1) (by omega) (by omega)]
   congr 3;omega
theorem Cm {b k:Nat} (hb:b<=64) (hk:k<=3):Cl (b:Int) (k:Int)=some (((b^k:Nat):Int)):=by
 unfold Cl
 have:=EO hb Ab k 0 (by omega) (by unfold Ab;omega)
 have this:BA Ab ((b:Int),(k:Int),1)=_:=this
 rw[this];simp
section
variable {n k m:Nat} {op:Opn} {r:Int×List (List Int)}
theorem KOk.vt_lt (h:KOk n k m op r) {x j:Nat} (hx:x<r.2.length) (hj:j<m):vt r.2 x j<n/\(r.2.getD x []).getD j 0=((vt r.2 x j:Nat):Int)/\j<(r.2.getD x []).length:=by
 have hmem:r.2[x]∈r.2:=List.getElem_mem hx
 have hl:=h.tl _ hmem
 have hj':j<(r.2[x]).length:=by omega
 have hv:=h.tv _ hmem _ (List.getElem_mem hj')
 unfold vt
 rw[Am hx,Am hj']
 exact⟨by omega,by omega,by omega⟩
theorem By {n k:Nat} (hn:n<=4) (hk:k<=3):n^k<=64:=by
 have h1:n^k<=4^k:=Nat.pow_le_pow_left hn k
 have h2:4^k<=4^3:=Nat.pow_le_pow_right (by omega) hk
 have:(4:Nat)^3=64:=by decide
 omega
theorem Dv {ts:List (List Int)} {j:Nat} {a:List Nat} {x:Nat}:atF n ts j (a++ [x])=atF n ts j a*n+vt ts x j:=by unfold atF;rw[List.foldl_append];rfl
theorem EY {n:Nat} {v:Nat->Nat}: ∀(a:List Nat) (c:Nat),(∀x∈a,v x<n)->a.foldl (λa x=>a*n+v x) c<(c+1)*n^a.length
 | [],c,_=>by simp
 |x::a,c,h=>by
  have h1:=EY a (c*n+v x) λy hy=>h y (List.mem_cons_of_mem _ hy)
  have h2:=h x (by simp)
  have h3:(c*n+v x+1)*n^a.length<=((c+1)*n)*n^a.length:=Nat.mul_le_mul_right _ (by rw[Nat.succ_mul];omega)
  rw[List.foldl_cons,List.length_cons,Nat.pow_succ]
  have h4:((c+1)*n)*n^a.length=(c+1)*(n^a.length*n):=by rw[Nat.mul_assoc,Nat.mul_comm n]
  omega
theorem EI (hn:n<=4) {x v:Nat} (hx:x<=64) (hv:v<n):w64 (w64 ((x:Int)*(n:Int))+(v:Int))=((x*n+v:Nat):Int):=by
 have h1:x*n<=64*4:=Nat.mul_le_mul hx hn
 have e:(x:Int)*(n:Int)=((x*n:Nat):Int):=by push_cast;rfl
 rw[e,Ay (x:=((x*n:Nat):Int)) (by omega) (by omega),Ay (by omega) (by omega)]
 push_cast;rfl
end
end T
set_option linter.unusedVariables false
open Go Go.Va
namespace T
def AK:Nat->((List (Int×(List (List Int))))×Int×Int)->Option ((Int)⊕(Int))
 |0,_=>none
 |n+1,(a,left,i)=>
 if decide (i<(a.length:Int))then
 if inb i a then
 (BR (gd a i (0,[])) left).bind λr1=>
 if decide (r1<0)then
 some (.inr (-1))
 else
 AK n (a,r1,w64 (i+1))
 else none
 else
 some (.inl left)
def Ci (a:List (Int×(List (List Int)))) (left:Int):Option (Int):=
 if decide ((w64 (left-(a.length:Int)))<0)then
  some (-1)
 else
  (AK Ab (a,w64 (left-(a.length:Int)),0)).bind λs1=>
   match s1 with
   | .inl s2=>
    some s2
   | .inr s3=>
    some s3
def AL:Nat->((List (Int×(List (List Int))))×(List (Int×(List (List Int))))×Int)->Option ((List (Int×(List (List Int)))))
 |0,_=>none
 |n+1,(a,out,i)=>
 if decide (i<(a.length:Int))then
 if inb i a then
 (BD (gd a i (0,[]))).bind λr1=>
 if inb i out then
 AL n (a,stt out i (r1.1,r1.2),w64 (i+1))
 else none
 else none
 else
 some out
def Bd (a:List (Int×(List (List Int)))):Option ((List (Int×(List (List Int))))):=
 if 0<=(a.length:Int)/\(a.length:Int)<=(a.length:Int)/\(a.length:Int)<=lim then
 (AL Ab (a,List.replicate (Int.toNat (a.length:Int)) ((0,[]):Int×(List (List Int))),0)).bind λs1=>
 some s1
 else none
def C8 (n_:Int):Option (Bool):=
 (BZ n_ 1 4).bind λr1=>
 some r1
def Bl:Nat->(Int×(List (Int×(List (List Int))))×Int)->Option ((Unit)⊕(Bool))
 |0,_=>none
 |n+1,(n_,rels,i)=>
 if decide (i<(rels.length:Int))then
 if inb i rels then
 (Cq n_ (gd rels i (0,[]))).bind λr1=>
 if !r1 then
 some (.inr false)
 else
 Bl n (n_,rels,w64 (i+1))
 else none
 else
 some (.inl ())
def C7 (n_:Int) (rels:List (Int×(List (List Int)))):Option (Bool):=
 if decide ((rels.length:Int)>4)then
  some false
 else
  (Bl Ab (n_,rels,0)).bind λs1=>
   match s1 with
   | .inl s2=>
    some true
   | .inr s3=>
    some s3
def AQ:Nat->((List (Int×(List (List Int))))×Int×Int)->Option ((Unit)⊕(Bool))
 |0,_=>none
 |n+1,(rels,k,i)=>
 if decide (i<(rels.length:Int))then
 if k==3 then
 if inb i rels then
 if decide ((((gd rels i (0,[])).2).length:Int)>12)then
 some (.inr false)
 else
 AQ n (rels,k,w64 (i+1))
 else none
 else
 AQ n (rels,k,w64 (i+1))
 else
 some (.inl ())
def Ce (n_:Int) (rels:List (Int×(List (List Int)))) (k:Int):Option (Bool):=
 (C8 n_).bind λr1=>
  if !r1 then
   some false
  else
   (C7 n_ rels).bind λr2=>
    if !r2 then
     some false
    else
     (BZ k 1 3).bind λr3=>
      if !r3 then
       some false
      else
       (AQ Ab (rels,k,0)).bind λs4=>
        match s4 with
        | .inl s5=>
         some true
        | .inr s6=>
         some s6
def AW:Nat->(Int×(List Int)×Int)->Option ((List Int))
 |0,_=>none
 |n+1,(size,out,i)=>
 if decide (i<size)then
 if out.length+ [(-1)].length<=lim then
 AW n (size,out++ [(-1)],w64 (i+1))
 else none
 else
 some out
def Cr (size:Int):Option ((List Int)):=
 (AW Ab (size,[],0)).bind λs1=>
 some s1
def Bw:Nat->(Int×Int×(List Int)×Int)->Option ((List Int))
 |0,_=>none
 |n+1,(n_,at_,out,i)=>
 if decide (i≥0)then
 if n_≠0 then
 if inb i out then
 if n_≠0 then
 Bw n (n_,w64 (Int.tdiv at_ n_),stt out i (Int.tmod at_ n_),w64 (i-1))
 else none
 else none
 else none
 else
 some out
def CL (n_:Int) (arity:Int) (at_:Int):Option ((List Int)):=
 if 0<=arity/\arity<=arity/\arity<=lim then
 (Bw Ab (n_,at_,List.replicate (Int.toNat arity) (0:Int),w64 (arity-1))).bind λs1=>
 some s1
 else none
def CJ (a:Int) (b:Int):Option (Int):=
 if decide (a>b)then
 some a
 else
 some b
def AO:Nat->(Int×(List (Int×(List (List Int))))×Int×(List (List ((List Int)×Int×(List (List Int)))))×Int)->Option (Int×(List (Int×(List (List Int))))×Int×(List (List ((List Int)×Int×(List (List Int))))))
 |0,_=>none
 |n+1,(t0,t1,t2,t7,t8)=>
 (BG t0 t2).bind λr1=>
 if decide (t8<r1)then
 if t7.length+([[]]:List (List ((List Int)×Int×(List (List Int))))).length<=lim then
 AO n (t0,t1,t2,t7++ [[]],w64 (t8+1))
 else none
 else
 some (t0,t1,t2,t7)
def AI:Nat->(Int×(List (Int×(List (List Int))))×Int×(List (List ((List Int)×Int×(List (List Int)))))×Int×Int×Int×(List Int)×((List Int)×(Int×(List (List Int))))×Int×Int×Int×Int)->Option (Int×(List (Int×(List (List Int))))×Int×(List (List ((List Int)×Int×(List (List Int)))))×Int×Int×Int×(List Int)×((List Int)×(Int×(List (List Int))))×Int×Int×Int)
 |0,_=>none
 |n+1,(t0,t1,t2,t7,t9,t10,t11,t12,t13,t14,t15,t16,t17)=>
 if decide (t17<t2)then
 if inb t9 t1 then
 if inb t17 t12 then
 if inb (gd t12 t17 0) ((gd t1 t9 (0,[])).2)then
 if inb t15 (gd ((gd t1 t9 (0,[])).2) (gd t12 t17 0) [])then
 AI n (t0,t1,t2,t7,t9,t10,t11,t12,(t13.1,(t13.2.1,t13.2.2)),t14,t15,w64 ((w64 (t16*t0))+(gd (gd ((gd t1 t9 (0,[])).2) (gd t12 t17 0) []) t15 0)),w64 (t17+1))
 else none
 else none
 else none
 else none
 else
 some (t0,t1,t2,t7,t9,t10,t11,t12,(t13.1,(t13.2.1,t13.2.2)),t14,t15,t16)
def AH:Nat->(Int×(List (Int×(List (List Int))))×Int×(List (List ((List Int)×Int×(List (List Int)))))×Int×Int×Int×(List Int)×((List Int)×(Int×(List (List Int))))×Int×Int)->Option (Int×(List (Int×(List (List Int))))×Int×(List (List ((List Int)×Int×(List (List Int)))))×Int×Int×Int×((List Int)×(Int×(List (List Int))))×Int)
 |0,_=>none
 |n+1,(t0,t1,t2,t7,t9,t10,t11,t12,t13,t14,t15)=>
 if inb t9 t1 then
 if decide (t15<((gd t1 t9 (0,[])).1))then
 (AI Ab (t0,t1,t2,t7,t9,t10,t11,t12,(t13.1,(t13.2.1,t13.2.2)),t14,t15,0,0)).bind λs5=>
 if s5.2.2.2.2.2.2.2.2.1.1.length+ [s5.2.2.2.2.2.2.2.2.2.2.2].length<=lim then
 (CJ s5.2.2.2.2.2.2.2.2.2.1 s5.2.2.2.2.2.2.2.2.2.2.2).bind λr6=>
 AH n (s5.1,s5.2.1,s5.2.2.1,s5.2.2.2.1,s5.2.2.2.2.1,s5.2.2.2.2.2.1,s5.2.2.2.2.2.2.1,s5.2.2.2.2.2.2.2.1,(s5.2.2.2.2.2.2.2.2.1.1++ [s5.2.2.2.2.2.2.2.2.2.2.2],(s5.2.2.2.2.2.2.2.2.1.2.1,s5.2.2.2.2.2.2.2.2.1.2.2)),r6,w64 (s5.2.2.2.2.2.2.2.2.2.2.1+1))
 else none
 else
 some (t0,t1,t2,t7,t9,t10,t11,(t13.1,(t13.2.1,t13.2.2)),t14)
 else none
def AG:Nat->(Int×(List (Int×(List (List Int))))×Int×(List (List ((List Int)×Int×(List (List Int)))))×Int×Int×Int)->Option (Int×(List (Int×(List (List Int))))×Int×(List (List ((List Int)×Int×(List (List Int)))))×Int)
 |0,_=>none
 |n+1,(t0,t1,t2,t7,t9,t10,t11)=>
 (BG t10 t2).bind λr3=>
 if decide (t11<r3)then
 (CL t10 t2 t11).bind λr4=>
 if inb t9 t1 then
 (AH Ab (t0,t1,t2,t7,t9,t10,t11,r4,([],((gd t1 t9 (0,[])).1,(gd t1 t9 (0,[])).2)),0,0)).bind λs5=>
 if inb s5.2.2.2.2.2.2.2.2 s5.2.2.2.1 then
 if(gd s5.2.2.2.1 s5.2.2.2.2.2.2.2.2 []).length+ [(s5.2.2.2.2.2.2.2.1.1,(s5.2.2.2.2.2.2.2.1.2.1,s5.2.2.2.2.2.2.2.1.2.2))].length<=lim then
 if inb s5.2.2.2.2.2.2.2.2 s5.2.2.2.1 then
 if s5.2.2.2.2.2.2.2.2=s5.2.2.2.2.2.2.2.2 then
 AG n (s5.1,s5.2.1,s5.2.2.1,stt s5.2.2.2.1 s5.2.2.2.2.2.2.2.2 ((gd s5.2.2.2.1 s5.2.2.2.2.2.2.2.2 [])++ [(s5.2.2.2.2.2.2.2.1.1,(s5.2.2.2.2.2.2.2.1.2.1,s5.2.2.2.2.2.2.2.1.2.2))]),s5.2.2.2.2.1,s5.2.2.2.2.2.1,w64 (s5.2.2.2.2.2.2.1+1))
 else none
 else none
 else none
 else none
 else none
 else
 some (t0,t1,t2,t7,t9)
def AP:Nat->(Int×(List (Int×(List (List Int))))×Int×(List (List ((List Int)×Int×(List (List Int)))))×Int)->Option ((List (List ((List Int)×Int×(List (List Int))))))
 |0,_=>none
 |n+1,(t0,t1,t2,t7,t9)=>
 if decide (t9<(t1.length:Int))then
 if inb t9 t1 then
 (AG Ab (t0,t1,t2,t7,t9,(((gd t1 t9 (0,[])).2).length:Int),0)).bind λs3=>
 AP n (s3.1,s3.2.1,s3.2.2.1,s3.2.2.2.1,w64 (s3.2.2.2.2+1))
 else none
 else
 some t7
def Cd (t0:Int) (t1:List (Int×(List (List Int)))) (t2:Int):Option ((List (List ((List Int)×Int×(List (List Int)))))):=
 (AO Ab (t0,t1,t2,[],0)).bind λs1=>
 (AP Ab (s1.1,s1.2.1,s1.2.2.1,s1.2.2.2,0)).bind λs2=>
 some s2
def AN:Nat->((List ((List Int)×Int×(List (List Int))))×(List Int)×Int×(List Int)×Int)->Option ((List ((List Int)×Int×(List (List Int))))×(List Int)×Int×(List Int))
 |0,_=>none
 |n+1,(needs,table,i,t,k)=>
 if inb i needs then
 if decide (k<(((gd needs i ([],(0,[]))).1).length:Int))then
 if inb i needs then
 if inb k ((gd needs i ([],(0,[]))).1)then
 if inb (gd ((gd needs i ([],(0,[]))).1) k 0) table then
 if t.length+ [gd table (gd ((gd needs i ([],(0,[]))).1) k 0) 0].length<=lim then
 AN n (needs,table,i,t++ [gd table (gd ((gd needs i ([],(0,[]))).1) k 0) 0],w64 (k+1))
 else none
 else none
 else none
 else none
 else
 some (needs,table,i,t)
 else none
def AM:Nat->((List ((List Int)×Int×(List (List Int))))×(List Int)×Int)->Option ((Unit)⊕(Bool))
 |0,_=>none
 |n+1,(needs,table,i)=>
 if decide (i<(needs.length:Int))then
 (AN Ab (needs,table,i,[],0)).bind λs1=>
 if inb s1.2.2.1 s1.1 then
 (B8 ((gd s1.1 s1.2.2.1 ([],(0,[]))).2) s1.2.2.2).bind λr2=>
 if !r2 then
 some (.inr false)
 else
 AM n (s1.1,s1.2.1,w64 (s1.2.2.1+1))
 else none
 else
 some (.inl ())
def BB (needs:List ((List Int)×Int×(List (List Int)))) (table:List Int):Option (Bool):=
 (AM Ab (needs,table,0)).bind λs1=>
  match s1 with
  | .inl s2=>
   some true
  | .inr s3=>
   some s3
def Ag (rec:(Int×(List (List ((List Int)×Int×(List (List Int)))))×(List Int)×(List Int)×((List (List Int))×(Int×Int)))->Option (((List (List Int))×(Int×Int)))):Nat->(Int×(List (List ((List Int)×Int×(List (List Int)))))×(List Int)×(List Int)×((List (List Int))×(Int×Int))×((List (List Int))×(Int×Int))×Int×Int)->Option ((((List (List Int))×(Int×Int))×((List (List Int))×(Int×Int)))⊕(((List (List Int))×(Int×Int))))
 |0,_=>none
 |n+1,(t0,t1,t2,t3,t9,t10,t11,t12)=>
 if decide (t12<t0)then
 if inb t11 t2 then
 if decide ((gd t2 t11 0)≥0)then
 if inb t11 t2 then
 if(gd t2 t11 0) !=t12 then
 Ag rec n (t0,t1,t2,t3,(t9.1,(t9.2.1,t9.2.2)),(t10.1,(t10.2.1,t10.2.2)),t11,w64 (t12+1))
 else
 (B3 t3).bind λr2=>
 if r2.length+ [t12].length<=lim then
 if inb t11 t1 then
 (BB (gd t1 t11 []) (r2++ [t12])).bind λr3=>
 if r3 then
 (rec (t0,t1,t2,r2++ [t12],(t9.1,(t9.2.1,t9.2.2)))).bind λr4=>
 if r4.2.2==1 then
 if decide (r4.2.1>0)then
 some (.inr (r4.1,(r4.2.1,r4.2.2)))
 else
 Ag rec n (t0,t1,t2,t3,(r4.1,(r4.2.1,r4.2.2)),(t10.1,(t10.2.1,t10.2.2)),t11,w64 (t12+1))
 else
 Ag rec n (t0,t1,t2,t3,(r4.1,(r4.2.1,r4.2.2)),(t10.1,(t10.2.1,t10.2.2)),t11,w64 (t12+1))
 else
 if t9.2.2==1 then
 if decide (t9.2.1>0)then
 some (.inr (t9.1,(t9.2.1,t9.2.2)))
 else
 Ag rec n (t0,t1,t2,t3,(t9.1,(t9.2.1,t9.2.2)),(t10.1,(t10.2.1,t10.2.2)),t11,w64 (t12+1))
 else
 Ag rec n (t0,t1,t2,t3,(t9.1,(t9.2.1,t9.2.2)),(t10.1,(t10.2.1,t10.2.2)),t11,w64 (t12+1))
 else none
 else none
 else none
 else
 (B3 t3).bind λr5=>
 if r5.length+ [t12].length<=lim then
 if inb t11 t1 then
 (BB (gd t1 t11 []) (r5++ [t12])).bind λr6=>
 if r6 then
 (rec (t0,t1,t2,r5++ [t12],(t9.1,(t9.2.1,t9.2.2)))).bind λr7=>
 if r7.2.2==1 then
 if decide (r7.2.1>0)then
 some (.inr (r7.1,(r7.2.1,r7.2.2)))
 else
 Ag rec n (t0,t1,t2,t3,(r7.1,(r7.2.1,r7.2.2)),(t10.1,(t10.2.1,t10.2.2)),t11,w64 (t12+1))
 else
 Ag rec n (t0,t1,t2,t3,(r7.1,(r7.2.1,r7.2.2)),(t10.1,(t10.2.1,t10.2.2)),t11,w64 (t12+1))
 else
 if t9.2.2==1 then
 if decide (t9.2.1>0)then
 some (.inr (t9.1,(t9.2.1,t9.2.2)))
 else
 Ag rec n (t0,t1,t2,t3,(t9.1,(t9.2.1,t9.2.2)),(t10.1,(t10.2.1,t10.2.2)),t11,w64 (t12+1))
 else
 Ag rec n (t0,t1,t2,t3,(t9.1,(t9.2.1,t9.2.2)),(t10.1,(t10.2.1,t10.2.2)),t11,w64 (t12+1))
 else none
 else none
 else none
 else
 some (.inl ((t9.1,(t9.2.1,t9.2.2)),(t10.1,(t10.2.1,t10.2.2))))
def BS (rec:(Int×(List (List ((List Int)×Int×(List (List Int)))))×(List Int)×(List Int)×((List (List Int))×(Int×Int)))->Option (((List (List Int))×(Int×Int)))) (t0:Int) (t1:List (List ((List Int)×Int×(List (List Int))))) (t2:List Int) (t3:List Int) (t4:(List (List Int))×(Int×Int)):Option (((List (List Int))×(Int×Int))):=
 if(t3.length:Int)==(t1.length:Int)then
  if decide ((t4.1.length:Int)<t4.2.2)then
   (B3 t3).bind λr1=>
    if t4.1.length+ [r1].length<=lim then
     some (t4.1++ [r1],(w64 (t4.2.1+1),t4.2.2))
    else none
  else
   some (t4.1,(w64 (t4.2.1+1),t4.2.2))
 else
  (Ag rec Ab (t0,t1,t2,t3,(t4.1,(t4.2.1,t4.2.2)),([],(0,0)),(t3.length:Int),0)).bind λs2=>
   match s2 with
   | .inl s3=>
    some (s3.1.1,(s3.1.2.1,s3.1.2.2))
   | .inr s4=>
    some (s4.1,(s4.2.1,s4.2.2))
def AC:Nat->(Int×(List (List ((List Int)×Int×(List (List Int)))))×(List Int)×(List Int)×((List (List Int))×(Int×Int)))->Option (((List (List Int))×(Int×Int)))
 |0,_=>none
 |d+1,x=>BS (AC d) x.1 x.2.1 x.2.2.1 x.2.2.2.1 x.2.2.2.2
def BO (n_:Int) (rels:List (Int×(List (List Int)))) (k:Int) (fixed:List Int) (most:Int):Option (((List (List Int))×(Int×Int))):=
 (Cd n_ rels k).bind λr1=>
 (AC Ab (n_,r1,fixed,[],([],(0,most)))).bind λr2=>
 some (r2.1,(r2.2.1,r2.2.2))
def AS:Nat->(Int×(List (Int×(List (List Int))))×Int×Int)->Option ((Unit)⊕(Bool))
 |0,_=>none
 |n+1,(n_,t10,t11,t12)=>
 if decide (t12<t11)then
 if inb t12 t10 then
 (BQ n_ ((gd t10 t12 (0,[])).1,(gd t10 t12 (0,[])).2)).bind λr1=>
 if !r1 then
 some (.inr false)
 else
 AS n (n_,t10,t11,w64 (t12+1))
 else none
 else
 some (.inl ())
def Cu (n_:Int) (rels:List (Int×(List (List Int)))):Option (Bool):=
 if decide ((rels.length:Int)>4)then
  some false
 else
  (AS Ab (n_,rels,(rels.length:Int),0)).bind λs1=>
   match s1 with
   | .inl s2=>
    some true
   | .inr s3=>
    some s3
def A8:Nat->(Int×(List (Int×(List (List Int))))×Int×Int)->Option ((Unit)⊕(Bool))
 |0,_=>none
 |n+1,(k,t18,t19,t20)=>
 if decide (t20<t19)then
 if inb t20 t18 then
 if k==3 then
 if decide ((((gd t18 t20 (0,[])).2).length:Int)>12)then
 some (.inr false)
 else
 A8 n (k,t18,t19,w64 (t20+1))
 else
 A8 n (k,t18,t19,w64 (t20+1))
 else none
 else
 some (.inl ())
def CD (n_:Int) (rels:List (Int×(List (List Int)))) (k:Int):Option (Bool):=
 (BU n_).bind λr1=>
  if !r1 then
   some false
  else
   (Cu n_ rels).bind λr2=>
    if !r2 then
     some false
    else
     (A8 Ab (k,rels,(rels.length:Int),0)).bind λs3=>
      match s3 with
      | .inl s4=>
       some true
      | .inr s5=>
       some s5
def AF:Nat->((List Int)×Int×Int)->Option ((List Int))
 |0,_=>none
 |n+1,(list,t8,t9)=>
 if decide (t9<t8)then
 if inb t9 list then
 AF n (stt list t9 (-1),t8,w64 (t9+1))
 else none
 else
 some list
def B1 (many:Int):Option ((List Int)):=
 if 0<=many/\many<=many/\many<=lim then
 (AF Ab (List.replicate (Int.toNat many) (0:Int),((List.replicate (Int.toNat many) (0:Int)).length:Int),0)).bind λs1=>
 some s1
 else none
def Bq:Nat->(Int×Int×(List Int)×Int)->Option ((List Int))
 |0,_=>none
 |n+1,(i,n_,args,j)=>
 if decide (j≥0)then
 if n_≠0 then
 if inb j args then
 if n_≠0 then
 Bq n (w64 (Int.tdiv i n_),n_,stt args j (Int.tmod i n_),w64 (j-1))
 else none
 else none
 else none
 else
 some args
def BN (i:Int) (k:Int) (n_:Int):Option ((List Int)):=
 if 0<=k/\k<=k/\k<=lim then
 (Bq Ab (i,n_,List.replicate (Int.toNat k) (0:Int),w64 (k-1))).bind λs1=>
 some s1
 else none
def As:Nat->(Unit×Int×Int×(Int×(Int×(List (List ((List Int)×(List ByteArray))))))×(Int×(List (List Int)))×(List ByteArray)×(List ByteArray)×Int×(List Int)×(List Int)×Int×Int×(List (Int×(List (List Int))))×Int×Int×Int×Int×Int×Int)->Option (Int×Int×(Int×(Int×(List (List ((List Int)×(List ByteArray))))))×(Int×(List (List Int)))×(List ByteArray)×(List ByteArray)×Int×(List Int)×(List Int)×Int×Int×(List (Int×(List (List Int))))×Int×Int×Int×Int)
 |0,_=>none
 |n+1,(al60,t0,t2,t7,t9,t10,t11,t12,t13,t14,t15,t16,t28,t29,t30,t56,t57,t61,t62)=>
 if decide (t62<t61)then
 if inb t62 t13 then
 if inb t16 t14 then
 if inb (gd t13 t62 0) t9.2 then
 if inb t16 (gd t9.2 (gd t13 t62 0) [])then
 if inb t16 t14 then
 As n ((),t0,t2,(t7.1,(t7.2.1,t7.2.2)),(t9.1,t9.2),t10,t11,t12,t13,stt t14 t16 (w64 ((w64 ((gd t14 t16 0)*t0))+(gd (gd t9.2 (gd t13 t62 0) []) t16 0))),t15,t16,t28,t29,t30,t56,t57,t61,w64 (t62+1))
 else none
 else none
 else none
 else none
 else none
 else
 some (t0,t2,(t7.1,(t7.2.1,t7.2.2)),(t9.1,t9.2),t10,t11,t12,t13,t14,t15,t16,t28,t29,t30,t56,t57)
def Ar:Nat->(Int×Int×(Int×(Int×(List (List ((List Int)×(List ByteArray))))))×(Int×(List (List Int)))×(List ByteArray)×(List ByteArray)×Int×(List Int)×(List Int)×Int×(List (Int×(List (List Int))))×Int×Int×Int×Int)->Option (Int×Int×(Int×(Int×(List (List ((List Int)×(List ByteArray))))))×(Int×(List (List Int)))×(List ByteArray)×(List ByteArray)×Int×(List Int)×Int×(List (Int×(List (List Int))))×Int×Int)
 |0,_=>none
 |n+1,(t0,t2,t7,t9,t10,t11,t12,t13,t14,t15,t28,t29,t30,t56,t57)=>
 if decide (t57<t56)then
 (As Ab ((),t0,t2,(t7.1,(t7.2.1,t7.2.2)),(t9.1,t9.2),t10,t11,t12,t13,t14,t15,t57,t28,t29,t30,t56,t57,(t13.length:Int),0)).bind λs5=>
 if inb s5.2.2.2.2.2.2.2.2.2.2.1 s5.2.2.2.2.2.2.2.2.1 then
 Ar n (s5.1,s5.2.1,(s5.2.2.1.1,(s5.2.2.1.2.1,s5.2.2.1.2.2)),(s5.2.2.2.1.1,s5.2.2.2.1.2),s5.2.2.2.2.1,s5.2.2.2.2.2.1,s5.2.2.2.2.2.2.1,s5.2.2.2.2.2.2.2.1,s5.2.2.2.2.2.2.2.2.1,Yiv s5.2.2.2.2.2.2.2.2.2.1 (gd s5.2.2.2.2.2.2.2.2.1 s5.2.2.2.2.2.2.2.2.2.2.1 0),s5.2.2.2.2.2.2.2.2.2.2.2.1,s5.2.2.2.2.2.2.2.2.2.2.2.2.1,s5.2.2.2.2.2.2.2.2.2.2.2.2.2.1,s5.2.2.2.2.2.2.2.2.2.2.2.2.2.2.1,w64 (s5.2.2.2.2.2.2.2.2.2.2.2.2.2.2.2+1))
 else none
 else
 some (t0,t2,(t7.1,(t7.2.1,t7.2.2)),(t9.1,t9.2),t10,t11,t12,t14,t15,t28,t29,t30)
def Ap:Nat->(Int×Int×(Int×(Int×(List (List ((List Int)×(List ByteArray))))))×(Int×(List (List Int)))×(List ByteArray)×(List ByteArray)×Int×(List (Int×(List (List Int))))×Int×Int)->Option (Int×Int×(Int×(Int×(List (List ((List Int)×(List ByteArray))))))×(List (Int×(List (List Int))))×Int×Int)
 |0,_=>none
 |n+1,(t0,t2,t7,t9,t10,t11,t12,t28,t29,t30)=>
 (Cl (t9.2.length:Int) t2).bind λr3=>
 if decide (t12<r3)then
 (BN t12 t2 (t9.2.length:Int)).bind λr4=>
 if 0<=t9.1/\t9.1<=t9.1/\t9.1<=lim then
 (Ar Ab (t0,t2,(t7.1,(t7.2.1,t7.2.2)),(t9.1,t9.2),t10,t11,t12,r4,List.replicate (Int.toNat t9.1) (0:Int),0,t28,t29,t30,((List.replicate (Int.toNat t9.1) (0:Int)).length:Int),0)).bind λs5=>
 (BE s5.2.2.2.2.2.2.2.1).bind λr6=>
 if !(Xs s5.2.2.2.2.2.1 r6)then
 if inb s5.2.2.2.2.2.2.2.2.1 s5.2.2.1.2.2 then
 if(gd s5.2.2.1.2.2 s5.2.2.2.2.2.2.2.2.1 []).length+ [(s5.2.2.2.2.2.2.2.1,s5.2.2.2.2.1)].length<=lim then
 if inb s5.2.2.2.2.2.2.2.2.1 s5.2.2.1.2.2 then
 if s5.2.2.2.2.2.2.2.2.1=s5.2.2.2.2.2.2.2.2.1 then
 Ap n (s5.1,s5.2.1,(s5.2.2.1.1,(s5.2.2.1.2.1,stt s5.2.2.1.2.2 s5.2.2.2.2.2.2.2.2.1 ((gd s5.2.2.1.2.2 s5.2.2.2.2.2.2.2.2.1 [])++ [(s5.2.2.2.2.2.2.2.1,s5.2.2.2.2.1)]))),(s5.2.2.2.1.1,s5.2.2.2.1.2),s5.2.2.2.2.1,YhI s5.2.2.2.2.2.1 r6,w64 (s5.2.2.2.2.2.2.1+1),s5.2.2.2.2.2.2.2.2.2.1,s5.2.2.2.2.2.2.2.2.2.2.1,s5.2.2.2.2.2.2.2.2.2.2.2)
 else none
 else none
 else none
 else none
 else
 Ap n (s5.1,s5.2.1,(s5.2.2.1.1,(s5.2.2.1.2.1,s5.2.2.1.2.2)),(s5.2.2.2.1.1,s5.2.2.2.1.2),s5.2.2.2.2.1,s5.2.2.2.2.2.1,w64 (s5.2.2.2.2.2.2.1+1),s5.2.2.2.2.2.2.2.2.2.1,s5.2.2.2.2.2.2.2.2.2.2.1,s5.2.2.2.2.2.2.2.2.2.2.2)
 else none
 else
 some (t0,t2,(t7.1,(t7.2.1,t7.2.2)),t28,t29,t30)
def Au:Nat->(Int×Int×(Int×(Int×(List (List ((List Int)×(List ByteArray))))))×(List (Int×(List (List Int))))×Int×Int)->Option ((Int×(Int×(List (List ((List Int)×(List ByteArray)))))))
 |0,_=>none
 |n+1,(t0,t2,t7,t28,t29,t30)=>
 if decide (t30<t29)then
 if inb t30 t28 then
 (BK ((gd t28 t30 (0,[])).1,(gd t28 t30 (0,[])).2)).bind λr2=>
 (Ap Ab (t0,t2,(t7.1,(t7.2.1,t7.2.2)),((gd t28 t30 (0,[])).1,(gd t28 t30 (0,[])).2),r2,[],0,t28,t29,t30)).bind λs3=>
 Au n (s3.1,s3.2.1,(s3.2.2.1.1,(s3.2.2.1.2.1,s3.2.2.1.2.2)),s3.2.2.2.1,s3.2.2.2.2.1,w64 (s3.2.2.2.2.2+1))
 else none
 else
 some (t7.1,(t7.2.1,t7.2.2))
def BF (t0:Int) (t1:List (Int×(List (List Int)))) (t2:Int):Option ((Bool×Int×Int×(List (List ((List Int)×(List ByteArray)))))):=
 (Cl t0 t2).bind λr1=>
 if 0<=r1/\r1<=r1/\r1<=lim then
 (Au Ab (t0,t2,(t0,(t2,List.replicate (Int.toNat r1) ([]:List ((List Int)×(List ByteArray))))),t1,(t1.length:Int),0)).bind λs2=>
 some (true,(s2.1,(s2.2.1,s2.2.2)))
 else none
def C2 (list:List Int):Option ((List Int)):=
 if([]:List Int).length+list.length<=lim then
 some ([]++list)
 else none
def Al:Nat->((List Int)×(List ((List Int)×(List ByteArray)))×Int×Int)->Option ((Unit)⊕(Bool))
 |0,_=>none
 |n+1,(table,t15,t16,t17)=>
 if decide (t17<t16)then
 if inb t17 t15 then
 (BI ((gd t15 t17 ([],[])).1) table).bind λr1=>
 (BE r1).bind λr2=>
 if !(Xs ((gd t15 t17 ([],[])).2) r2)then
 some (.inr false)
 else
 Al n (table,t15,t16,w64 (t17+1))
 else none
 else
 some (.inl ())
def An (s:Bool×Int×Int×(List (List ((List Int)×(List ByteArray))))) (table:List Int) (at_:Int):Option (Bool):=
 if s.1=true then
  if inb at_ s.2.2.2 then
   (Al Ab (table,gd s.2.2.2 at_ [],((gd s.2.2.2 at_ []).length:Int),0)).bind λs1=>
    match s1 with
    | .inl s2=>
     some true
    | .inr s3=>
     some s3
  else none
 else none
def AJ:Nat->((List (Int×(List (List Int))))×(List (Int×(List (List Int))))×Int)->Option ((Unit)⊕(Bool))
 |0,_=>none
 |n+1,(a,b,i)=>
 if decide (i<(a.length:Int))then
 if inb i a then
 if inb i b then
 (BC (gd a i (0,[])) (gd b i (0,[]))).bind λr1=>
 if !r1 then
 some (.inr false)
 else
 AJ n (a,b,w64 (i+1))
 else none
 else none
 else
 some (.inl ())
def Ch (a:List (Int×(List (List Int)))) (b:List (Int×(List (List Int)))):Option (Bool):=
 if(a.length:Int) !=(b.length:Int)then
  some false
 else
  (AJ Ab (a,b,0)).bind λs1=>
   match s1 with
   | .inl s2=>
    some true
   | .inr s3=>
    some s3
def AA:Nat->((List (Int×(List (List Int))))×Int×Int)->Option ((List (Int×(List (List Int))))×Int)
 |0,_=>none
 |n+1,(a,k,i)=>
 if decide (i<(a.length:Int))then
 if inb i a then
 if inb i (stt a i (k,(gd a i (0,[])).2))then
 (B2 ((gd (stt a i (k,(gd a i (0,[])).2)) i (0,[])).2) (w64 (k+1))).bind λr1=>
 AA n (stt (stt a i (k,(gd a i (0,[])).2)) i ((gd (stt a i (k,(gd a i (0,[])).2)) i (0,[])).1,r1.1),r1.2,w64 (i+1))
 else none
 else none
 else
 some (a,k)
def Bg (a:List (Int×(List (List Int)))) (k:Int):Option ((List (Int×(List (List Int))))×Int):=
 (AA Ab (a,k,0)).bind λs1=>
 some (s1.1,s1.2)
def Dk (f:List Int):Option (Bool):=
 some true
def Bp (table:List Int) (t1:Unit) (t2:Int) (t3:Int×(List Int)) (t4:Bool):Option (Int×(Int×(List Int))×Bool×Bool):=
 (Dk table).bind λr1=>
 if r1 then
 (C2 table).bind λr2=>
 some (t2,(t2,r2),true,!true)
 else
 some (t2,(t3.1,t3.2),t4,!t4)
def Aa (rec:(Int×(List Int)×(Unit×(Int×((Int×(List Int))×Bool)))×(Bool×Int×Int×(List (List ((List Int)×(List ByteArray)))))×(List Int)×Unit)->Option ((List Int)×(Unit×(Int×((Int×(List Int))×Bool)))×(Bool×Int×Int×(List (List ((List Int)×(List ByteArray)))))×(List Int)×Bool)):Nat->(Int×(List Int)×(Unit×(Int×((Int×(List Int))×Bool)))×(Bool×Int×Int×(List (List ((List Int)×(List ByteArray)))))×(List Int)×Unit×Int)->Option (((List Int)×(Unit×(Int×((Int×(List Int))×Bool)))×(Bool×Int×Int×(List (List ((List Int)×(List ByteArray)))))×(List Int)×Unit)⊕((List Int)×(Unit×(Int×((Int×(List Int))×Bool)))×(Bool×Int×Int×(List (List ((List Int)×(List ByteArray)))))×(List Int)×Unit×Bool))
 |0,_=>none
 |n+1,(at_,t1,t2,t3,t4,t5,x)=>
 if t3.1=true then
 if decide (x<t3.2.1)then
 if inb at_ t4 then
 if decide ((gd t4 at_ 0)≥0)then
 if inb at_ t4 then
 if(gd t4 at_ 0) !=x then
 Aa rec n (at_,t1,(t2.1,(t2.2.1,((t2.2.2.1.1,t2.2.2.1.2),t2.2.2.2))),t3,t4,(),w64 (x+1))
 else
 if inb at_ t1 then
 (An t3 (stt t1 at_ x) at_).bind λr2=>
 if r2 then
 (rec (w64 (at_+1),stt t1 at_ x,(t2.1,(t2.2.1,((t2.2.2.1.1,t2.2.2.1.2),t2.2.2.2))),t3,t4,())).bind λr3=>
 if !r3.2.2.2.2 then
 some (.inr (r3.1,(r3.2.1.1,(r3.2.1.2.1,((r3.2.1.2.2.1.1,r3.2.1.2.2.1.2),r3.2.1.2.2.2))),r3.2.2.1,r3.2.2.2.1,(),false))
 else
 Aa rec n (at_,r3.1,(r3.2.1.1,(r3.2.1.2.1,((r3.2.1.2.2.1.1,r3.2.1.2.2.1.2),r3.2.1.2.2.2))),r3.2.2.1,r3.2.2.2.1,(),w64 (x+1))
 else
 Aa rec n (at_,stt t1 at_ x,(t2.1,(t2.2.1,((t2.2.2.1.1,t2.2.2.1.2),t2.2.2.2))),t3,t4,(),w64 (x+1))
 else none
 else none
 else
 if inb at_ t1 then
 (An t3 (stt t1 at_ x) at_).bind λr4=>
 if r4 then
 (rec (w64 (at_+1),stt t1 at_ x,(t2.1,(t2.2.1,((t2.2.2.1.1,t2.2.2.1.2),t2.2.2.2))),t3,t4,())).bind λr5=>
 if !r5.2.2.2.2 then
 some (.inr (r5.1,(r5.2.1.1,(r5.2.1.2.1,((r5.2.1.2.2.1.1,r5.2.1.2.2.1.2),r5.2.1.2.2.2))),r5.2.2.1,r5.2.2.2.1,(),false))
 else
 Aa rec n (at_,r5.1,(r5.2.1.1,(r5.2.1.2.1,((r5.2.1.2.2.1.1,r5.2.1.2.2.1.2),r5.2.1.2.2.2))),r5.2.2.1,r5.2.2.2.1,(),w64 (x+1))
 else
 Aa rec n (at_,stt t1 at_ x,(t2.1,(t2.2.1,((t2.2.2.1.1,t2.2.2.1.2),t2.2.2.2))),t3,t4,(),w64 (x+1))
 else none
 else none
 else
 some (.inl (t1,(t2.1,(t2.2.1,((t2.2.2.1.1,t2.2.2.1.2),t2.2.2.2))),t3,t4,()))
 else none
def Ai (rec:(Int×(List Int)×(Unit×(Int×((Int×(List Int))×Bool)))×(Bool×Int×Int×(List (List ((List Int)×(List ByteArray)))))×(List Int)×Unit)->Option ((List Int)×(Unit×(Int×((Int×(List Int))×Bool)))×(Bool×Int×Int×(List (List ((List Int)×(List ByteArray)))))×(List Int)×Bool)) (at_:Int) (t1:List Int) (t2:Unit×(Int×((Int×(List Int))×Bool))) (t3:Bool×Int×Int×(List (List ((List Int)×(List ByteArray))))) (t4:List Int) (t5:Unit):Option ((List Int)×(Unit×(Int×((Int×(List Int))×Bool)))×(Bool×Int×Int×(List (List ((List Int)×(List ByteArray)))))×(List Int)×Bool):=
 if at_==(t1.length:Int)then
  (Bp t1 t2.1 t2.2.1 (t2.2.2.1.1,t2.2.2.1.2) t2.2.2.2).bind λr1=>
   some (t1,((),(r1.1,((r1.2.1.1,r1.2.1.2),r1.2.2.1))),t3,t4,r1.2.2.2)
 else
  (Aa rec Ab (at_,t1,(t2.1,(t2.2.1,((t2.2.2.1.1,t2.2.2.1.2),t2.2.2.2))),t3,t4,(),0)).bind λs2=>
   match s2 with
   | .inl s3=>
    some (s3.1,(s3.2.1.1,(s3.2.1.2.1,((s3.2.1.2.2.1.1,s3.2.1.2.2.1.2),s3.2.1.2.2.2))),s3.2.2.1,s3.2.2.2.1,true)
   | .inr s4=>
    some (s4.1,(s4.2.1.1,(s4.2.1.2.1,((s4.2.1.2.2.1.1,s4.2.1.2.2.1.2),s4.2.1.2.2.2))),s4.2.2.1,s4.2.2.2.1,s4.2.2.2.2.2)
def Ac:Nat->(Int×(List Int)×(Unit×(Int×((Int×(List Int))×Bool)))×(Bool×Int×Int×(List (List ((List Int)×(List ByteArray)))))×(List Int)×Unit)->Option ((List Int)×(Unit×(Int×((Int×(List Int))×Bool)))×(Bool×Int×Int×(List (List ((List Int)×(List ByteArray)))))×(List Int)×Bool)
 |0,_=>none
 |d+1,x=>Ai (Ac d) x.1 x.2.1 x.2.2.1 x.2.2.2.1 x.2.2.2.2.1 x.2.2.2.2.2
def Aq (s:Bool×Int×Int×(List (List ((List Int)×(List ByteArray))))) (given:List Int) (found:Unit×(Int×((Int×(List Int))×Bool))):Option ((Unit×(Int×((Int×(List Int))×Bool)))):=
 if 0<=(given.length:Int)/\(given.length:Int)<=(given.length:Int)/\(given.length:Int)<=lim then
 (Ac Ab (0,List.replicate (Int.toNat (given.length:Int)) (0:Int),(found.1,(found.2.1,((found.2.2.1.1,found.2.2.1.2),found.2.2.2))),s,given,())).bind λr1=>
 some (r1.2.1.1,(r1.2.1.2.1,((r1.2.1.2.2.1.1,r1.2.1.2.2.1.2),r1.2.1.2.2.2)))
 else none
def Ax (n_:Int) (rels:List (Int×(List (List Int)))) (k:Int) (given:List Int) (good:Unit):Option ((Int×(List Int))×Bool):=
 (BF n_ rels k).bind λr1=>
 (Aq r1 given (good,(k,((0,[]),false)))).bind λr2=>
 some ((r2.2.2.1.1,r2.2.2.1.2),r2.2.2.2)
def CV (n_:Int) (rels:List (Int×(List (List Int)))) (fixed:List Int):Option ((Int×(List Int))×Bool):=
 (BO n_ rels 3 fixed 1).bind λr1=>
 if r1.2.1==0 then
 some ((0,[]),false)
 else
 if inb 0 r1.1 then
 some ((3,gd r1.1 0 []),true)
 else none
def Ak:Nat->(Int×(List (Int×(List (List Int))))×(Int×(List Int))×(List Int)×Int×Int)->Option (Int×(List (Int×(List (List Int))))×(Int×(List Int))×(List Int)×Int)
 |0,_=>none
 |n+1,(t0,t1,t4,t6,t7,t8)=>
 if decide (t8<t0)then
 if inb (w64 ((w64 ((w64 ((w64 (t7*t0))*t0))+(w64 (t8*t0))))+t8)) t6 then
 if inb (w64 ((w64 ((w64 ((w64 (t7*t0))*t0))+(w64 (t7*t0))))+t8)) (stt t6 (w64 ((w64 ((w64 ((w64 (t7*t0))*t0))+(w64 (t8*t0))))+t8)) t7)then
 Ak n (t0,t1,(t4.1,t4.2),stt (stt t6 (w64 ((w64 ((w64 ((w64 (t7*t0))*t0))+(w64 (t8*t0))))+t8)) t7) (w64 ((w64 ((w64 ((w64 (t7*t0))*t0))+(w64 (t7*t0))))+t8)) t8,t7,w64 (t8+1))
 else none
 else none
 else
 some (t0,t1,(t4.1,t4.2),t6,t7)
def Aj:Nat->(Int×(List (Int×(List (List Int))))×(Int×(List Int))×(List Int)×Int)->Option (Int×(List (Int×(List (List Int))))×(Int×(List Int))×(List Int))
 |0,_=>none
 |n+1,(t0,t1,t4,t6,t7)=>
 if decide (t7<t0)then
 (Ak Ab (t0,t1,(t4.1,t4.2),t6,t7,0)).bind λs3=>
 Aj n (s3.1,s3.2.1,(s3.2.2.1.1,s3.2.2.1.2),s3.2.2.2.1,w64 (s3.2.2.2.2+1))
 else
 some (t0,t1,(t4.1,t4.2),t6)
def Be (t0:Int) (t1:List (Int×(List (List Int)))):Option ((Int×(List Int))×Bool):=
 (Ce t0 t1 3).bind λr1=>
 if !r1 then
 some ((0,[]),false)
 else
 if decide (t0>2)then
 some ((0,[]),false)
 else
 (Cr (w64 ((w64 (t0*t0))*t0))).bind λr2=>
 (Aj Ab (t0,t1,(0,[]),r2,0)).bind λs3=>
 (CV s3.1 s3.2.1 s3.2.2.2).bind λr4=>
 some ((r4.1.1,r4.1.2),r4.2)
def Af:Nat->(Int×(List (Int×(List (List Int))))×(Int×(List Int))×(List Int)×Int×Int)->Option (Int×(List (Int×(List (List Int))))×(Int×(List Int))×(List Int))
 |0,_=>none
 |n+1,(t0,t1,t4,t6,t25,t26)=>
 if decide (t26<t25)then
 (BN t26 3 t0).bind λr3=>
 if inb 1 r3 then
 if inb 2 r3 then
 if(gd r3 1 0)==(gd r3 2 0)then
 if inb 0 r3 then
 if inb t26 t6 then
 Af n (t0,t1,(t4.1,t4.2),stt t6 t26 (gd r3 0 0),t25,w64 (t26+1))
 else none
 else none
 else
 if inb 0 r3 then
 if inb 1 r3 then
 if(gd r3 0 0)==(gd r3 1 0)then
 if inb 2 r3 then
 if inb t26 t6 then
 Af n (t0,t1,(t4.1,t4.2),stt t6 t26 (gd r3 2 0),t25,w64 (t26+1))
 else none
 else none
 else
 Af n (t0,t1,(t4.1,t4.2),t6,t25,w64 (t26+1))
 else none
 else none
 else none
 else none
 else
 some (t0,t1,(t4.1,t4.2),t6)
def AE (t0:Int) (t1:List (Int×(List (List Int)))):Option ((Int×(List Int))×Bool):=
 (CD t0 t1 3).bind λr1=>
 if !r1 then
 some ((0,[]),false)
 else
 if decide (t0>2)then
 some ((0,[]),false)
 else
 (B1 (w64 ((w64 (t0*t0))*t0))).bind λr2=>
 (Af Ab (t0,t1,(0,[]),r2,(r2.length:Int),0)).bind λs3=>
 (Ax s3.1 s3.2.1 3 s3.2.2.2 ()).bind λr4=>
 some ((r4.1.1,r4.1.2),r4.2)
def Ba (t0:Int) (t1:List (Int×(List (List Int)))):Option (Bool):=
 (Ci t1 1048576).bind λr1=>
 if decide (r1<0)then
 some true
 else
 (Bd t1).bind λr2=>
 (Be t0 r2).bind λr3=>
 (Bd t1).bind λr4=>
 (AE t0 r4).bind λr5=>
 (BY (r5.1.1,r5.1.2) (r3.1.1,r3.1.2)).bind λr6=>
 if !r6 then
 some false
 else
 if r5.2 !=r3.2 then
 some false
 else
 (Bd t1).bind λr7=>
 (Ch r4 r7).bind λr8=>
 if !r8 then
 some false
 else
 (Bg r4 1).bind λr9=>
 if decide (r9.2<0)then
 some false
 else
 (BY (r5.1.1,r5.1.2) (r3.1.1,r3.1.2)).bind λr10=>
 if !r10 then
 some false
 else
 if r5.2 !=r3.2 then
 some false
 else
 (Dl (r5.1.1,r5.1.2) 1).bind λr11=>
 (CH (r5.1.1,r11.1.2) 1).bind λr12=>
 if decide (r12<0)then
 some false
 else
 if r12 !=r11.2 then
 some false
 else
 (Bd t1).bind λr13=>
 (AE t0 r13).bind λr14=>
 (BY (r14.1.1,r14.1.2) (r3.1.1,r3.1.2)).bind λr15=>
 if !r15 then
 some false
 else
 if r14.2 !=r3.2 then
 some false
 else
 (CH (r5.1.1,r11.1.2) 1).bind λr16=>
 if decide (r16<0)then
 some false
 else
 if r16 !=r11.2 then
 some false
 else
 some true
end T
open Go Go.Va
namespace T
theorem Gy {a b:Nat} (ha:a<4611686018427387904):w64 (Int.tdiv (a:Int) (b:Int))=((a/b:Nat):Int):=by
 rw[Int.tdiv_eq_ediv_of_nonneg (by omega),←Int.natCast_ediv]
 have:=Nat.div_le_self a b
 generalize a/b=q at this
 exact Ay (by omega) (by omega)
theorem Gz {a b:Nat}:Int.tmod (a:Int) (b:Int)=((a%b:Nat):Int):=by
 rw[Int.tmod_eq_emod_of_nonneg (by omega),←Int.natCast_emod]
section
variable {n:Nat}
theorem EU {a:Nat} (h:a<4611686018427387904):w64 (a:Int)=(a:Int):=Ay (by omega) (by omega)
end
end T
open Go Go.Va
namespace T
abbrev Az:=Int×List (List Int)
structure ROk (n m:Nat) (r:Az):Prop where
 ar:r.1=(m:Int)
 hm:1<=m/\m<=3
 tl: ∀t∈r.2,t.length=m
 tv: ∀t∈r.2,∀x∈t,0<=x/\x<(n:Int)
 many:r.2.length<=64
 inc:B4 r.2=true
theorem GN {n:Nat} {r:Az} (hn:1<=n/\n<=4) (h:Df (n:Int) r=true):ROk n r.1.toNat r:=by
 unfold Df at h
 simp only[Bool.and_eq_true,decide_eq_true_eq,List.all_eq_true]at h
 obtain⟨⟨h1,h2⟩,h3⟩:=h
 refine⟨by omega,by omega,λt ht=>by have:=(h2 t ht).1;omega,λt ht x hx=>?_,?_,h3⟩
 ·obtain⟨j,hj,rfl⟩:=List.mem_iff_getElem.1 hx
  exact Dw (h2 t ht).2 j hj
 ·rcases D8 (n:=(n:Int)) (k:=r.1.toNat) h3 λt ht=>⟨by have:=(h2 t ht).1;omega,(h2 t ht).2⟩with h6|h6
  ·have h7:((n:Int))^r.1.toNat=((n^r.1.toNat:Nat):Int):=by push_cast;rfl
   have h8:=By hn.2 (show r.1.toNat<=3 by omega)
   omega
  ·rw[h6];simp
theorem FY {b:Nat} (hb:b<=64): ∀(m k j:Nat),j+k<=3->k<m->AY m ((b:Int),(k:Int),((b^j:Nat):Int))=some (((b^(j+k):Nat):Int)):=by
 intro m
 induction m with
 |zero=>intro k j _ h;omega
 |succ m ih=>
  intro k j hj hk
  simp only[AY]
  cases k with
  |zero=>simp
  |succ k=>
   have e:w64 (((k+1:Nat):Int)-1)=(k:Int):=by rw[Ay (by omega) (by omega)];omega
   rw[e,EA hb (by omega),if_pos (by simp),ih k (j+1) (by omega) (by omega)]
   congr 3;omega
theorem Ct {b k:Nat} (hb:b<=64) (hk:k<=3):BG (b:Int) (k:Int)=some (((b^k:Nat):Int)):=by
 unfold BG
 have:=FY hb Ab k 0 (by omega) (by unfold Ab;omega)
 have this:AY Ab ((b:Int),(k:Int),1)=_:=this
 rw[this];simp
theorem FB {l:List Nat} {s:List Nat} {x y:Nat}:(cI (l++x::s)).set l.length (y:Int)=cI (l++y::s):=by
 unfold cI
 rw[List.map_append,List.map_append,List.map_cons,List.map_cons,List.set_append_right _ _ (by simp)]
 simp
theorem Gb {b:Nat} (hb:0<b): ∀(j i f:Nat) (s:List Nat),j<f->i<4611686018427387904->j<=1000->
  Bq f ((i:Int),(b:Int),cI (List.replicate j 0++s),(j:Int)-1)=some (cI (dg b j i++s)):=by
 intro j
 induction j with
 |zero=>
  intro i f s hf hi hj
  obtain⟨f,rfl⟩: ∃z,f=z+1:=⟨f-1,by omega⟩
  simp only[Bq]
  rw[if_neg (by simp)];rfl
 |succ j ih=>
  intro i f s hf hi hj
  obtain⟨f,rfl⟩: ∃z,f=z+1:=⟨f-1,by omega⟩
  have e1:((j+1:Nat):Int)-1=(j:Int):=by omega
  have hz:List.replicate (j+1) 0++s=List.replicate j 0++0::s:=by rw[List.replicate_succ'];simp
  have hlen:j<(cI (List.replicate j 0++0::s)).length:=by rw[Bz];simp
  have hset:=FB (l:=List.replicate j 0) (s:=s) (x:=0) (y:=i%b)
  rw[List.length_replicate]at hset
  have w2:w64 ((j:Int)-1)=(j:Int)-1:=Ay (by omega) (by omega)
  have hle:=Nat.div_le_self i b
  rw[e1,hz]
  simp only[Bq,Gy hi,Gz,Ae,hlen,A7,hset,w2]
  rw[if_pos (by simp),if_pos (by omega),if_pos trivial,if_pos (by omega),ih (i/b) f _ (by omega) (by omega) (by omega)]
  simp[dg]
theorem CC {b k i:Nat} (hb:0<b) (hk:k<=1000) (hi:i<4611686018427387904):BN (i:Int) (k:Int) (b:Int)=some (cI (dg b k i)):=by
 have h:=Gb hb k i Ab [] (by unfold Ab;omega) hi hk
 have e:cI (List.replicate k 0++ [])=List.replicate (Int.toNat (k:Int)) (0:Int):=by unfold cI;simp
 rw[e,List.append_nil]at h
 unfold BN
 rw[Ay (x:=(k:Int)-1) (by omega) (by omega),h,if_pos (by unfold lim;omega)];rfl
theorem Fi {b:Nat} (hb:0<b): ∀(j i f:Nat) (s:List Nat),j<f->i<4611686018427387904->j<=1000->
  Bw f ((b:Int),(i:Int),cI (List.replicate j 0++s),(j:Int)-1)=some (cI (dg b j i++s)):=by
 intro j
 induction j with
 |zero=>
  intro i f s hf hi hj
  obtain⟨f,rfl⟩: ∃z,f=z+1:=⟨f-1,by omega⟩
  simp only[Bw]
  rw[if_neg (by simp)];rfl
 |succ j ih=>
  intro i f s hf hi hj
  obtain⟨f,rfl⟩: ∃z,f=z+1:=⟨f-1,by omega⟩
  have e1:((j+1:Nat):Int)-1=(j:Int):=by omega
  have hz:List.replicate (j+1) 0++s=List.replicate j 0++0::s:=by rw[List.replicate_succ'];simp
  have hlen:j<(cI (List.replicate j 0++0::s)).length:=by rw[Bz];simp
  have hset:=FB (l:=List.replicate j 0) (s:=s) (x:=0) (y:=i%b)
  rw[List.length_replicate]at hset
  have w2:w64 ((j:Int)-1)=(j:Int)-1:=Ay (by omega) (by omega)
  have hle:=Nat.div_le_self i b
  rw[e1,hz]
  simp only[Bw,Gy hi,Gz,Ae,hlen,A7,hset,w2]
  rw[if_pos (by simp),if_pos (by omega),if_pos trivial,if_pos (by omega),ih (i/b) f _ (by omega) (by omega) (by omega)]
  simp[dg]
theorem DS {b k i:Nat} (hb:0<b) (hk:k<=1000) (hi:i<4611686018427387904):CL (b:Int) (k:Int) (i:Int)=some (cI (dg b k i)):=by
 have h:=Fi hb k i Ab [] (by unfold Ab;omega) hi hk
 have e:cI (List.replicate k 0++ [])=List.replicate (Int.toNat (k:Int)) (0:Int):=by unfold cI;simp
 rw[e,List.append_nil]at h
 unfold CL
 rw[Ay (x:=(k:Int)-1) (by omega) (by omega),h,if_pos (by unfold lim;omega)];rfl
def PL (n k:Nat) (r:Az) (i:Nat):List Nat:=(List.range r.1.toNat).map λj=>atF n r.2 j (dg r.2.length k i)
def Aw (l:List Nat):Nat:=l.foldl max 0
theorem CG: ∀(l:List Nat) (a:Nat),a<=l.foldl max a/\ ∀x∈l,x<=l.foldl max a
 | [],a=>⟨Nat.le_refl _,λx h=>by simp at h⟩
 |y::l,a=>by
  obtain⟨h1,h2⟩:=CG l (max a y)
  refine⟨by rw[List.foldl_cons];omega,λx hx=>?_⟩
  rw[List.foldl_cons]
  rcases List.mem_cons.1 hx with rfl|hx
  ·omega
  ·exact h2 x hx
theorem DG {l:List Nat} {b:Nat} (hb:0<b) (h: ∀x∈l,x<b):Aw l<b:=by
 unfold Aw
 have key: ∀(l:List Nat) (a:Nat),a<b->(∀x∈l,x<b)->l.foldl max a<b:=by
  intro l
  induction l with
  |nil=>intro a ha _;exact ha
  |cons y l ih=>intro a ha hl;rw[List.foldl_cons];exact ih _ (by have:=hl y (by simp);omega) λx hx=>hl x (List.mem_cons_of_mem _ hx)
 exact key l 0 hb h
section
variable {n k m:Nat} {r:Az}
theorem ROk.vt_lt (h:ROk n m r) {x j:Nat} (hx:x<r.2.length) (hj:j<m):vt r.2 x j<n/\(r.2.getD x []).getD j 0=((vt r.2 x j:Nat):Int)/\j<(r.2.getD x []).length:=by
 have hmem:r.2[x]∈r.2:=List.getElem_mem hx
 have hl:=h.tl _ hmem
 have hj':j<(r.2[x]).length:=by omega
 have hv:=h.tv _ hmem _ (List.getElem_mem hj')
 unfold vt
 rw[Am hx,Am hj']
 exact⟨by omega,by omega,by omega⟩
theorem ROk.at_lt (h:ROk n m r) {j:Nat} (hj:j<m) (a:List Nat) (ha: ∀x∈a,x<r.2.length):atF n r.2 j a<n^a.length:=by
 have:=EY (n:=n) (v:=λx=>vt r.2 x j) a 0 λx hx=>(h.vt_lt (ha x hx) hj).1
 unfold atF;omega
theorem ROk.pl_lt (h:ROk n m r) {i:Nat} (hb:0<r.2.length): ∀x∈PL n k r i,x<n^k:=λx hx=>by
 unfold PL at hx
 obtain⟨j,hj,rfl⟩:=List.mem_map.1 hx
 have:=h.at_lt (j:=j) (by have:=List.mem_range.1 hj;have:=h.ar;omega) (dg r.2.length k i) (EV hb)
 rw[Dx]at this
 exact this
theorem ROk.pl_len (h:ROk n m r) {i:Nat}:(PL n k r i).length=m:=by unfold PL;simp;have:=h.ar;omega
end
end T
open Go Go.Va
namespace T
def Dj {α:Type} (X:List (List α)) (p:Nat) (d:α):List (List α):=X.set p (X.getD p []++ [d])
theorem D3 {α:Type} {X:List (List α)} {p:Nat} {d:α}:(Dj X p d).length=X.length:=by unfold Dj;simp
theorem Da {α:Type} {X:List (List α)} {p q:Nat} {d:α} (hp:p<X.length):(Dj X p d).getD q []=if q=p then X.getD p []++ [d]else X.getD q []:=by
 unfold Dj
 by_cases e:q=p
 ·subst e;rw[if_pos rfl,Am (by simp;exact hp)];simp
 ·rw[if_neg e]
  simp only[List.getD_eq_getElem?_getD]
  rw[List.getElem?_set_ne (by omega)]
abbrev DT:=List (List (List Int×List ByteArray))
def BV (n k:Nat) (r:Az) (X:DT×List ByteArray) (i:Nat):DT×List ByteArray:=
 if Xs X.2 (Cb (cI (PL n k r i)))then X else(Dj X.1 (Aw (PL n k r i)) (cI (PL n k r i),Cg r.2),YhI X.2 (Cb (cI (PL n k r i))))
def Dg (n k:Nat) (D:DT) (r:Az):DT:=((List.range (r.2.length^k)).foldl (BV n k r) (D,[])).1
abbrev NT:=List (List (List Int×Int×List (List Int)))
def CP (n k:Nat) (r:Az) (X:NT) (i:Nat):NT:=Dj X (Aw (PL n k r i)) (cI (PL n k r i),r)
def C4 (n k:Nat) (X:NT) (r:Az):NT:=(List.range (r.2.length^k)).foldl (CP n k r) X
section
variable {n k m:Nat} {r:Az}
theorem GL (h:ROk n m r) (hn:1<=n/\n<=4) (hk:k<=3) {args:List Nat} (hl:args.length<=3) (ha: ∀x∈args,x<r.2.length) {j:Nat} (hj:j<m) {o:List Int} (ho:j<o.length) (h0:o.getD j 0=0)
  (p q:Int) (D:DT) (t10 t11:List ByteArray) (t12 t15:Int) (t28:List Az) (t29 t30 t56:Int):
  As Ab ((),(n:Int),(k:Int),(p,(q,D)),(r.1,r.2),t10,t11,t12,cI args,o,t15,(j:Int),t28,t29,t30,t56,(j:Int),((cI args).length:Int),0)
   =some ((n:Int),(k:Int),(p,(q,D)),(r.1,r.2),t10,t11,t12,cI args,o.set j ((atF n r.2 j args:Nat):Int),t15,(j:Int),t28,t29,t30,t56,(j:Int)):=by
 have:=Cw args.length (λf o i=>As f ((),(n:Int),(k:Int),(p,(q,D)),(r.1,r.2),t10,t11,t12,cI args,o,t15,(j:Int),t28,t29,t30,t56,(j:Int),((cI args).length:Int),i)) (λz=>o.set j ((atF n r.2 j (args.take z):Nat):Int))
  (r:=some ((n:Int),(k:Int),(p,(q,D)),(r.1,r.2),t10,t11,t12,cI args,o.set j ((atF n r.2 j args:Nat):Int),t15,(j:Int),t28,t29,t30,t56,(j:Int))) (λf z hz=>?_) (λf=>?_) (n:=Ab) (by unfold Ab;omega)
 ·have e:o.set j ((atF n r.2 j (args.take 0):Nat):Int)=o:=by
   have:((atF n r.2 j (args.take 0):Nat):Int)=o[j]:=by rw[Am ho]at h0;rw[h0];rfl
   rw[this,List.set_getElem_self]
  rw[e]at this
  exact this
 ·have hzc:z<(cI args).length:=by rw[Bz];exact hz
  have hx:=ha _ (List.getElem_mem hz)
  have hg:(cI args).getD z 0=((args[z]:Nat):Int):=by rw[Am hzc];simp[cI]
  obtain⟨v1,v2,v3⟩:=h.vt_lt hx hj
  have hlt:=h.at_lt hj (args.take z) λx hx=>ha x (List.mem_of_mem_take hx)
  have hp:=By (n:=n) (k:=(args.take z).length) hn.2 (by rw[List.length_take];omega)
  have hstep:=EI (n:=n) hn.2 (x:=atF n r.2 j (args.take z)) (v:=vt r.2 args[z] j) (by omega) v1
  have htk:args.take (z+1)=args.take z++ [args[z]]:=List.take_succ_eq_append_getElem hz
  have hos:j<(o.set j ((atF n r.2 j (args.take z):Nat):Int)).length:=by simp;exact ho
  have hog:(o.set j ((atF n r.2 j (args.take z):Nat):Int)).getD j 0=((atF n r.2 j (args.take z):Nat):Int):=by rw[Am hos];simp
  have hoo: ∀y:Int,(o.set j ((atF n r.2 j (args.take z):Nat):Int)).set j y=o.set j y:=λy=>by simp
  simp only[As,Ae,hzc,FJ,hg,hos,hog,hx,v3,v2,hstep,A7,hoo,htk,Dv,Ad (show z<4611686018427387904 by omega),if_true]
  rw[if_pos (by simp;rw[Bz];exact hz)]
 ·simp only[As,List.take_length]
  rw[if_neg (by rw[Bz];simp)]
theorem Ed {i j:Nat} (hj:j<(PL n k r i).length):(PL n k r i)[j]=atF n r.2 j (dg r.2.length k i):=by simp[PL]
theorem DH {l:List Nat} {j:Nat} (hj:j<l.length):Aw (l.take (j+1))=max (Aw (l.take j)) l[j]:=by
 unfold Aw;rw[List.take_succ_eq_append_getElem hj,List.foldl_append];rfl
theorem FU (a b:Nat):Yiv (a:Int) (b:Int)=((max a b:Nat):Int):=by
 unfold Yiv
 by_cases h:b>a
 ·rw[if_pos (by omega)];omega
 ·rw[if_neg (by omega)];omega
theorem GK (h:ROk n m r) (hn:1<=n/\n<=4) (hk:k<=3) (hb:0<r.2.length) (i:Nat) (p q:Int) (D:DT) (t10 t11:List ByteArray) (t12:Int) (t28:List Az) (t29 t30:Int):
  Ar Ab ((n:Int),(k:Int),(p,(q,D)),(r.1,r.2),t10,t11,t12,cI (dg r.2.length k i),List.replicate (Int.toNat r.1) (0:Int),0,t28,t29,t30,((List.replicate (Int.toNat r.1) (0:Int)).length:Int),0)
   =some ((n:Int),(k:Int),(p,(q,D)),(r.1,r.2),t10,t11,t12,cI (PL n k r i),((Aw (PL n k r i):Nat):Int),t28,t29,t30):=by
 have hm:=h.hm
 have har:=h.ar
 have hpl:=h.pl_len (k:=k) (i:=i)
 have hrep:List.replicate (Int.toNat r.1) (0:Int)=List.replicate m 0:=by rw[har];simp
 rw[hrep]
 have:=Cw m (λf (s:List Int×Int) j=>Ar f ((n:Int),(k:Int),(p,(q,D)),(r.1,r.2),t10,t11,t12,cI (dg r.2.length k i),s.1,s.2,t28,t29,t30,((List.replicate m (0:Int)).length:Int),j))
  (λj=>(cI ((PL n k r i).take j)++List.replicate (m-j) 0,((Aw ((PL n k r i).take j):Nat):Int)))
  (r:=some ((n:Int),(k:Int),(p,(q,D)),(r.1,r.2),t10,t11,t12,cI (PL n k r i),((Aw (PL n k r i):Nat):Int),t28,t29,t30)) (λf j hj=>?_) (λf=>?_) (n:=Ab) (by unfold Ab;omega)
 ·exact this
 ·have hjl:j<(PL n k r i).length:=by omega
  have htl:((PL n k r i).take j).length=j:=by rw[List.length_take];omega
  have hol:j<(cI ((PL n k r i).take j)++List.replicate (m-j) 0).length:=by rw[List.length_append,Bz,htl];simp;omega
  have hog:(cI ((PL n k r i).take j)++List.replicate (m-j) 0).getD j 0=0:=by
   rw[Am hol,List.getElem_append_right (by rw[Bz];omega)];simp
  have h17:=GL h hn hk (args:=dg r.2.length k i) (by rw[Dx];exact hk) (EV hb) hj hol hog p q D t10 t11 t12 ((Aw ((PL n k r i).take j):Nat):Int) t28 t29 t30 ((List.replicate m (0:Int)).length:Int)
  have hset:(cI ((PL n k r i).take j)++List.replicate (m-j) 0).set j ((atF n r.2 j (dg r.2.length k i):Nat):Int)=cI ((PL n k r i).take (j+1))++List.replicate (m-(j+1)) 0:=by
   rw[List.take_succ_eq_append_getElem hjl,Ed hjl,D4,show m-j=(m-(j+1))+1 by omega,List.replicate_succ,List.set_append_right _ _ (by rw[Bz];omega),Bz,htl]
   simp[cI]
  have hol':j<(cI ((PL n k r i).take (j+1))++List.replicate (m-(j+1)) 0).length:=by rw[←hset];simpa using hol
  have hog':(cI ((PL n k r i).take (j+1))++List.replicate (m-(j+1)) 0).getD j 0=(((PL n k r i)[j]:Nat):Int):=by
   rw[←hset,Am (by rw[List.length_set];exact hol),Ed hjl];simp
  rw[hset]at h17
  simp only[Ar,h17,Option.bind_some,Ae,hol',FJ,hog',FU,DH hjl,Ad (show j<4611686018427387904 by omega),if_true]
  rw[if_pos (by simp;omega)]
 ·have e:(PL n k r i).take m=PL n k r i:=List.take_of_length_le (by omega)
  simp only[Ar,e]
  rw[if_neg (by simp)];simp
theorem Fs (X:DT×List ByteArray) (i:Nat):(BV n k r X i).1.length=X.1.length:=by unfold BV;split<;>simp[D3]
theorem CQ: ∀(l:List Nat) (X:DT×List ByteArray),(l.foldl (BV n k r) X).1.length=X.1.length
 | [],X=>rfl
 |i::l,X=>by rw[List.foldl_cons,CQ l];exact Fs X i
theorem EB (D:DT):(Dg n k D r).length=D.length:=CQ _ _
def B7 {α:Type} (X:List (List α)) (B:Nat):Prop:= ∀p,(X.getD p []).length<=B
theorem Du {α:Type} {X:List (List α)} {B:Nat} (h:B7 X B) {p:Nat} {d:α}:B7 (Dj X p d) (B+1):=λq=>by
 rcases Nat.lt_or_ge p X.length with hp|hp
 ·rw[Da hp]
  have h1:=h p
  have h2:=h q
  split
  ·rw[List.length_append,List.length_singleton];omega
  ·omega
 ·unfold Dj;rw[List.set_eq_of_length_le hp];have:=h q;omega
theorem EP {X:DT×List ByteArray} {B:Nat} (h:B7 X.1 B) (i:Nat):B7 (BV n k r X i).1 (B+1):=by
 unfold BV
 split
 ·intro p;have:=h p;omega
 ·exact Du h
theorem C0: ∀(l:List Nat) (X:DT×List ByteArray) (B:Nat),B7 X.1 B->B7 (l.foldl (BV n k r) X).1 (B+l.length)
 | [],X,B,h=>h
 |i::l,X,B,h=>by
  have:=C0 l _ _ (EP (n:=n) (k:=k) (r:=r) h i)
  rw[List.foldl_cons,List.length_cons,show B+(l.length+1)=B+1+l.length by omega]
  exact this
theorem BJ {α:Type} {f:α->Nat->α} {a:α} {i:Nat}:(List.range (i+1)).foldl f a=f ((List.range i).foldl f a) i:=by rw[List.range_succ,List.foldl_append];rfl
theorem DN (h:ROk n m r) (hn:1<=n/\n<=4) (hk:k<=3) (hb:0<r.2.length) (i:Nat): ∀x∈cI (PL n k r i),0<=x/\x<256:=λx hx=>by
 unfold cI at hx
 obtain⟨y,hy,rfl⟩:=List.mem_map.1 hx
 have:=h.pl_lt hb y hy
 have:=By hn.2 hk
 omega
theorem G1 (h:ROk n m r) (hn:1<=n/\n<=4) (hk:k<=3) (hk1:0<k) {D:DT} (hD:D.length=n^k) {B:Nat} (hroom:B7 D B) (hB:B<=100000000) (p q:Int) (t28:List Az) (t29 t30:Int):
  Ap Ab ((n:Int),(k:Int),(p,(q,D)),(r.1,r.2),Cg r.2,[],0,t28,t29,t30)
   =some ((n:Int),(k:Int),(p,(q,Dg n k D r)),t28,t29,t30):=by
 have hm:=h.hm
 have har:=h.ar
 have hN:=E4 h.many hk
 have hmany:=h.many
 have:=Cw (r.2.length^k) (λf (s:DT×List ByteArray) i=>Ap f ((n:Int),(k:Int),(p,(q,s.1)),(r.1,r.2),Cg r.2,s.2,i,t28,t29,t30)) (λi=>(List.range i).foldl (BV n k r) (D,[]))
  (r:=some ((n:Int),(k:Int),(p,(q,Dg n k D r)),t28,t29,t30)) (λf i hi=>?_) (λf=>?_) (n:=Ab) (by unfold Ab;omega)
 ·exact this
 ·have hb:0<r.2.length:=by
   rcases Nat.eq_zero_or_pos r.2.length with e2|e2
   ·rw[e2,Nat.zero_pow hk1]at hi;omega
   ·exact e2
  have hlen:((List.range i).foldl (BV n k r) (D,[])).1.length=n^k:=by rw[CQ];exact hD
  have hro:=C0 (n:=n) (k:=k) (r:=r) (List.range i) (D,[]) B hroom
  rw[List.length_range]at hro
  generalize hX:(List.range i).foldl (BV n k r) (D,[])=X at hlen hro
  have hlast:Aw (PL n k r i)<X.1.length:=by
   rw[hlen];exact DG (Nat.pow_pos (by omega)) (h.pl_lt hb)
  have hkey:=Ca (l:=cI (PL n k r i)) (by rw[Bz,h.pl_len];omega) (DN h hn hk hb i)
  have h14:=GK h hn hk hb i p q X.1 (Cg r.2) X.2 (i:Int) t28 t29 t30
  have hlim:=hro (Aw (PL n k r i))
  rw[BJ,hX]
  simp only[Ap,Cm hmany hk,CC (k:=k) hb (by omega) (show i<4611686018427387904 by omega),Option.bind_some,h14,hkey,Ae,hlast,FJ,A7,Ad (show i<4611686018427387904 by omega)]
  rw[if_pos (decide_eq_true (show(i:Int)<((r.2.length^k:Nat):Int) from Int.ofNat_lt.2 hi)),if_pos (by unfold lim;omega)]
  unfold BV
  cases Xs X.2 (Cb (cI (PL n k r i)))with
  |true=>simp
  |false=>
   simp only[Bool.not_false,if_true,Bool.false_eq_true,if_false]
   rw[if_pos (by rw[List.length_singleton];unfold lim;omega)]
   rfl
 ·simp only[Ap,Cm hmany hk,Option.bind_some]
  rw[if_neg (by simp)];rfl
end
end T
open Go Go.Va
namespace T
structure RelsOk (n k:Nat) (rels:List Az):Prop where
 hn:1<=n/\n<=4
 hk:1<=k/\k<=3
 len:rels.length<=8
 ok: ∀r∈rels,ROk n r.1.toNat r
def BP (n k:Nat) (rels:List Az):DT:=rels.foldl (Dg n k) (List.replicate (n^k) [])
def BW (n k:Nat) (rels:List Az):NT:=rels.foldl (C4 n k) (List.replicate (n^k) [])
section
variable {n k m:Nat} {r:Az} {rels:List Az}
theorem RelsOk.cnt (h:RelsOk n k rels) (hr:r∈rels):r.2.length^k<=262144:=E4 (h.ok r hr).many h.hk.2
theorem Em (h:RelsOk n k rels) (t:Nat) (ht:t<=rels.length):((rels.take t).foldl (Dg n k) (List.replicate (n^k) [])).length=n^k/\B7 ((rels.take t).foldl (Dg n k) (List.replicate (n^k) [])) (262144*t):=by
 induction t with
 |zero=>exact⟨by simp,λp=>by simp[List.getD_eq_getElem?_getD,List.getElem?_replicate];split<;>simp⟩
 |succ t ih=>
  obtain⟨h1,h2⟩:=ih (by omega)
  have htl:t<rels.length:=by omega
  rw[List.take_succ_eq_append_getElem htl,List.foldl_append]
  simp only[List.foldl_cons,List.foldl_nil]
  refine⟨by rw[EB];exact h1,λp=>?_⟩
  have h3:=h.cnt (List.getElem_mem htl)
  have:=C0 (n:=n) (k:=k) (r:=rels[t]) (List.range (rels[t].2.length^k)) (_,[]) _ h2 p
  rw[List.length_range]at this
  exact Nat.le_trans this (by omega)
theorem Cy (h:RelsOk n k rels):BF (n:Int) rels (k:Int)=some (true,(n:Int),(k:Int),BP n k rels):=by
 have hk:=h.hk
 have hn:=h.hn
 have hl:=h.len
 have hp:=By (n:=n) (k:=k) hn.2 hk.2
 unfold BF
 rw[Cm (by omega) hk.2]
 simp only[Option.bind_some]
 have:=Cw rels.length (λf (s:DT) i=>Au f ((n:Int),(k:Int),((n:Int),((k:Int),s)),rels,(rels.length:Int),i)) (λt=>(rels.take t).foldl (Dg n k) (List.replicate (n^k) []))
  (r:=some ((n:Int),((k:Int),BP n k rels))) (λf t ht=>?_) (λf=>?_) (n:=Ab) (by unfold Ab;omega)
 ·have e:((rels.take 0).foldl (Dg n k) (List.replicate (n^k) []))=List.replicate (Int.toNat ((n^k:Nat):Int)) ([]:List (List Int×List ByteArray)):=by rw[Int.toNat_natCast];rfl
  rw[e]at this
  have this:Au Ab ((n:Int),(k:Int),((n:Int),((k:Int),List.replicate (Int.toNat ((n^k:Nat):Int)) ([]:List (List Int×List ByteArray)))),rels,(rels.length:Int),0)=_:=this
  rw[this,if_pos (by unfold lim;omega)];rfl
 ·have hr:=h.ok _ (List.getElem_mem ht)
  obtain⟨h1,h2⟩:=Em h t (by omega)
  have hm:=hr.hm
  have h8:=G1 hr hn hk.2 (by omega) h1 h2 (by omega) (n:Int) (k:Int) rels (rels.length:Int) (t:Int)
  have hts:=Dc (r:=rels[t]) (by have:=hr.many;omega) (λu hu=>⟨by have:=hr.tl u hu;omega,λx hx=>by have:=hr.tv u hu x hx;omega⟩)
  have hts:BK (rels[t].1,rels[t].2)=_:=hts
  have htk:(rels.take (t+1)).foldl (Dg n k) (List.replicate (n^k) [])=Dg n k ((rels.take t).foldl (Dg n k) (List.replicate (n^k) [])) rels[t]:=by
   rw[List.take_succ_eq_append_getElem ht,List.foldl_append];rfl
  simp only[Au,Ae,ht,Ah ht,hts,Option.bind_some,h8,htk,Ad (show t<4611686018427387904 by omega)]
  rw[if_pos (by simp;omega)];rfl
 ·simp only[Au,List.take_length]
  rw[if_neg (by simp)];rfl
theorem GJ (h:ROk n m r) (hn:1<=n/\n<=4) {t:Nat} (ht:t<rels.length) (er:rels[t]=r) {args:List Nat} (hl:args.length<=3) (ha: ∀x∈args,x<r.2.length) {j:Nat} (hj:j<m)
  (t7:NT) (t10 t11:Int) (t13:List Int×Int×List (List Int)) (t14:Int):
  AI Ab ((n:Int),rels,(args.length:Int),t7,(t:Int),t10,t11,cI args,(t13.1,(t13.2.1,t13.2.2)),t14,(j:Int),0,0)
   =some ((n:Int),rels,(args.length:Int),t7,(t:Int),t10,t11,cI args,(t13.1,(t13.2.1,t13.2.2)),t14,(j:Int),((atF n r.2 j args:Nat):Int)):=by
 have:=Cw args.length (λf (s:Int) i=>AI f ((n:Int),rels,(args.length:Int),t7,(t:Int),t10,t11,cI args,(t13.1,(t13.2.1,t13.2.2)),t14,(j:Int),s,i)) (λz=>((atF n r.2 j (args.take z):Nat):Int))
  (r:=some ((n:Int),rels,(args.length:Int),t7,(t:Int),t10,t11,cI args,(t13.1,(t13.2.1,t13.2.2)),t14,(j:Int),((atF n r.2 j args:Nat):Int))) (λf z hz=>?_) (λf=>?_) (n:=Ab) (by unfold Ab;omega)
 ·exact this
 ·have hzc:z<(cI args).length:=by rw[Bz];exact hz
  have hx:=ha _ (List.getElem_mem hz)
  have hg:(cI args).getD z 0=((args[z]:Nat):Int):=by rw[Am hzc];simp[cI]
  obtain⟨v1,v2,v3⟩:=h.vt_lt hx hj
  have hlt:=h.at_lt hj (args.take z) λx hx=>ha x (List.mem_of_mem_take hx)
  have hp:=By (n:=n) (k:=(args.take z).length) hn.2 (by rw[List.length_take];omega)
  have hstep:=EI (n:=n) hn.2 (x:=atF n r.2 j (args.take z)) (v:=vt r.2 args[z] j) (by omega) v1
  have htk:args.take (z+1)=args.take z++ [args[z]]:=List.take_succ_eq_append_getElem hz
  simp only[AI,Ae,ht,Ah ht,er,hzc,FJ,hg,hx,v3,v2,hstep,htk,Dv,Ad (show z<4611686018427387904 by omega),if_true]
  rw[if_pos (by simp;omega)]
 ·simp only[AI,List.take_length]
  rw[if_neg (by simp)]
theorem Dr (a b:Nat):CJ (a:Int) (b:Int)=some ((max a b:Nat):Int):=by
 unfold CJ
 by_cases h:(a:Int)>(b:Int)
 ·rw[if_pos (by simpa using h)];congr 2;omega
 ·rw[if_neg (by simpa using h)];congr 2;omega
theorem GI (h:ROk n m r) (hn:1<=n/\n<=4) (hk:k<=3) (hb:0<r.2.length) {t:Nat} (ht:t<rels.length) (er:rels[t]=r) (i:Nat) (t7:NT) (t10 t11:Int) (q:Int×List (List Int)):
  AH Ab ((n:Int),rels,(k:Int),t7,(t:Int),t10,t11,cI (dg r.2.length k i),([],(q.1,q.2)),0,0)
   =some ((n:Int),rels,(k:Int),t7,(t:Int),t10,t11,(cI (PL n k r i),(q.1,q.2)),((Aw (PL n k r i):Nat):Int)):=by
 have hm:=h.hm
 have har:=h.ar
 have hpl:=h.pl_len (k:=k) (i:=i)
 have:=Cw m (λf (s:List Int×Int) j=>AH f ((n:Int),rels,(k:Int),t7,(t:Int),t10,t11,cI (dg r.2.length k i),(s.1,(q.1,q.2)),s.2,j))
  (λj=>(cI ((PL n k r i).take j),((Aw ((PL n k r i).take j):Nat):Int)))
  (r:=some ((n:Int),rels,(k:Int),t7,(t:Int),t10,t11,(cI (PL n k r i),(q.1,q.2)),((Aw (PL n k r i):Nat):Int))) (λf j hj=>?_) (λf=>?_) (n:=Ab) (by unfold Ab;omega)
 ·exact this
 ·have hjl:j<(PL n k r i).length:=by omega
  have htl:((PL n k r i).take j).length=j:=by rw[List.length_take];omega
  have h21:=GJ h hn ht er (args:=dg r.2.length k i) (by rw[Dx];exact hk) (EV hb) hj t7 t10 t11 (cI ((PL n k r i).take j),(q.1,q.2)) ((Aw ((PL n k r i).take j):Nat):Int)
  rw[Dx]at h21
  have e1:cI ((PL n k r i).take (j+1))=cI ((PL n k r i).take j)++ [((atF n r.2 j (dg r.2.length k i):Nat):Int)]:=by
   rw[List.take_succ_eq_append_getElem hjl,Ed hjl,D4];rfl
  have e2:Aw ((PL n k r i).take (j+1))=max (Aw ((PL n k r i).take j)) (atF n r.2 j (dg r.2.length k i)):=by rw[DH hjl,Ed hjl]
  simp only[AH,Ae,ht,Ah ht,er,har,h21,Option.bind_some,Dr,e1,e2,Ad (show j<4611686018427387904 by omega),if_true]
  rw[if_pos (by simp;omega),if_pos (by rw[Bz,htl,List.length_singleton];unfold lim;omega)]
 ·have e:(PL n k r i).take m=PL n k r i:=List.take_of_length_le (by omega)
  simp only[AH,Ae,ht,Ah ht,er,har,e,if_true]
  rw[if_neg (by simp)]
theorem Ft (X:NT) (i:Nat):(CP n k r X i).length=X.length:=D3
theorem Cf: ∀(l:List Nat) (X:NT),(l.foldl (CP n k r) X).length=X.length
 | [],X=>rfl
 |i::l,X=>by rw[List.foldl_cons,Cf l];exact Ft X i
theorem C1: ∀(l:List Nat) (X:NT) (B:Nat),B7 X B->B7 (l.foldl (CP n k r) X) (B+l.length)
 | [],X,B,h=>h
 |i::l,X,B,h=>by
  have:=C1 l _ _ (Du (p:=Aw (PL n k r i)) (d:=(cI (PL n k r i),r)) h)
  rw[List.foldl_cons,List.length_cons,show B+(l.length+1)=B+1+l.length by omega]
  exact this
theorem GH (h:ROk n m r) (hn:1<=n/\n<=4) (hk:k<=3) (hk1:0<k) {t:Nat} (ht:t<rels.length) (er:rels[t]=r) {X:NT} (hX:X.length=n^k) {B:Nat} (hroom:B7 X B) (hB:B<=100000000):
  AG Ab ((n:Int),rels,(k:Int),X,(t:Int),(r.2.length:Int),0)=some ((n:Int),rels,(k:Int),C4 n k X r,(t:Int)):=by
 have hm:=h.hm
 have hN:=E4 h.many hk
 have hmany:=h.many
 have:=Cw (r.2.length^k) (λf (s:NT) i=>AG f ((n:Int),rels,(k:Int),s,(t:Int),(r.2.length:Int),i)) (λi=>(List.range i).foldl (CP n k r) X)
  (r:=some ((n:Int),rels,(k:Int),C4 n k X r,(t:Int))) (λf i hi=>?_) (λf=>?_) (n:=Ab) (by unfold Ab;omega)
 ·exact this
 ·have hb:0<r.2.length:=by
   rcases Nat.eq_zero_or_pos r.2.length with e2|e2
   ·rw[e2,Nat.zero_pow hk1]at hi;omega
   ·exact e2
  have hlen:((List.range i).foldl (CP n k r) X).length=n^k:=by rw[Cf];exact hX
  have hro:=C1 (n:=n) (k:=k) (r:=r) (List.range i) X B hroom
  rw[List.length_range]at hro
  generalize hY:(List.range i).foldl (CP n k r) X=Y at hlen hro
  have hlast:Aw (PL n k r i)<Y.length:=by
   rw[hlen];exact DG (Nat.pow_pos (by omega)) (h.pl_lt hb)
  have h17:=GI h hn hk hb ht er i Y (r.2.length:Int) (i:Int) r
  have hlim:=hro (Aw (PL n k r i))
  rw[BJ,hY]
  simp only[AG,Ct hmany hk,DS (k:=k) hb (by omega) (show i<4611686018427387904 by omega),Option.bind_some,Ae,ht,Ah ht,er,h17,hlast,FJ,A7,Ad (show i<4611686018427387904 by omega),if_true]
  rw[if_pos (decide_eq_true (show(i:Int)<((r.2.length^k:Nat):Int) from Int.ofNat_lt.2 hi)),if_pos (by rw[List.length_singleton];unfold lim;omega)]
  rfl
 ·simp only[AG,Ct hmany hk,Option.bind_some]
  rw[if_neg (by simp)];rfl
theorem Eo (h:RelsOk n k rels) (t:Nat) (ht:t<=rels.length):((rels.take t).foldl (C4 n k) (List.replicate (n^k) [])).length=n^k/\B7 ((rels.take t).foldl (C4 n k) (List.replicate (n^k) [])) (262144*t):=by
 induction t with
 |zero=>exact⟨by simp,λp=>by simp[List.getD_eq_getElem?_getD,List.getElem?_replicate];split<;>simp⟩
 |succ t ih=>
  obtain⟨h1,h2⟩:=ih (by omega)
  have htl:t<rels.length:=by omega
  rw[List.take_succ_eq_append_getElem htl,List.foldl_append]
  simp only[List.foldl_cons,List.foldl_nil]
  refine⟨by unfold C4;rw[Cf];exact h1,λp=>?_⟩
  have h3:=h.cnt (List.getElem_mem htl)
  have:=C1 (n:=n) (k:=k) (r:=rels[t]) (List.range (rels[t].2.length^k)) _ _ h2 p
  rw[List.length_range]at this
  exact Nat.le_trans this (by omega)
theorem Dh (h:RelsOk n k rels):Cd (n:Int) rels (k:Int)=some (BW n k rels):=by
 have hk:=h.hk
 have hn:=h.hn
 have hl:=h.len
 have hp:=By (n:=n) (k:=k) hn.2 hk.2
 unfold Cd
 have h3:=Cw (n^k) (λf (s:NT) i=>AO f ((n:Int),rels,(k:Int),s,i)) (λt=>List.replicate t []) (r:=some ((n:Int),rels,(k:Int),List.replicate (n^k) [])) (λf t ht=>?_) (λf=>?_) (n:=Ab) (by unfold Ab;omega)
 ·have h3:AO Ab ((n:Int),rels,(k:Int),[],0)=_:=h3
  simp only[h3,Option.bind_some]
  have:=Cw rels.length (λf (s:NT) i=>AP f ((n:Int),rels,(k:Int),s,i)) (λt=>(rels.take t).foldl (C4 n k) (List.replicate (n^k) [])) (r:=some (BW n k rels)) (λf t ht=>?_) (λf=>?_) (n:=Ab) (by unfold Ab;omega)
  ·have e:((rels.take 0).foldl (C4 n k) (List.replicate (n^k) []))=List.replicate (n^k) []:=by simp
   rw[e]at this
   have this:AP Ab ((n:Int),rels,(k:Int),List.replicate (n^k) [],0)=_:=this
   rw[this];rfl
  ·have hr:=h.ok _ (List.getElem_mem ht)
   obtain⟨h1,h2⟩:=Eo h t (by omega)
   have h11:=GH hr hn hk.2 (by omega) ht rfl h1 h2 (by omega)
   have htk:(rels.take (t+1)).foldl (C4 n k) (List.replicate (n^k) [])=C4 n k ((rels.take t).foldl (C4 n k) (List.replicate (n^k) [])) rels[t]:=by
    rw[List.take_succ_eq_append_getElem ht,List.foldl_append];rfl
   simp only[AP,Ae,ht,Ah ht,Option.bind_some,h11,htk,Ad (show t<4611686018427387904 by omega)]
   rw[if_pos (by simp;omega)];rfl
  ·simp only[AP,List.take_length]
   rw[if_neg (by simp)];rfl
 ·simp only[AO,Ct (show n<=64 by omega) hk.2,Option.bind_some,List.replicate_succ',Ad (show t<4611686018427387904 by omega)]
  rw[if_pos (decide_eq_true (show(t:Int)<((n^k:Nat):Int) from Int.ofNat_lt.2 ht)),if_pos (by simp;unfold lim;omega)]
 ·simp only[AO,Ct (show n<=64 by omega) hk.2,Option.bind_some]
  rw[if_neg (by simp)]
end
end T
open Go Go.Va
namespace T
section
variable {n k m:Nat} {r:Az} {rels:List Az}
theorem E1 (h:ROk n m r) (hn:1<=n/\n<=4) (hk1:0<k) {i:Nat} (hi:i<r.2.length^k):Aw (PL n k r i)<n^k:=by
 have hb:0<r.2.length:=by
  rcases Nat.eq_zero_or_pos r.2.length with e2|e2
  ·rw[e2,Nat.zero_pow hk1]at hi;omega
  ·exact e2
 exact DG (Nat.pow_pos (by omega)) (h.pl_lt hb)
theorem Fe (h:ROk n m r) (hn:1<=n/\n<=4) (hk1:0<k) {X:NT} (hX:X.length=n^k): ∀(i:Nat),i<=r.2.length^k-> ∀at' d,d∈((List.range i).foldl (CP n k r) X).getD at' []↔d∈X.getD at' []∨ ∃j,j<i/\Aw (PL n k r j)=at'/\d=(cI (PL n k r j),r):=by
 intro i
 induction i with
 |zero=>intro _ a d;simp
 |succ i ih=>
  intro hi a d
  have hlen:((List.range i).foldl (CP n k r) X).length=n^k:=by rw[Cf];exact hX
  have hl:=E1 h hn hk1 (i:=i) (by omega)
  have ih:=ih (by omega)
  rw[BJ]
  generalize (List.range i).foldl (CP n k r) X=Y at ih hlen
  unfold CP
  rw[Da (by rw[hlen];exact hl)]
  by_cases e:a=Aw (PL n k r i)
  ·rw[if_pos e,List.mem_append,←e,ih,List.mem_singleton]
   constructor
   ·rintro ((h1|⟨j,h1,h2⟩)|h1)
    ·exact .inl h1
    ·exact .inr ⟨j,by omega,h2⟩
    ·exact .inr ⟨i,by omega,e.symm,h1⟩
   ·rintro (h1|⟨j,h1,h2,h3⟩)
    ·exact .inl (.inl h1)
    ·by_cases e2:j=i
     ·subst e2;exact .inr h3
     ·exact .inl (.inr ⟨j,by omega,h2,h3⟩)
  ·rw[if_neg e,ih]
   constructor
   ·rintro (h1|⟨j,h1,h2⟩)
    ·exact .inl h1
    ·exact .inr ⟨j,by omega,h2⟩
   ·rintro (h1|⟨j,h1,h2,h3⟩)
    ·exact .inl h1
    ·by_cases e2:j=i
     ·subst e2;exact absurd h2.symm e
     ·exact .inr ⟨j,by omega,h2,h3⟩
theorem F4 {X:NT}:(C4 n k X r).length=X.length:=by unfold C4;rw[Cf]
theorem DA (hn:1<=n/\n<=4) (hk1:0<k): ∀(l:List Az) (X:NT),X.length=n^k->(∀r∈l,ROk n r.1.toNat r)-> ∀at' d,d∈(l.foldl (C4 n k) X).getD at' []↔d∈X.getD at' []∨ ∃r∈l,∃j,j<r.2.length^k/\Aw (PL n k r j)=at'/\d=(cI (PL n k r j),r)
 | [],X,_,_,a,d=>by simp
 |r::l,X,hX,hl,a,d=>by
  rw[List.foldl_cons,DA hn hk1 l _ (by rw[F4];exact hX) (λr hr=>hl r (List.mem_cons_of_mem _ hr))]
  unfold C4
  rw[Fe (hl r (by simp)) hn hk1 hX _ (Nat.le_refl _)]
  constructor
  ·rintro ((h1|⟨j,h1⟩)|⟨q,h1,h2⟩)
   ·exact .inl h1
   ·exact .inr ⟨r,by simp,j,h1⟩
   ·exact .inr ⟨q,by simp[h1],h2⟩
  ·rintro (h1|⟨q,h1,h2⟩)
   ·exact .inl (.inl h1)
   ·rcases List.mem_cons.1 h1 with rfl|h1
    ·exact .inl (.inr h2)
    ·exact .inr ⟨q,h1,h2⟩
theorem EC {α:Type} {N a:Nat} {d:α}: ¬d∈(List.replicate N ([]:List α)).getD a []:=by
 simp[List.getD_eq_getElem?_getD,List.getElem?_replicate];split<;>simp
theorem Er (h:RelsOk n k rels) (at':Nat) (d):d∈(BW n k rels).getD at' []↔ ∃r∈rels,∃j,j<r.2.length^k/\Aw (PL n k r j)=at'/\d=(cI (PL n k r j),r):=by
 unfold BW
 rw[DA h.hn h.hk.1 rels _ (by simp) h.ok]
 constructor
 ·rintro (h1|h1)
  ·exact absurd h1 EC
  ·exact h1
 ·exact .inr
theorem GD {a b:List Nat} (h:cI a=cI b):a=b:=by
 unfold cI at h
 exact List.map_inj_right (λx y e=>by exact Int.ofNat_inj.1 e)|>.1 h
theorem Fb (h:ROk n m r) (hn:1<=n/\n<=4) (hk:k<=3) (hk1:0<k) {X:DT} (hX:X.length=n^k): ∀(i:Nat),i<=r.2.length^k->
  (∀at' d,d∈((List.range i).foldl (BV n k r) (X,[])).1.getD at' []↔d∈X.getD at' []∨ ∃j,j<i/\Aw (PL n k r j)=at'/\d=(cI (PL n k r j),Cg r.2))/\
  (∀s,s∈((List.range i).foldl (BV n k r) (X,[])).2↔ ∃j,j<i/\s=Cb (cI (PL n k r j))):=by
 intro i
 induction i with
 |zero=>intro _;exact⟨λa d=>by simp,λs=>by simp⟩
 |succ i ih=>
  intro hi
  obtain⟨ih1,ih2⟩:=ih (by omega)
  have hlen:((List.range i).foldl (BV n k r) (X,[])).1.length=n^k:=by rw[CQ];exact hX
  have hl:=E1 h hn hk1 (i:=i) (by omega)
  have hb:0<r.2.length:=by
   rcases Nat.eq_zero_or_pos r.2.length with e2|e2
   ·rw[e2,Nat.zero_pow hk1]at hi;omega
   ·exact e2
  rw[BJ]
  generalize (List.range i).foldl (BV n k r) (X,[])=Y at ih1 ih2 hlen
  unfold BV
  by_cases hc:Xs Y.2 (Cb (cI (PL n k r i)))=true
  ·rw[if_pos hc]
   obtain⟨j0,hj0,e0⟩:=(ih2 _).1 (DM.1 hc)
   have e1:=Ev (DN h hn hk hb i) (DN h hn hk hb j0) e0
   have e2:=GD e1
   refine⟨λa d=>?_,λs=>?_⟩
   ·rw[ih1]
    constructor
    ·rintro (h1|⟨j,h1,h2⟩)
     ·exact .inl h1
     ·exact .inr ⟨j,by omega,h2⟩
    ·rintro (h1|⟨j,h1,h2,h3⟩)
     ·exact .inl h1
     ·by_cases e3:j=i
      ·subst e3;exact .inr ⟨j0,hj0,by rw[←e2];exact h2,by rw[←e2];exact h3⟩
      ·exact .inr ⟨j,by omega,h2,h3⟩
   ·rw[ih2]
    constructor
    ·rintro ⟨j,h1,h2⟩;exact⟨j,by omega,h2⟩
    ·rintro ⟨j,h1,h2⟩
     by_cases e3:j=i
     ·subst e3;exact⟨j0,hj0,by rw[←e2];exact h2⟩
     ·exact⟨j,by omega,h2⟩
  ·rw[if_neg hc]
   refine⟨λa d=>?_,λs=>?_⟩
   ·rw[Da (by rw[hlen];exact hl)]
    by_cases e:a=Aw (PL n k r i)
    ·rw[if_pos e,List.mem_append,←e,ih1,List.mem_singleton]
     constructor
     ·rintro ((h1|⟨j,h1,h2⟩)|h1)
      ·exact .inl h1
      ·exact .inr ⟨j,by omega,h2⟩
      ·exact .inr ⟨i,by omega,e.symm,h1⟩
     ·rintro (h1|⟨j,h1,h2,h3⟩)
      ·exact .inl (.inl h1)
      ·by_cases e2:j=i
       ·subst e2;exact .inr h3
       ·exact .inl (.inr ⟨j,by omega,h2,h3⟩)
    ·rw[if_neg e,ih1]
     constructor
     ·rintro (h1|⟨j,h1,h2⟩)
      ·exact .inl h1
      ·exact .inr ⟨j,by omega,h2⟩
     ·rintro (h1|⟨j,h1,h2,h3⟩)
      ·exact .inl h1
      ·by_cases e2:j=i
       ·subst e2;exact absurd h2.symm e
       ·exact .inr ⟨j,by omega,h2,h3⟩
   ·rw[Ez,ih2]
    constructor
    ·rintro (⟨j,h1,h2⟩|h1)
     ·exact⟨j,by omega,h2⟩
     ·exact⟨i,by omega,h1⟩
    ·rintro ⟨j,h1,h2⟩
     by_cases e2:j=i
     ·subst e2;exact .inr h2
     ·exact .inl ⟨j,by omega,h2⟩
theorem Dz (hn:1<=n/\n<=4) (hk:k<=3) (hk1:0<k): ∀(l:List Az) (X:DT),X.length=n^k->(∀r∈l,ROk n r.1.toNat r)-> ∀at' d,d∈(l.foldl (Dg n k) X).getD at' []↔d∈X.getD at' []∨ ∃r∈l,∃j,j<r.2.length^k/\Aw (PL n k r j)=at'/\d=(cI (PL n k r j),Cg r.2)
 | [],X,_,_,a,d=>by simp
 |r::l,X,hX,hl,a,d=>by
  rw[List.foldl_cons,Dz hn hk hk1 l _ (by rw[EB];exact hX) (λr hr=>hl r (List.mem_cons_of_mem _ hr))]
  unfold Dg
  rw[(Fb (hl r (by simp)) hn hk hk1 hX _ (Nat.le_refl _)).1]
  constructor
  ·rintro ((h1|⟨j,h1⟩)|⟨q,h1,h2⟩)
   ·exact .inl h1
   ·exact .inr ⟨r,by simp,j,h1⟩
   ·exact .inr ⟨q,by simp[h1],h2⟩
  ·rintro (h1|⟨q,h1,h2⟩)
   ·exact .inl (.inl h1)
   ·rcases List.mem_cons.1 h1 with rfl|h1
    ·exact .inl (.inr h2)
    ·exact .inr ⟨q,h1,h2⟩
theorem En (h:RelsOk n k rels) (at':Nat) (d):d∈(BP n k rels).getD at' []↔ ∃r∈rels,∃j,j<r.2.length^k/\Aw (PL n k r j)=at'/\d=(cI (PL n k r j),Cg r.2):=by
 unfold BP
 rw[Dz h.hn h.hk.2 h.hk.1 rels _ (by simp) h.ok]
 constructor
 ·rintro (h1|h1)
  ·exact absurd h1 EC
  ·exact h1
 ·exact .inr
def D0 (n k:Nat) (rels:List Az) (at':Nat) (tab:List Int):Bool:=
 rels.all λr=>(List.range (r.2.length^k)).all λj=>!decide (Aw (PL n k r j)=at')||decide ((cI (PL n k r j)).map (Bn tab)∈r.2)
theorem Fw {t:List Int} {x q:Nat} (h:x<q):Bn (t.take q) (x:Int)=Bn t (x:Int):=by
 simp[Bn,List.getD_eq_getElem?_getD,List.getElem?_take,h]
theorem Fk {at':Nat} {tab:List Int}:D0 n k rels at' (tab.take (at'+1))=D0 n k rels at' tab:=by
 unfold D0
 congr 1;funext r;congr 1;funext j
 by_cases e:Aw (PL n k r j)=at'
 ·have:(cI (PL n k r j)).map (Bn (tab.take (at'+1)))=(cI (PL n k r j)).map (Bn tab):=by
   refine List.map_congr_left λx hx=>?_
   unfold cI at hx
   obtain⟨y,hy,rfl⟩:=List.mem_map.1 hx
   have:=(CG (PL n k r j) 0).2 y hy
   unfold Aw at e
   exact Fw (by omega)
  rw[this]
 ·simp[e]
theorem Ge (h:RelsOk n k rels):(BP n k rels).length=n^k/\B7 (BP n k rels) 2097152:=by
 have:=Em h rels.length (Nat.le_refl _)
 rw[List.take_length]at this
 have hl:=h.len
 exact⟨this.1,λp=>by have:=this.2 p;unfold BP;omega⟩
theorem Ep (h:RelsOk n k rels):(BW n k rels).length=n^k/\B7 (BW n k rels) 2097152:=by
 have:=Eo h rels.length (Nat.le_refl _)
 rw[List.take_length]at this
 have hl:=h.len
 exact⟨this.1,λp=>by have:=this.2 p;unfold BW;omega⟩
theorem Gi (h:RelsOk n k rels) {tab:List Int} (ht:tab.length=n^k) (hv: ∀x∈tab,0<=x/\x<256) {at':Nat} (ha:at'<n^k):
  An (true,(n:Int),(k:Int),BP n k rels) tab (at':Int)=some (D0 n k rels at' tab):=by
 obtain⟨hlen,hroom⟩:=Ge h
 have hp:=By h.hn.2 h.hk.2
 have hkey: ∀d∈(BP n k rels).getD at' [],∃r∈rels,∃j,j<r.2.length^k/\Aw (PL n k r j)=at'/\d=(cI (PL n k r j),Cg r.2)/\BI d.1 tab=some (d.1.map (Bn tab))/\BE (d.1.map (Bn tab))=some (Cb (d.1.map (Bn tab)))/\Xs d.2 (Cb (d.1.map (Bn tab)))=decide (d.1.map (Bn tab)∈r.2):=λd hd=>by
  obtain⟨r,hr,j,hj,hla,rfl⟩:=(En h at' d).1 hd
  have hrk:=h.ok r hr
  have hm:=hrk.hm
  have hpl: ∀v∈cI (PL n k r j),0<=v/\v<tab.length:=λv hv=>by
   unfold cI at hv
   obtain⟨y,hy,rfl⟩:=List.mem_map.1 hv
   have:=(CG (PL n k r j) 0).2 y hy
   unfold Aw at hla
   omega
  have hval: ∀x∈(cI (PL n k r j)).map (Bn tab),0<=x/\x<256:=λx hx=>by
   obtain⟨v,hvv,rfl⟩:=List.mem_map.1 hx
   obtain⟨h1,h2⟩:=hpl v hvv
   have:v.toNat<tab.length:=by omega
   unfold Bn
   rw[Am this]
   exact hv _ (List.getElem_mem this)
  refine⟨r,hr,j,hj,hla,rfl,Do (by rw[Bz,hrk.pl_len];omega) hpl,Ca (by rw[List.length_map,Bz,hrk.pl_len];omega) hval,?_⟩
  exact D9 (λu hu x hx=>by have:=hrk.tv u hu x hx;have:=h.hn;omega) hval
 have e:D0 n k rels at' tab=((BP n k rels).getD at' []).all λd=>Xs d.2 (Cb (d.1.map (Bn tab))):=by
  rw[Bool.eq_iff_iff,List.all_eq_true]
  unfold D0
  simp only[List.all_eq_true,Bool.or_eq_true,Bool.not_eq_true',decide_eq_false_iff_not,decide_eq_true_eq,List.mem_range]
  constructor
  ·intro h1 d hd
   obtain⟨r,hr,j,hj,hla,e1,_,_,h2⟩:=hkey d hd
   rw[h2,decide_eq_true_eq,e1]
   rcases h1 r hr j hj with h3|h3
   ·exact absurd hla h3
   ·exact h3
  ·intro h1 r hr j hj
   by_cases hla:Aw (PL n k r j)=at'
   ·right
    have hd:=(En h at' (cI (PL n k r j),Cg r.2)).2 ⟨r,hr,j,hj,hla,rfl⟩
    have h2:=h1 _ hd
    have hrk:=h.ok r hr
    rw[D9 (λu hu x hx=>by have:=hrk.tv u hu x hx;have:=h.hn;omega) (λx hx=>by
     obtain⟨v,hvv,rfl⟩:=List.mem_map.1 hx
     unfold cI at hvv
     obtain⟨y,hy,rfl⟩:=List.mem_map.1 hvv
     have:=(CG (PL n k r j) 0).2 y hy
     unfold Aw at hla
     have hyt:y<tab.length:=by omega
     unfold Bn
     rw[Am (by simpa using hyt)]
     exact hv _ (List.getElem_mem _)),decide_eq_true_eq]at h2
    exact h2
   ·exact .inl hla
 have hgd:gd (BP n k rels) (at':Int) []=(BP n k rels).getD at' []:=rfl
 unfold An
 simp only[if_true,Ae,hlen,ha,hgd]
 have hro:=hroom at'
 generalize (BP n k rels).getD at' []=l at hkey e hro
 rw[e]
 have:=El l (λf i=>Al f (tab,l,(l.length:Int),i)) (λd=>Xs d.2 (Cb (d.1.map (Bn tab)))) (.inr false) (.inl ()) (λf i hi=>?_) (λf=>?_) (n:=Ab) (by unfold Ab;omega)
 ·have this:Al Ab (tab,l,(l.length:Int),0)=_:=this
  rw[this]
  cases l.all λd=>Xs d.2 (Cb (d.1.map (Bn tab)))<;>rfl
 ·obtain⟨r,hr,j,hj,hla,e1,h1,h2,_⟩:=hkey _ (List.getElem_mem hi)
  simp only[Al,Ae,hi,Ah hi,h1,h2,Option.bind_some,Ad (show i<4611686018427387904 by omega)]
  rw[if_pos (by simp;omega)]
  cases Xs l[i].2 (Cb (l[i].1.map (Bn tab)))<;>simp
 ·simp[Al]
end
end T
open Go Go.Va
namespace T
abbrev PS:=Bool×Int×Int×DT
abbrev SIn (σ:Type):=Int×List Int×σ×PS×List Int×Unit
abbrev Fy (σ:Type):=List Int×σ×PS×List Int×Bool
def gL {σ:Type} (rec:SIn σ->Option (Fy σ)):Nat->(Int×List Int×σ×PS×List Int×Unit×Int)->Option ((List Int×σ×PS×List Int×Unit)⊕(List Int×σ×PS×List Int×Unit×Bool))
 |0,_=>none
 |n+1,(at_,t1,t2,t3,t4,t5,x)=>
 if t3.1=true then
 if decide (x<t3.2.1)then
 if inb at_ t4 then
 if decide ((gd t4 at_ 0)≥0)then
 if inb at_ t4 then
 if(gd t4 at_ 0) !=x then
 gL rec n (at_,t1,t2,t3,t4,(),w64 (x+1))
 else
 if inb at_ t1 then
 (An t3 (stt t1 at_ x) at_).bind λr2=>
 if r2 then
 (rec (w64 (at_+1),stt t1 at_ x,t2,t3,t4,())).bind λr3=>
 if !r3.2.2.2.2 then
 some (.inr (r3.1,r3.2.1,r3.2.2.1,r3.2.2.2.1,(),false))
 else
 gL rec n (at_,r3.1,r3.2.1,r3.2.2.1,r3.2.2.2.1,(),w64 (x+1))
 else
 gL rec n (at_,stt t1 at_ x,t2,t3,t4,(),w64 (x+1))
 else none
 else none
 else
 if inb at_ t1 then
 (An t3 (stt t1 at_ x) at_).bind λr4=>
 if r4 then
 (rec (w64 (at_+1),stt t1 at_ x,t2,t3,t4,())).bind λr5=>
 if !r5.2.2.2.2 then
 some (.inr (r5.1,r5.2.1,r5.2.2.1,r5.2.2.2.1,(),false))
 else
 gL rec n (at_,r5.1,r5.2.1,r5.2.2.1,r5.2.2.2.1,(),w64 (x+1))
 else
 gL rec n (at_,stt t1 at_ x,t2,t3,t4,(),w64 (x+1))
 else none
 else none
 else
 some (.inl (t1,t2,t3,t4,()))
 else none
def EZ {σ:Type} (cb:List Int->σ->Option (σ×Bool)) (rec:SIn σ->Option (Fy σ)) (x:SIn σ):Option (Fy σ):=
 if x.1==(x.2.1.length:Int)then
  (cb x.2.1 x.2.2.1).bind λr1=>some (x.2.1,r1.1,x.2.2.2.1,x.2.2.2.2.1,r1.2)
 else
  (gL rec Ab (x.1,x.2.1,x.2.2.1,x.2.2.2.1,x.2.2.2.2.1,(),0)).bind λs2=>
   match s2 with
   | .inl s3=>some (s3.1,s3.2.1,s3.2.2.1,s3.2.2.2.1,true)
   | .inr s4=>some (s4.1,s4.2.1,s4.2.2.1,s4.2.2.2.1,s4.2.2.2.2.2)
def gF {σ:Type} (cb:List Int->σ->Option (σ×Bool)):Nat->SIn σ->Option (Fy σ)
 |0,_=>none
 |d+1,x=>EZ cb (gF cb d) x
def AZ {σ:Type} (cb:List Int->σ->Option (σ×Bool)):List (List Int)->σ->Option (σ×Bool)
 | [],s=>some (s,true)
 |t::l,s=>match cb t s with|some (s',true)=>AZ cb l s'|some (s',false)=>some (s',false)|none=>none
theorem Ck {σ:Type} {cb:List Int->σ->Option (σ×Bool)}: ∀(l l':List (List Int)) (s:σ),AZ cb (l++l') s=match AZ cb l s with|some (s',true)=>AZ cb l' s'|some (s',false)=>some (s',false)|none=>none
 | [],l',s=>rfl
 |t::l,l',s=>by
  simp only[List.cons_append,AZ]
  cases hc:cb t s with
  |none=>rfl
  |some q=>
   obtain⟨s',b⟩:=q
   cases b with
   |false=>rfl
   |true=>exact Ck l l' s'
def CU (given:List Int) (at' x:Nat):Bool:=!(decide (given.getD at' 0≥0)&&given.getD at' 0 !=(x:Int))
def B0 (n:Nat) (given:List Int) (ok:List Int->Bool):Nat->List Int->List (List Int)
 |0,pre=> [pre]
 |m+1,pre=>(List.range n).flatMap λx=>if CU given pre.length x&&ok (pre++ [(x:Int)])then B0 n given ok m (pre++ [(x:Int)])else []
section
variable {n k:Nat} {rels:List Az} {given:List Int}
def okB (n k:Nat) (rels:List Az) (pre:List Int):Bool:=D0 n k rels (pre.length-1) pre
theorem GW (h:RelsOk n k rels) (hg:given.length=n^k) {σ:Type} (cb:List Int->σ->Option (σ×Bool)): ∀(m d at':Nat) (tab:List Int) (s:σ),at'+m=n^k->m<d->tab.length=n^k->(∀x∈tab,0<=x/\x<256)->
    ∀s' b,AZ cb (B0 n given (okB n k rels) m (tab.take at')) s=some (s',b)->
    ∃tab':List Int,tab'.length=n^k/\(∀x∈tab',0<=x/\x<256)/\tab'.take at'=tab.take at'/\gF cb d ((at':Int),tab,s,(true,(n:Int),(k:Int),BP n k rels),given,())=some (tab',s',(true,(n:Int),(k:Int),BP n k rels),given,b):=by
  have hn:=h.hn
  have hp:=By (n:=n) (k:=k) hn.2 h.hk.2
  intro m
  induction m with
  |zero=>
    intro d a tab s ha hd ht hv s' b hf
    obtain⟨d,rfl⟩: ∃z,d=z+1:=⟨d-1,by omega⟩
    have e:tab.take a=tab:=List.take_of_length_le (by omega)
    rw[e]at hf
    simp only[B0,AZ]at hf
    refine⟨tab,ht,hv,rfl,?_⟩
    simp only[gF,EZ]
    rw[if_pos (by simp;omega)]
    cases hc:cb tab s with
    |none=>rw[hc]at hf;exact absurd hf (by simp)
    |some q=>
      obtain⟨s1,b1⟩:=q
      rw[hc]at hf
      have:s1=s'/\b1=b:=by cases b1<;>simpa using hf
      obtain⟨rfl,rfl⟩:=this
      rfl
  |succ m ih=>
    intro d a tab s ha hd ht hv s' b hf
    obtain⟨d,rfl⟩: ∃z,d=z+1:=⟨d-1,by omega⟩
    have hat:a<n^k:=by omega
    have key: ∀(c x f:Nat) (tab1:List Int) (s1:σ),x+c=n->c<f->tab1.length=n^k->(∀x∈tab1,0<=x/\x<256)->tab1.take a=tab.take a-> ∀s' b,
        AZ cb ((List.range' x c).flatMap λx=>if CU given (tab.take a).length x&&okB n k rels (tab.take a++ [(x:Int)])then B0 n given (okB n k rels) m (tab.take a++ [(x:Int)])else []) s1=some (s',b)->
        ∃tab':List Int,tab'.length=n^k/\(∀x∈tab',0<=x/\x<256)/\tab'.take a=tab.take a/\gL (gF cb d) f ((a:Int),tab1,s1,(true,(n:Int),(k:Int),BP n k rels),given,(),(x:Int))=some (if b then .inl (tab',s',(true,(n:Int),(k:Int),BP n k rels),given,())else .inr (tab',s',(true,(n:Int),(k:Int),BP n k rels),given,(),false)):=by
      intro c
      induction c with
      |zero=>
        intro x f tab1 s1 hx hf1 ht1 hv1 htk s' b hf2
        obtain⟨f,rfl⟩: ∃z,f=z+1:=⟨f-1,by omega⟩
        have:s1=s'/\true=b:=by simpa[AZ]using hf2
        obtain⟨rfl,rfl⟩:=this
        refine⟨tab1,ht1,hv1,htk,?_⟩
        simp only[gL]
        rw[if_pos trivial,if_neg (by simp;omega)];rfl
      |succ c ihc=>
        intro x f tab1 s1 hx hf1 ht1 hv1 htk s' b hf2
        obtain⟨f,rfl⟩: ∃z,f=z+1:=⟨f-1,by omega⟩
        have hlen:(tab.take a).length=a:=by rw[List.length_take];omega
        have hag:a<given.length:=by omega
        have hat1:a<tab1.length:=by omega
        rw[List.range'_succ,List.flatMap_cons,Ck,hlen]at hf2
        rw[hlen]at ihc
        have hset:(tab1.set a (x:Int)).take (a+1)=tab.take a++ [(x:Int)]:=by
          rw[List.take_succ_eq_append_getElem (by simp;omega),List.take_set_of_le (Nat.le_refl _),List.getElem_set_self,htk]
        have hsl:(tab1.set a (x:Int)).length=n^k:=by simp[ht1]
        have hsv: ∀y∈tab1.set a (x:Int),0<=y/\y<256:=λy hy=>by
          rcases List.mem_or_eq_of_mem_set hy with h1|h1
          · exact hv1 y h1
          · subst h1;omega
        have hst:(tab1.set a (x:Int)).take a=tab.take a:=by rw[List.take_set_of_le (Nat.le_refl _),htk]
        have hfit:=Gi h hsl hsv hat
        have hokB:okB n k rels (tab.take a++ [(x:Int)])=D0 n k rels a (tab1.set a (x:Int)):=by
          unfold okB
          rw[List.length_append,hlen,List.length_singleton,Nat.add_sub_cancel,←hset,Fk]
        have hw:w64 ((x:Int)+1)=((x+1:Nat):Int):=Ad (by omega)
        have hwa:w64 ((a:Int)+1)=((a+1:Nat):Int):=Ad (by omega)
        have step : CU given a x = true → ∀ R, R = (An (true, (n : Int), (k : Int), BP n k rels) (tab1.set a (x : Int)) (a : Int)).bind (fun r4 =>
                if r4 then
                  (gF cb d (w64 ((a:Int)+1),tab1.set a (x:Int),s1,(true,(n:Int),(k:Int),BP n k rels),given,())).bind λr5=>
                    if !r5.2.2.2.2 then
                      some (.inr (r5.1,r5.2.1,r5.2.2.1,r5.2.2.2.1,(),false))
                    else
                      gL (gF cb d) f ((a:Int),r5.1,r5.2.1,r5.2.2.1,r5.2.2.2.1,(),w64 ((x:Int)+1))
                else
                  gL (gF cb d) f ((a:Int),tab1.set a (x:Int),s1,(true,(n:Int),(k:Int),BP n k rels),given,(),w64 ((x:Int)+1)))->
            ∃tab':List Int,tab'.length=n^k/\(∀x∈tab',0<=x/\x<256)/\tab'.take a=tab.take a/\R=some (if b then .inl (tab',s',(true,(n:Int),(k:Int),BP n k rels),given,())else .inr (tab',s',(true,(n:Int),(k:Int),BP n k rels),given,(),false)):=by
          intro hm R hR
          rw[hfit]at hR
          simp only[Option.bind_some]at hR
          rw[hm,hokB]at hf2
          cases hfi:D0 n k rels a (tab1.set a (x:Int))with
          |false=>
            rw[hfi]at hf2 hR
            simp only[Bool.and_false,Bool.false_eq_true,if_false,AZ]at hf2 hR
            rw[hw]at hR
            rw[hR]
            exact ihc (x+1) f _ s1 (by omega) (by omega) hsl hsv hst s' b hf2
          |true=>
            rw[hfi]at hf2 hR
            simp only[Bool.and_true,if_true]at hf2 hR
            rw[hwa]at hR
            cases hq:AZ cb (B0 n given (okB n k rels) m (tab.take a++ [(x:Int)])) s1 with
            |none=>rw[hq]at hf2;exact absurd hf2 (by simp)
            |some q=>
              obtain⟨s2,b2⟩:=q
              rw[hq]at hf2
              rw[←hset]at hq
              obtain⟨tab2,h1,h2,h3,h4⟩:=ih d (a+1) _ s1 (by omega) (by omega) hsl hsv s2 b2 hq
              have h3':tab2.take a=tab.take a:=by
                have:=congrArg (List.take a) h3
                rw[List.take_take,List.take_take,Nat.min_eq_left (by omega)]at this
                rw[this,hst]
              rw[h4]at hR
              simp only[Option.bind_some]at hR
              cases b2 with
              |false=>
                have:s2=s'/\false=b:=by simpa using hf2
                obtain⟨rfl,rfl⟩:=this
                refine⟨tab2,h1,h2,h3',?_⟩
                rw[hR];rfl
              |true=>
                simp only[Bool.not_true,Bool.false_eq_true,if_false,hw]at hR
                rw[hR]
                exact ihc (x+1) f tab2 s2 (by omega) (by omega) h1 h2 h3' s' b hf2
        simp only[gL,A7,Ae,hag,hat1,if_true]
        rw[if_pos (by simp;omega)]
        by_cases hc1:gd given (a:Int) 0≥0
        · rw[if_pos (decide_eq_true hc1)]
          by_cases hc2:gd given (a:Int) 0=(x:Int)
          · rw[if_neg (by simpa using hc2)]
            exact step (by unfold CU;rw[show given.getD a 0=(x:Int) from hc2];simp) _ rfl
          · rw[if_pos (by simpa using hc2),hw]
            have hm:CU given a x=false:=by
              unfold CU
              rw[decide_eq_true (show given.getD a 0≥0 from hc1)]
              simp only[Bool.true_and,Bool.not_eq_false',bne_iff_ne];exact hc2
            rw[hm]at hf2
            simp only[Bool.false_and,Bool.false_eq_true,if_false,AZ]at hf2
            exact ihc (x+1) f tab1 s1 (by omega) (by omega) ht1 hv1 htk s' b hf2
        · rw[if_neg (by simpa using hc1)]
          exact step (by unfold CU;rw[decide_eq_false (show¬given.getD a 0≥0 from hc1)];rfl) _ rfl
    simp only[B0]at hf
    rw[List.range_eq_range']at hf
    obtain⟨tab',h1,h2,h3,h4⟩:=key n 0 Ab tab s (by omega) (by unfold Ab;omega) ht hv rfl s' b hf
    refine⟨tab',h1,h2,h3,?_⟩
    simp only[gF,EZ]
    rw[if_neg (by simp;omega)]
    have h4:gL (gF cb d) Ab ((a:Int),tab,s,(true,(n:Int),(k:Int),BP n k rels),given,(),0)=_:=h4
    rw[h4]
    cases b<;>rfl
end
end T
open Go Go.Va
namespace T
section
variable {n k:Nat} {rels:List Az} {given:List Int}
theorem DO {m:Nat} {r:Az} (h:ROk n m r) {t:List Int} (ht:t.length=m):B8 r t=some (decide (t∈r.2)):=by
 have hm:=h.hm
 have har:=h.ar
 have hmany:=h.many
 unfold B8
 obtain⟨q,h3,_⟩:=DU (list:=r.2) (t:=t) (k:=m) (by omega) (by omega) h.tl ht h.inc
 rw[if_neg (by simp;omega),h3];rfl
theorem FL (h:RelsOk n k rels) {tab:List Int} {at':Nat} (ht:tab.length=at'+1):BB ((BW n k rels).getD at' []) tab=some (okB n k rels tab):=by
 obtain⟨hlen,hroom⟩:=Ep h
 have hkey: ∀d∈(BW n k rels).getD at' [],∃r∈rels,∃j,j<r.2.length^k/\Aw (PL n k r j)=at'/\d=(cI (PL n k r j),r)/\(∀v∈d.1,0<=v/\v<tab.length)/\d.1.length<=3/\B8 d.2 (d.1.map (Bn tab))=some (decide (d.1.map (Bn tab)∈d.2.2)):=λd hd=>by
  obtain⟨r,hr,j,hj,hla,rfl⟩:=(Er h at' d).1 hd
  have hrk:=h.ok r hr
  have hm:=hrk.hm
  have hpl: ∀v∈cI (PL n k r j),0<=v/\v<tab.length:=λv hv=>by
   unfold cI at hv
   obtain⟨y,hy,rfl⟩:=List.mem_map.1 hv
   have:=(CG (PL n k r j) 0).2 y hy
   unfold Aw at hla
   omega
  refine⟨r,hr,j,hj,hla,rfl,hpl,by rw[Bz,hrk.pl_len];omega,DO hrk (by rw[List.length_map,Bz,hrk.pl_len])⟩
 have e:okB n k rels tab=((BW n k rels).getD at' []).all λd=>decide (d.1.map (Bn tab)∈d.2.2):=by
  rw[Bool.eq_iff_iff,List.all_eq_true]
  unfold okB D0
  rw[show tab.length-1=at' by omega]
  simp only[List.all_eq_true,Bool.or_eq_true,Bool.not_eq_true',decide_eq_false_iff_not,decide_eq_true_eq,List.mem_range]
  constructor
  ·intro h1 d hd
   obtain⟨r,hr,j,hj,hla,e1,_⟩:=hkey d hd
   rw[e1]
   rcases h1 r hr j hj with h3|h3
   ·exact absurd hla h3
   ·exact h3
  ·intro h1 r hr j hj
   by_cases hla:Aw (PL n k r j)=at'
   ·right
    exact h1 _ ((Er h at' (cI (PL n k r j),r)).2 ⟨r,hr,j,hj,hla,rfl⟩)
   ·exact .inl hla
 have hro:=hroom at'
 rw[e]
 generalize (BW n k rels).getD at' []=l at hkey hro
 unfold BB
 have:=El l (λf i=>AM f (l,tab,i)) (λd=>decide (d.1.map (Bn tab)∈d.2.2)) (.inr false) (.inl ()) (λf i hi=>?_) (λf=>?_) (n:=Ab) (by unfold Ab;omega)
 ·have this:AM Ab (l,tab,0)=_:=this
  rw[this]
  cases l.all λd=>decide (d.1.map (Bn tab)∈d.2.2)<;>rfl
 ·obtain⟨r,hr,j,hj,hla,e1,h1,h2,h3⟩:=hkey _ (List.getElem_mem hi)
  have h6:=Cw l[i].1.length (λf (o:List Int) q=>AN f (l,tab,(i:Int),o,q)) (λq=>(l[i].1.take q).map (Bn tab)) (r:=some (l,tab,(i:Int),l[i].1.map (Bn tab))) (λf q hq=>?_) (λf=>?_) (n:=Ab) (by unfold Ab;omega)
  ·have h6:AN Ab (l,tab,(i:Int),[],0)=_:=h6
   simp only[AM,h6,Option.bind_some,Ae,hi,Ah hi,h3,Ad (show i<4611686018427387904 by omega),if_true]
   rw[if_pos (by simp;omega)]
   by_cases hc:l[i].1.map (Bn tab)∈l[i].2.2
   ·rw[decide_eq_true hc];simp
   ·rw[decide_eq_false hc];simp
  ·obtain⟨hv0,hv1⟩:=h1 _ (List.getElem_mem hq)
   have hin:inb l[i].1[q] tab:=⟨hv0,hv1⟩
   have hval:gd tab l[i].1[q] 0=Bn tab l[i].1[q]:=rfl
   have htk:(l[i].1.take (q+1)).map (Bn tab)=(l[i].1.take q).map (Bn tab)++ [Bn tab l[i].1[q]]:=by
    rw[List.take_succ_eq_append_getElem hq,List.map_append];rfl
   simp only[AN,Ae,hi,Ah hi,hq,Ah hq,hin,hval,htk,if_true,Ad (show q<4611686018427387904 by omega)]
   rw[if_pos (by simp;omega),if_pos (by simp;unfold lim;omega)]
  ·simp only[AN,Ae,hi,Ah hi,List.take_length,if_true]
   rw[if_neg (by simp)]
 ·simp[AM]
abbrev SS:=List (List Int)×Int×Int
def B9 (s:SS):Bool:=s.2.2==1&&decide (s.2.1>0)
def sCb (t:List Int) (s:SS):Option (SS×Bool):=
 let s':SS:=(if decide ((s.1.length:Int)<s.2.2)then s.1++ [t]else s.1,s.2.1+1,s.2.2)
 some (s',!B9 s')
theorem D6: ∀(l:List (List Int)) (s s':SS) (b:Bool),AZ sCb l s=some (s',b)->s.2.1<=s'.2.1/\s'.2.1<=s.2.1+l.length/\s'.1.length<=s.1.length+l.length/\s'.2.2=s.2.2/\(B9 s=false->b=!B9 s')
 | [],s,s',b,h=>by
  have:s=s'/\true=b:=by simpa[AZ]using h
  obtain⟨rfl,rfl⟩:=this
  exact⟨by omega,by simp,by simp,rfl,λh=>by simp[h]⟩
 |t::l,s,s',b,h=>by
  simp only[AZ,sCb]at h
  generalize hs1:((if decide ((s.1.length:Int)<s.2.2)then s.1++ [t]else s.1,s.2.1+1,s.2.2):SS)=s1 at h
  have h1:s1.2.1=s.2.1+1:=by rw[←hs1]
  have h2:s1.1.length<=s.1.length+1:=by
   rw[←hs1]
   show(if decide ((s.1.length:Int)<s.2.2)then s.1++ [t]else s.1).length<=_
   split<;>simp
  have h3:s1.2.2=s.2.2:=by rw[←hs1]
  cases hb:B9 s1 with
  |true=>
   rw[hb]at h
   have:s1=s'/\false=b:=by simpa using h
   obtain⟨rfl,rfl⟩:=this
   rw[List.length_cons]
   exact⟨by omega,by omega,by omega,h3,λ_=>by rw[hb];rfl⟩
  |false=>
   rw[hb]at h
   obtain⟨g1,g2,g3,g4,g5⟩:=D6 l s1 s' b h
   rw[List.length_cons]
   exact⟨by omega,by push_cast;omega,by omega,by omega,λ_=>g5 hb⟩
theorem Db: ∀(l:List (List Int)) (s:SS),∃q,AZ sCb l s=some q
 | [],s=>⟨_,rfl⟩
 |t::l,s=>by
  simp only[AZ,sCb]
  generalize ((if decide ((s.1.length:Int)<s.2.2)then s.1++ [t]else s.1,s.2.1+1,s.2.2):SS)=s1
  cases hb:B9 s1 with
  |true=>exact⟨_,rfl⟩
  |false=>exact Db l s1
theorem GX (h:RelsOk n k rels) (hg:given.length=n^k): ∀(m d:Nat) (pre:List Int) (s:SS),pre.length+m=n^k->m<d->B9 s=false->0<=s.2.1->s.2.2<=1000000->s.2.1+(B0 n given (okB n k rels) m pre).length<=4611686018427387904->
    ∀s' b,AZ sCb (B0 n given (okB n k rels) m pre) s=some (s',b)->AC d ((n:Int),BW n k rels,given,pre,s)=some s':=by
  have hn:=h.hn
  have hp:=By (n:=n) (k:=k) hn.2 h.hk.2
  obtain⟨hlenN,_⟩:=Ep h
  intro m
  induction m with
  |zero=>
    intro d pre s hpre hd hst h0 hr1 hr2 s' b hf
    obtain⟨d,rfl⟩: ∃z,d=z+1:=⟨d-1,by omega⟩
    simp only[B0,AZ,sCb]at hf
    simp only[AC,BS]
    simp only[B0,List.length_singleton]at hr2
    have hs':s'=(if decide ((s.1.length:Int)<s.2.2)then s.1++ [pre]else s.1,s.2.1+1,s.2.2):=by
      cases hb:B9 ((if decide ((s.1.length:Int)<s.2.2)then s.1++ [pre]else s.1,s.2.1+1,s.2.2):SS)<;>rw[hb]at hf<;>simp at hf<;>rw[←hf.1]<;>simp
    have hw:w64 (s.2.1+1)=s.2.1+1:=Ay (by omega) (by omega)
    rw[if_pos (by simp;omega),hs',hw,CX (by omega)]
    by_cases hc:(s.1.length:Int)<s.2.2
    · rw[if_pos (decide_eq_true hc),if_pos (decide_eq_true hc)]
      simp only[Option.bind_some]
      rw[if_pos (by rw[List.length_singleton];unfold lim;omega)]
    · rw[if_neg (by simpa using hc),if_neg (by simpa using hc)]
  |succ m ih=>
    intro d pre s hpre hd hst h0 hr1 hr2 s' b hf
    obtain⟨d,rfl⟩: ∃z,d=z+1:=⟨d-1,by omega⟩
    have hat:pre.length<n^k:=by omega
    have key: ∀(c x f:Nat) (s1:SS),x+c=n->c<f->B9 s1=false->0<=s1.2.1->
        s1.2.2<=1000000->
        s1.2.1+((List.range' x c).flatMap λx=>if CU given pre.length x&&okB n k rels (pre++ [(x:Int)])then B0 n given (okB n k rels) m (pre++ [(x:Int)])else []).length<=4611686018427387904-> ∀s' b,
        AZ sCb ((List.range' x c).flatMap λx=>if CU given pre.length x&&okB n k rels (pre++ [(x:Int)])then B0 n given (okB n k rels) m (pre++ [(x:Int)])else []) s1=some (s',b)->
        Ag (AC d) f ((n:Int),BW n k rels,given,pre,s1,([],(0,0)),(pre.length:Int),(x:Int))=some (if b then .inl (s',([],(0,0)))else .inr s'):=by
      intro c
      induction c with
      |zero=>
        intro x f s1 hx hf1 hst1 h01 hr1 hr2 s' b hf2
        obtain⟨f,rfl⟩: ∃z,f=z+1:=⟨f-1,by omega⟩
        have:s1=s'/\true=b:=by simpa[AZ]using hf2
        obtain⟨rfl,rfl⟩:=this
        simp only[Ag]
        rw[if_neg (by simp;omega)];rfl
      |succ c ihc=>
        intro x f s1 hx hf1 hst1 h01 hr1 hr2 s' b hf2
        obtain⟨f,rfl⟩: ∃z,f=z+1:=⟨f-1,by omega⟩
        have hag:pre.length<given.length:=by omega
        have haN:pre.length<(BW n k rels).length:=by omega
        rw[List.range'_succ,List.flatMap_cons,Ck]at hf2
        rw[List.range'_succ,List.flatMap_cons,List.length_append]at hr2
        have hol:=FL h (tab:=pre++ [(x:Int)]) (at':=pre.length) (by simp)
        have hw:w64 ((x:Int)+1)=((x+1:Nat):Int):=Ad (by omega)
        have step : CU given pre.length x = true → ∀ R, R = (BB (gd (BW n k rels) (pre.length : Int) []) (pre ++ [(x : Int)])).bind (fun r6 =>
                  if r6 then
                    (AC d ((n:Int),BW n k rels,given,pre++ [(x:Int)],(s1.1,(s1.2.1,s1.2.2)))).bind λr7=>
                      if r7.2.2==1 then
                        if decide (r7.2.1>0)then
                          some (.inr (r7.1,(r7.2.1,r7.2.2)))
                        else
                          Ag (AC d) f ((n:Int),BW n k rels,given,pre,(r7.1,(r7.2.1,r7.2.2)),([],(0,0)),(pre.length:Int),w64 ((x:Int)+1))
                      else
                        Ag (AC d) f ((n:Int),BW n k rels,given,pre,(r7.1,(r7.2.1,r7.2.2)),([],(0,0)),(pre.length:Int),w64 ((x:Int)+1))
                  else
                    if s1.2.2==1 then
                      if decide (s1.2.1>0)then
                        some (.inr (s1.1,(s1.2.1,s1.2.2)))
                      else
                        Ag (AC d) f ((n:Int),BW n k rels,given,pre,(s1.1,(s1.2.1,s1.2.2)),([],(0,0)),(pre.length:Int),w64 ((x:Int)+1))
                    else
                      Ag (AC d) f ((n:Int),BW n k rels,given,pre,(s1.1,(s1.2.1,s1.2.2)),([],(0,0)),(pre.length:Int),w64 ((x:Int)+1)))->
            R=some (if b then .inl (s',([],(0,0)))else .inr s'):=by
          intro hm R hR
          have hgd:gd (BW n k rels) (pre.length:Int) []=(BW n k rels).getD pre.length []:=rfl
          rw[hgd,hol]at hR
          simp only[Option.bind_some,hw]at hR
          rw[hm]at hf2 hr2
          have hnst: ∀(z:SS) {γ:Type} (A B:γ),B9 z=false->(if z.2.2==1 then if decide (z.2.1>0)then A else B else B)=B:=λz γ A B hz=>by
            unfold B9 at hz
            by_cases h1:z.2.2=1
            · rw[if_pos (by simpa using h1),if_neg (by simp[h1]at hz;simpa using hz)]
            · rw[if_neg (by simpa using h1)]
          have hyst: ∀(z:SS) {γ:Type} (A B:γ),B9 z=true->(if z.2.2==1 then if decide (z.2.1>0)then A else B else B)=A:=λz γ A B hz=>by
            unfold B9 at hz
            simp only[Bool.and_eq_true]at hz
            rw[if_pos hz.1,if_pos hz.2]
          cases hfi:okB n k rels (pre++ [(x:Int)])with
          |false=>
            rw[hfi]at hf2 hr2 hR
            simp only[Bool.and_false,Bool.false_eq_true,if_false,AZ,List.length_nil,Nat.zero_add]at hf2 hr2 hR
            rw[hnst s1 _ _ hst1]at hR
            rw[hR]
            exact ihc (x+1) f s1 (by omega) (by omega) hst1 h01 hr1 hr2 s' b hf2
          |true=>
            rw[hfi]at hf2 hr2 hR
            simp only[Bool.and_true,if_true]at hf2 hr2 hR
            obtain⟨⟨s2,b2⟩,hq⟩:=Db (B0 n given (okB n k rels) m (pre++ [(x:Int)])) s1
            obtain⟨g1,g2,g3,g4,g5⟩:=D6 _ _ _ _ hq
            have g5:=g5 hst1
            rw[hq]at hf2
            have hrec:=ih d (pre++ [(x:Int)]) s1 (by simp;omega) (by omega) hst1 h01 (by omega) (by push_cast at hr2;omega) s2 b2 hq
            have hrec:AC d ((n:Int),BW n k rels,given,pre++ [(x:Int)],(s1.1,(s1.2.1,s1.2.2)))=some s2:=hrec
            rw[hrec]at hR
            simp only[Option.bind_some]at hR
            cases hb2:B9 s2 with
            |true=>
              rw[hb2]at g5
              subst g5
              have:s2=s'/\false=b:=by simpa using hf2
              obtain⟨rfl,rfl⟩:=this
              rw[hyst s2 _ _ hb2]at hR
              rw[hR];rfl
            |false=>
              rw[hb2]at g5
              subst g5
              rw[hnst s2 _ _ hb2]at hR
              rw[hR]
              exact ihc (x+1) f s2 (by omega) (by omega) hb2 (by omega) (by push_cast at hr2;omega) (by push_cast at hr2;omega) s' b hf2
        simp only[Ag,Ae,hag,haN,if_true,CX (show pre.length<=1099511627775 by omega),Option.bind_some]
        rw[if_pos (by simp;omega)]
        have hlim:pre.length+ [(x:Int)].length<=lim:=by rw[List.length_singleton];unfold lim;omega
        rw[if_pos hlim]
        by_cases hc1:gd given (pre.length:Int) 0≥0
        · rw[if_pos (decide_eq_true hc1)]
          by_cases hc2:gd given (pre.length:Int) 0=(x:Int)
          · rw[if_neg (by simpa using hc2)]
            exact step (by unfold CU;rw[show given.getD pre.length 0=(x:Int) from hc2];simp) _ rfl
          · rw[if_pos (by simpa using hc2),hw]
            have hm:CU given pre.length x=false:=by
              unfold CU
              rw[decide_eq_true (show given.getD pre.length 0≥0 from hc1)]
              simp only[Bool.true_and,Bool.not_eq_false',bne_iff_ne];exact hc2
            rw[hm]at hf2 hr2
            simp only[Bool.false_and,Bool.false_eq_true,if_false,AZ,List.length_nil,Nat.zero_add]at hf2 hr2
            exact ihc (x+1) f s1 (by omega) (by omega) hst1 h01 hr1 hr2 s' b hf2
        · rw[if_neg (by simpa using hc1)]
          exact step (by unfold CU;rw[decide_eq_false (show¬given.getD pre.length 0≥0 from hc1)];rfl) _ rfl
    simp only[B0]at hf hr2
    rw[List.range_eq_range']at hf hr2
    have h4:=key n 0 Ab s (by omega) (by unfold Ab;omega) hst h0 hr1 hr2 s' b hf
    simp only[AC,BS]
    rw[if_neg (by simp;omega)]
    have h4:Ag (AC d) Ab ((n:Int),BW n k rels,given,pre,(s.1,(s.2.1,s.2.2)),([],(0,0)),(pre.length:Int),0)=_:=h4
    rw[h4]
    cases b<;>rfl
end
end T
open Go Go.Va
namespace T
theorem Es (rec): ∀f x,Aa rec f x=gL rec f x
 |0,_=>rfl
 |f+1,(a,b,c,d,e,g,x)=>by simp only[Aa,gL,Es rec f]
abbrev FpS:=Unit×(Int×(Opn×Bool))
def Fg (t:List Int) (s:FpS):Option (FpS×Bool):=(Bp t s.1 s.2.1 s.2.2.1 s.2.2.2).bind λr=>some (((),(r.1,(r.2.1,r.2.2.1))),r.2.2.2)
theorem FG: ∀d x,Ac d x=gF Fg d x
 |0,_=>rfl
 |d+1,(a,t,(s1,(s2,(s3,s4))),ps,g,u)=>by
  have e:Ac d=gF Fg d:=funext λx=>FG d x
  simp only[Ac,gF,EZ,Ai,Es,e]
  split
  ·unfold Fg;cases Bp t s1 s2 s3 s4<;>rfl
  ·congr 1;funext z;cases z<;>rfl
section
variable {n k:Nat} {rels:List Az} {given:List Int}
theorem EW {ok:List Int->Bool}: ∀(m:Nat) (pre:List Int),(B0 n given ok m pre).length<=n^m
 |0,pre=>by simp[B0]
 |m+1,pre=>by
  simp only[B0]
  have key: ∀(l:List Nat),(l.flatMap λx=>if CU given pre.length x&&ok (pre++ [(x:Int)])then B0 n given ok m (pre++ [(x:Int)])else []).length<=l.length*n^m:=by
   intro l
   induction l with
   |nil=>simp
   |cons x l ih=>
    rw[List.flatMap_cons,List.length_append,List.length_cons,Nat.succ_mul]
    have:(if CU given pre.length x&&ok (pre++ [(x:Int)])then B0 n given ok m (pre++ [(x:Int)])else []).length<=n^m:=by
     split
     ·exact EW m _
     ·simp
    omega
  have:=key (List.range n)
  rw[List.length_range]at this
  rw[Nat.pow_succ,Nat.mul_comm]
  exact this
theorem EX {ok:List Int->Bool}: ∀(m:Nat) (pre t:List Int),t∈B0 n given ok m pre->t.length=pre.length+m/\((∀x∈pre,0<=x/\x<(n:Int))-> ∀x∈t,0<=x/\x<(n:Int))
 |0,pre,t,h=>by simp only[B0,List.mem_singleton]at h;subst h;exact⟨rfl,λh=>h⟩
 |m+1,pre,t,h=>by
  simp only[B0,List.mem_flatMap]at h
  obtain⟨x,hx,h⟩:=h
  have hx:=List.mem_range.1 hx
  split at h
  ·obtain⟨h1,h2⟩:=EX m _ t h
   refine⟨by rw[h1];simp;omega,λhp=>h2 λy hy=>?_⟩
   rcases List.mem_append.1 hy with h3|h3
   ·exact hp y h3
   ·rw[List.mem_singleton.1 h3];omega
  ·simp at h
def Yik (n k:Nat) (rels:List Az) (given:List Int):List (List Int):=B0 n given (okB n k rels) (n^k) []
theorem Ek {t:List Int} (h:t∈Yik n k rels given):t.length=n^k/\ ∀x∈t,0<=x/\x<(n:Int):=by
 obtain⟨h1,h2⟩:=EX _ _ _ h
 exact⟨by rw[h1];simp,h2 λx hx=>by simp at hx⟩
theorem Fz:(Yik n k rels given).length<=n^n^k:=EW _ _
theorem Ff (l:List (List Int)):AZ sCb l ([],0,1)=some (match l with| []=>(([],0,1),true)|t::_=>(([t],1,1),false)):=by
 cases l with
 |nil=>rfl
 |cons t l=>rfl
theorem DP (h:RelsOk n k rels) (hg:given.length=n^k) (hz:n^n^k<=4611686018427387904) {most:Int} (hm:most<=1000000):
  ∃s b,AZ sCb (Yik n k rels given) ([],0,most)=some (s,b)/\BO (n:Int) rels (k:Int) given most=some s:=by
 obtain⟨⟨s,b⟩,hf⟩:=Db (Yik n k rels given) ([],0,most)
 refine⟨s,b,hf,?_⟩
 have:=GX h hg (n^k) Ab [] ([],0,most) (by simp) (by have:=By (n:=n) (k:=k) h.hn.2 h.hk.2;unfold Ab;omega) (by unfold B9;simp) (by simp) hm (by have:=Fz (n:=n) (k:=k) (rels:=rels) (given:=given);unfold Yik at this;simp;omega) s b hf
 unfold BO
 rw[Dh h]
 simp only[Option.bind_some,this]
theorem Gf (h:RelsOk n k rels) (hg:given.length=n^k) {σ:Type} (cb:List Int->σ->Option (σ×Bool)) {s s':σ} {b:Bool} (hf:AZ cb (Yik n k rels given) s=some (s',b)):
  ∃r:Fy σ,gF cb Ab (0,List.replicate (Int.toNat (given.length:Int)) (0:Int),s,(true,(n:Int),(k:Int),BP n k rels),given,())=some r/\r.2.1=s':=by
 have hp:=By (n:=n) (k:=k) h.hn.2 h.hk.2
 obtain⟨tab',h1,h2,h3,h4⟩:=GW h hg cb (n^k) Ab 0 (List.replicate (Int.toNat (given.length:Int)) (0:Int)) s (by omega) (by unfold Ab;omega) (by rw[List.length_replicate,hg,Int.toNat_natCast]) (λx hx=>by rw[(List.mem_replicate.1 hx).2];omega) s' b hf
 exact⟨_,h4,rfl⟩
def CB (k:Nat) (l:List (List Int)):Opn×Bool:=match l with| []=>((0,[]),false)|t::_=>(((k:Int),t),true)
theorem C6 (h:RelsOk n k rels) (hg:given.length=n^k):Ax (n:Int) rels (k:Int) given ()=some (CB k (Yik n k rels given)):=by
 have hp:=By (n:=n) (k:=k) h.hn.2 h.hk.2
 have hf: ∃s b,AZ Fg (Yik n k rels given) ((),((k:Int),((0,[]),false)))=some (s,b)/\s=((),((k:Int),((CB k (Yik n k rels given)).1,(CB k (Yik n k rels given)).2))):=by
  have hlen: ∀t∈Yik n k rels given,t.length<=1000:=λt ht=>by rw[(Ek ht).1];omega
  generalize Yik n k rels given=l at hlen
  cases l with
  |nil=>exact⟨_,_,rfl,rfl⟩
  |cons t l=>
   have hcl:C2 t=some t:=by
    unfold C2
    have:=hlen t (by simp)
    rw[if_pos (by simp;unfold lim;omega)];simp
   simp only[AZ,Fg,Bp,hcl,Dk,Option.bind_some]
   exact⟨_,_,rfl,rfl⟩
 obtain⟨s,b,h1,h2⟩:=hf
 obtain⟨r,h4,h5⟩:=Gf h hg Fg h1
 unfold Ax Aq
 rw[Cy h]
 simp only[Option.bind_some,FG,h4]
 rw[if_pos (by unfold lim;omega)]
 simp only[Option.bind_some,h5,h2]
theorem EF (h:RelsOk n k rels) (hg:given.length=n^k) (hz:n^n^k<=4611686018427387904): ∃s:SS,BO (n:Int) rels (k:Int) given 1=some s/\(match Yik n k rels given with| []=>s.2.1=0|t::_=>s.2.1=1/\s.1= [t]):=by
 obtain⟨s,b,h1,h2⟩:=DP h hg hz (most:=1) (by omega)
 rw[Ff]at h1
 refine⟨s,h2,?_⟩
 cases hc:Yik n k rels given with
 |nil=>rw[hc]at h1;simp at h1;rw[←h1.1]
 |cons t l=>rw[hc]at h1;simp at h1;rw[←h1.1];exact⟨rfl,rfl⟩
end
end T
open Go Go.Va
namespace T
abbrev Gx:Ty:= .slice (.pair .int (.slice (.slice .int)))
def Dn (a:List Az):Prop:=a.length<=1048576/\ ∀r∈a,ED r.2
def EG (r:Az):Nat:=Eb r.2
def C9 (a:List Az):Nat:=a.length+(a.map EG).sum
theorem DW {a:List Az} {left:Int} (h:wfT Gx a) (h0:0<=left) (h1:left<=1099511627775):Ci a left=some (szR (C9 a) left):=by
 refine He a BR EG (λn s i=>AK n (a,s,i)) _ h0 h1 (λr hm s h0 h1=>?_) h.1 (λn s k hk hk4=>?_) (λn s=>?_) rfl
 ·have:=h.2 r hm
  unfold BR
  rw[ER h0 h1 this.2.1 λt ht=>(this.2.2 t ht).1]
  simp only[Option.bind_some]
  unfold EG szR
  split
  ·rw[if_neg (by simp;omega)]
  ·rfl
 ·simp only[AK,Ae,Ah hk,Ad hk4]
  simp[hk]
 ·simp[AK]
theorem F5 {a:List Az} {left:Int} (hl:left<=1048576) (h: ¬szR (C9 a) left<0):Dn a/\(C9 a:Int)<=left:=by
 unfold szR at h
 split at h
 ·refine⟨⟨by unfold C9 at*;omega,λr hr=>?_⟩,by omega⟩
  have h1:=E7 EG hr
  have h2:EG r<=1048576:=by unfold C9 at*;omega
  unfold EG Eb at h2
  exact⟨by omega,λt ht=>by have:=Gl ht;omega⟩
 ·omega
theorem D2 {r:Az} (h:ED r.2):BD r=some r:=by
 unfold BD
 rw[ET (by have:=h.1;omega) λt ht=>by have:=h.2 t ht;omega]
 rfl
theorem DX {a:List Az} (h:Dn a):Bd a=some a:=by
 refine toX a BD (0,[]) (λn out i=>AL n (a,out,i)) _ h.1 (λc hc=>D2 (h.2 c hc)) (λn out k hk hl hk4=>?_) (λn out hl=>?_) rfl
 ·simp only[AL,Ae,Ah hk,A7,Ad hk4]
  simp[hk,hl]
 ·simp[AL]
theorem DZ {a b:Az} (h:ED a.2):BC a b=some (decide (a=b)):=by
 unfold BC
 rw[EK (by have:=h.1;omega) λr hr=>by have:=h.2 r hr;omega]
 obtain⟨a1,a2⟩:=a
 obtain⟨b1,b2⟩:=b
 by_cases h1:a1=b1
 ·by_cases h2:a2=b2<;>simp[h1,h2]
 ·simp[h1]
theorem Dy {a b:List Az} (h:Dn a):Ch a b=some (decide (a=b)):=by
 refine G8 a b BC (λn i=>AJ n (a,b,i)) _ h.1 (λx hx y=>DZ (h.2 x hx)) (λn k h1 h2 hk4=>?_) (λn=>?_) rfl
 ·simp only[AJ,Ae,Ah h1,Ah h2,Ad hk4]
  simp[h1,h2]
 ·simp[AJ]
def FR (r:Az) (k:Int):Az×Int:=((k,(DI r.2 (k+1)).1),(DI r.2 (k+1)).2)
def wR (r:Az):Nat:=1+(r.2.map List.length).sum
theorem DJ (r:Az) (k:Int):(FR r k).2=k+wR r:=by
 unfold FR wR;dsimp only
 rw[EM];push_cast;omega
theorem De {l:List Az} {k:Int} (h:Dn l) (h0:0<=k) (hB:k+((l.map wR).sum:Nat)<=BM):Bg l k=some (mkL FR l k):=by
 have hl:=h.1
 unfold Bg
 have:=FT l.length (λn a k i=>AA n (a,k,i)) FR wR BM (λa k=>some (a,k)) l k rfl (λx _ k=>DJ x k) h0 hB (λn a k i hi hl' hm hk0 hkB=>?_) (λn a k hl'=>?_) (n:=Ab) (by unfold Ab;omega)
 ·rw[this];rfl
 ·have hia:i<a.length:=by omega
  have hc:=h.2 _ hm
  have hkB':k+1+((a[i].2.map List.length).sum:Nat)<=BM:=by unfold wR at hkB;push_cast at hkB;omega
  have hk1:w64 (k+1)=k+1:=Ay (by omega) (by unfold BM at hkB';omega)
  have hia1: ∀y,i<(a.set i y).length:=λy=>by simpa using hia
  simp only[AA,Ae,A7,Ah hia,Ad (show i<4611686018427387904 by omega),Option.bind_some,Ah (hia1 _),List.getElem_set_self,List.set_set,hk1,Ei hc.1 hc.2 (show 0<=k+1 by omega) hkB']
  simp[hl',hi,FR]
 ·simp[AA,hl']
theorem GQ {l:List Az}:(l.map wR).sum<=C9 l:=by
 unfold C9
 induction l with
 |nil=>simp
 |cons c l ih=>
  simp only[List.map_cons,List.sum_cons,List.length_cons]
  have:wR c<=1+EG c:=by unfold wR EG Eb;omega
  omega
theorem Ex {a:List Az} {k:Int} (h:Dn a) (ht:C9 a<=1048576) (h0:0<=k) (hk:k<=1000000000): ∃b k',Bg a k=some (b,k')/\0<=k'/\k'<=k+1048576:=by
 have h1:= @GQ a
 have e:=De h h0 (by unfold BM;omega)
 refine⟨_,_,e,?_,?_⟩
 ·rw[CS (w:=wR) _ _ λc _ k=>DJ c k];omega
 ·rw[CS (w:=wR) _ _ λc _ k=>DJ c k];omega
def CY (n:Int) (rels:List Az):Bool:=decide (1<=n/\n<=4)&&decide (rels.length<=4)&&rels.all (Df n)
def EL (k:Int) (rels:List Az):Bool:=rels.all λr=>!(k==3&&decide ((r.2.length:Int)>12))
theorem DD {n k:Int} {rels:List Az} (h:Dn rels):CD n rels k=some (CY n rels&&EL k rels):=by
 have hl:=h.1
 unfold CD BU Cu CY
 by_cases h1:1<=n/\n<=4
 ·rw[if_pos (by simp;omega)]
  simp only[Option.bind_some]
  rw[if_neg (by simp;omega)]
  by_cases h2:rels.length<=4
  ·rw[if_neg (by simp;omega)]
   have e1:=El rels (λf i=>AS f (n,rels,(rels.length:Int),i)) (Df n) (.inr false) (.inl ()) (λf i hi=>by
    have:=h.2 _ (List.getElem_mem hi)
    simp only[AS,Ae,hi,Ah hi,C3 (r:=(rels[i].1,rels[i].2)) this,Option.bind_some,Ad (show i<4611686018427387904 by omega)]
    rw[if_pos (by simp;omega)]
    cases Df n rels[i]<;>simp) (λf=>by simp[AS]) (n:=Ab) (by unfold Ab;omega)
   have e2:=El rels (λf i=>A8 f (k,rels,(rels.length:Int),i)) (λr=>!(k==3&&decide ((r.2.length:Int)>12))) (.inr false) (.inl ()) (λf i hi=>by
    simp only[A8,Ae,hi,Ah hi,Ad (show i<4611686018427387904 by omega)]
    rw[if_pos (by simp;omega)]
    by_cases c1:k=3
    ·by_cases c2:(rels[i].2.length:Int)>12
     ·simp[c1,c2]
     ·simp[c1,c2]
    ·simp[c1]) (λf=>by simp[A8]) (n:=Ab) (by unfold Ab;omega)
   rw[e1]
   unfold EL
   cases hr:rels.all (Df n)with
   |false=>simp
   |true=>
    simp only[Option.bind_some,if_true,Bool.not_true,Bool.false_eq_true,if_false]
    rw[e2]
    cases rels.all λr=>!(k==3&&decide ((r.2.length:Int)>12))<;>simp[h1,h2]
  ·rw[if_pos (by simp;omega)]
   simp[h2]
 ·by_cases h2:n≥1
  ·rw[if_pos (by simpa using h2)]
   have: ¬n<=4:=by omega
   simp[this]
  ·rw[if_neg (by simpa using h2)]
   have: ¬1<=n:=by omega
   simp[this]
theorem Di {n k:Int} {rels:List Az} (h:Dn rels):Ce n rels k=some (CY n rels&&decide (1<=k/\k<=3)&&EL k rels):=by
 have hl:=h.1
 unfold Ce C8 C7 CY
 rw[BX,BX]
 by_cases h1:1<=n/\n<=4
 ·simp only[Option.bind_some]
  rw[if_neg (by simp;omega)]
  by_cases h2:rels.length<=4
  ·rw[if_neg (by simp;omega)]
   have e1:=El rels (λf i=>Bl f (n,rels,i)) (Df n) (.inr false) (.inl ()) (λf i hi=>by
    have:=h.2 _ (List.getElem_mem hi)
    simp only[Bl,Ae,hi,Ah hi,Dq (n:=n) this (by omega),Option.bind_some,Ad (show i<4611686018427387904 by omega)]
    rw[if_pos (by simp;omega)]
    cases Df n rels[i]<;>simp) (λf=>by simp[Bl]) (n:=Ab) (by unfold Ab;omega)
   have e2:=El rels (λf i=>AQ f (rels,k,i)) (λr=>!(k==3&&decide ((r.2.length:Int)>12))) (.inr false) (.inl ()) (λf i hi=>by
    simp only[AQ,Ae,hi,Ah hi,Ad (show i<4611686018427387904 by omega)]
    rw[if_pos (by simp;omega)]
    by_cases c1:k=3
    ·by_cases c2:(rels[i].2.length:Int)>12
     ·simp[c1,c2]
     ·simp[c1,c2]
    ·simp[c1]) (λf=>by simp[AQ]) (n:=Ab) (by unfold Ab;omega)
   rw[e1]
   unfold EL
   cases hr:rels.all (Df n)with
   |false=>simp
   |true=>
    simp only[Option.bind_some,if_true,Bool.not_true,Bool.false_eq_true,if_false]
    rw[e2]
    by_cases hk:1<=k/\k<=3
    ·rw[if_neg (by simp;omega)]
     cases rels.all λr=>!(k==3&&decide ((r.2.length:Int)>12))<;>simp[h1,h2,hk]
    ·rw[if_pos (by simp;omega)];simp[hk]
  ·rw[if_pos (by simp;omega)]
   simp[h2]
 ·simp[h1]
theorem E8 {n:Int} {rels:List Az} (h:CY n rels=true):(1<=n/\n<=4)/\rels.length<=4/\ ∀r∈rels,ROk n.toNat r.1.toNat r:=by
 unfold CY at h
 simp only[Bool.and_eq_true,decide_eq_true_eq,List.all_eq_true]at h
 obtain⟨⟨h1,h2⟩,h3⟩:=h
 refine⟨h1,h2,λr hr=>GN (by omega) ?_⟩
 rw[Int.toNat_of_nonneg (by omega)];exact h3 r hr
theorem Gq {n:Int} {rels:List Az} {k:Nat} (h:CY n rels=true) (hk:1<=k/\k<=3):RelsOk n.toNat k rels:=by
 obtain⟨h1,h2,h3⟩:=E8 h
 exact⟨by omega,hk,by omega,h3⟩
theorem FH {N:Nat} (h:N<=1000):B1 (N:Int)=some (List.replicate N (-1)):=by
 unfold B1
 rw[Int.toNat_natCast,if_pos (by unfold lim;omega)]
 have:=Cw N (λf o i=>AF f (o,((List.replicate N (0:Int)).length:Int),i)) (λj=>List.replicate j (-1)++List.replicate (N-j) (0:Int)) (r:=some (List.replicate N (-1))) (λf j hj=>?_) (λf=>?_) (n:=Ab) (by unfold Ab;omega)
 ·have this:AF Ab (List.replicate N (0:Int),((List.replicate N (0:Int)).length:Int),0)=_:=this
  rw[this];rfl
 ·have hin:j<(List.replicate j (-1)++List.replicate (N-j) (0:Int)).length:=by simp;omega
  have e:(List.replicate j (-1)++List.replicate (N-j) (0:Int)).set j (-1)=List.replicate (j+1) (-1)++List.replicate (N-(j+1)) (0:Int):=by
   rw[show N-j=(N-(j+1))+1 by omega,List.replicate_succ,List.set_append_right _ _ (by simp),List.replicate_succ']
   simp
  simp only[AF,Ae,hin,A7,e,if_true,Ad (show j<4611686018427387904 by omega)]
  rw[if_pos (by simp;omega)]
 ·simp only[AF]
  rw[if_neg (by simp)];simp
theorem FI {N:Nat} (h:N<=1000):Cr (N:Int)=some (List.replicate N (-1)):=by
 unfold Cr
 have:=Cw N (λf o i=>AW f ((N:Int),o,i)) (λj=>List.replicate j (-1)) (r:=some (List.replicate N (-1))) (λf j hj=>?_) (λf=>?_) (n:=Ab) (by unfold Ab;omega)
 ·have this:AW Ab ((N:Int),[],0)=_:=this
  rw[this];rfl
 ·simp only[AW,List.replicate_succ',Ad (show j<4611686018427387904 by omega)]
  rw[if_pos (by simp;omega),if_pos (by simp;unfold lim;omega)]
 ·simp only[AW]
  rw[if_neg (by simp)]
end T
open Go Go.Va
namespace T
section
variable {n k:Int} {rels:List Az}
theorem Fa {k:Nat} {l:List (List Int)} (h: ∀t∈l,t.length<=1000):(CB k l).1.2.length<=1000:=by
 unfold CB
 cases l with
 |nil=>simp
 |cons t l=>exact h t (by simp)
theorem FV {n k:Nat} {rels:List Az} {given:List Int} (h:RelsOk n k rels) (hg:given.length=n^k) (h9:n^n^k<=4611686018427387904):
  Ax (n:Int) rels (k:Int) given ()=some (CB k (Yik n k rels given))/\
  ((BO (n:Int) rels (k:Int) given 1).bind λr6=>if r6.2.1==0 then some ((0,[]),false)else if inb 0 r6.1 then some (((k:Int),gd r6.1 0 []),true)else none)=some (CB k (Yik n k rels given))/\(CB k (Yik n k rels given)).1.2.length<=1000:=by
 have hp:=By h.hn.2 h.hk.2
 have hlen: ∀t∈Yik n k rels given,t.length<=1000:=λt ht=>by rw[(Ek ht).1];omega
 obtain⟨s,h1,h2⟩:=EF h hg h9
 refine⟨C6 h hg,?_,Fa hlen⟩
 rw[h1]
 simp only[Option.bind_some]
 cases hc:Yik n k rels given with
 |nil=>rw[hc]at h2;rw[if_pos (by simp[h2])];rfl
 |cons t l=>
  rw[hc]at h2
  obtain⟨h3,h4⟩:=h2
  have hi:inb (0:Int) [t]:=⟨by omega,by simp⟩
  rw[if_neg (by simp[h3]),h4,if_pos hi];rfl
end
end T
open Go Go.Va
namespace T
section
variable {n:Nat} {rels:List Az}
theorem Gj (hn:n<=3) {x y z:Nat} (hx:x<n) (hy:y<n) (hz:z<n):
  w64 (w64 (w64 (w64 ((x:Int)*(n:Int))*(n:Int))+w64 ((y:Int)*(n:Int)))+(z:Int))=((x*n*n+y*n+z:Nat):Int)/\x*n*n+y*n+z<n*n*n/\n*n*n<=27:=by
 have h1:(x+1)*n<=n*n:=Nat.mul_le_mul_right _ hx
 have h2:(x*n+y+1)*n<=n*n*n:=Nat.mul_le_mul_right _ (by rw[Nat.succ_mul]at h1;omega)
 have h3:n*n<=3*3:=Nat.mul_le_mul hn hn
 have h4:n*n*n<=9*3:=Nat.mul_le_mul h3 hn
 have h5:y*n<=3*3:=Nat.mul_le_mul (by omega) hn
 have h6:x*n<=3*3:=Nat.mul_le_mul (by omega) hn
 have h7:x*n*n<=9*3:=Nat.mul_le_mul h6 hn
 rw[Nat.succ_mul,Nat.add_mul]at h2
 refine⟨?_,by omega,by omega⟩
 rw[←Int.natCast_mul,EU (by omega),←Int.natCast_mul,EU (by omega),←Int.natCast_mul,EU (by omega),←Int.natCast_add,EU (by omega),←Int.natCast_add,EU (by omega)]
theorem FE (hn:n<=3):w64 (w64 ((n:Int)*(n:Int))*(n:Int))=((n*n*n:Nat):Int):=by
 have h3:n*n<=3*3:=Nat.mul_le_mul hn hn
 have h4:n*n*n<=9*3:=Nat.mul_le_mul h3 hn
 rw[←Int.natCast_mul,EU (by omega),←Int.natCast_mul,EU (by omega)]
def DL (n i:Nat):Int:=
 if i/n%n=i%n then((i/n/n%n:Nat):Int)else if i/n/n%n=i/n%n then((i%n:Nat):Int)else-1
def Cz (v:Nat->Int) (N j:Nat):List Int:=(List.range N).map λi=>if i<j then v i else-1
theorem F6 {v:Nat->Int} {N j:Nat} (h:j<N):(Cz v N j).set j (v j)=Cz v N (j+1):=by
 unfold Cz
 apply List.ext_getElem
 ·simp
 ·intro i h1 h2
  rw[List.getElem_set]
  simp only[List.getElem_map,List.getElem_range]
  by_cases e:j=i
  ·subst e;rw[if_pos rfl,if_pos (by omega)]
  ·rw[if_neg e]
   by_cases e2:i<j
   ·rw[if_pos e2,if_pos (by omega)]
   ·rw[if_neg e2,if_neg (by omega)]
theorem Fm {v:Nat->Int} {N j:Nat} (h:v j= -1):Cz v N (j+1)=Cz v N j:=by
 unfold Cz
 refine List.map_congr_left λi hi=>?_
 by_cases e:i=j
 ·subst e;rw[if_pos (by omega),if_neg (by omega),h]
 ·by_cases e2:i<j
  ·rw[if_pos e2,if_pos (by omega)]
  ·rw[if_neg e2,if_neg (by omega)]
theorem Fo {v:Nat->Int} {N:Nat}:Cz v N 0=List.replicate N (-1):=by
 unfold Cz
 apply List.ext_getElem<;>simp
theorem GG (h1:1<=n) (hn:n<=3):Af Ab ((n:Int),rels,(0,[]),List.replicate (n*n*n) (-1),((List.replicate (n*n*n) (-1:Int)).length:Int),0)=some ((n:Int),rels,(0,[]),Cz (DL n) (n*n*n) (n*n*n)):=by
 have h27:=(Gj hn (show 0<n by omega) (show 0<n by omega) (show 0<n by omega)).2.2
 have:=Cw (n*n*n) (λf o i=>Af f ((n:Int),rels,(0,[]),o,((List.replicate (n*n*n) (-1:Int)).length:Int),i)) (λj=>Cz (DL n) (n*n*n) j) (r:=some ((n:Int),rels,(0,[]),Cz (DL n) (n*n*n) (n*n*n))) (λf j hj=>?_) (λf=>?_) (n:=Ab) (by unfold Ab;omega)
 ·rw[Fo]at this;exact this
 ·have ha:=CC (b:=n) (k:=3) (i:=j) (by omega) (by omega) (by omega)
  have ha:BN (j:Int) 3 (n:Int)=some [((j/n/n%n:Nat):Int),((j/n%n:Nat):Int),((j%n:Nat):Int)]:=by
   rw[show(3:Int)=((3:Nat):Int) from rfl,ha];simp[dg,cI]
  have hin:j<(Cz (DL n) (n*n*n) j).length:=by simp[Cz];exact hj
  have hs:=F6 (v:=DL n) hj
  generalize hA:j/n/n%n=A at ha
  generalize hB:j/n%n=B at ha
  generalize hC:j%n=C at ha
  have i0:inb (0:Int) [(A:Int),(B:Int),(C:Int)]:=⟨by omega,by simp⟩
  have i1:inb (1:Int) [(A:Int),(B:Int),(C:Int)]:=⟨by omega,by simp⟩
  have i2:inb (2:Int) [(A:Int),(B:Int),(C:Int)]:=⟨by omega,by simp⟩
  have g0:gd [(A:Int),(B:Int),(C:Int)] 0 0=(A:Int):=rfl
  have g1:gd [(A:Int),(B:Int),(C:Int)] 1 0=(B:Int):=rfl
  have g2:gd [(A:Int),(B:Int),(C:Int)] 2 0=(C:Int):=rfl
  have hv:DL n j=if B=C then(A:Int)else if A=B then(C:Int)else-1:=by unfold DL;rw[hA,hB,hC]
  simp only[Af,ha,Option.bind_some,i0,i1,i2,g0,g1,g2,if_true,Ae,hin,A7,Ad (show j<4611686018427387904 by omega)]
  rw[if_pos (decide_eq_true (by rw[List.length_replicate];exact Int.ofNat_lt.2 hj))]
  by_cases c1:B=C
  ·rw[if_pos (by simp[c1]),←hs,hv,if_pos c1]
  ·rw[if_neg (by simp;omega)]
   by_cases c2:A=B
   ·rw[if_pos (by simp[c2]),←hs,hv,if_neg c1,if_pos c2]
   ·rw[if_neg (by simp;omega),Fm (by rw[hv,if_neg c1,if_neg c2])]
 ·simp only[Af]
  rw[if_neg (by simp)]
def Eh (n x:Nat) (o:List Int) (y:Nat):List Int:=(o.set (x*n*n+y*n+y) (x:Int)).set (x*n*n+x*n+y) (y:Int)
theorem DK {x:Nat}: ∀(l:List Nat) (o:List Int),(l.foldl (Eh n x) o).length=o.length
 | [],o=>rfl
 |y::l,o=>by rw[List.foldl_cons,DK l];simp[Eh]
theorem Ew: ∀(l:List Nat) (o:List Int),(l.foldl (λo x=>(List.range n).foldl (Eh n x) o) o).length=o.length
 | [],o=>rfl
 |y::l,o=>by rw[List.foldl_cons,Ew l,DK]
theorem Gk (h1:1<=n) (hn:n<=2):(List.range n).foldl (λo x=>(List.range n).foldl (Eh n x) o) (List.replicate (n*n*n) (-1))=Cz (DL n) (n*n*n) (n*n*n):=by
 have:n=1∨n=2:=by omega
 rcases this with rfl|rfl<;>decide+kernel
theorem G0 (h1:1<=n) (hn:n<=2):Aj Ab ((n:Int),rels,(0,[]),List.replicate (n*n*n) (-1),0)=some ((n:Int),rels,(0,[]),Cz (DL n) (n*n*n) (n*n*n)):=by
 have i8: ∀(o:List Int) (x:Nat),o.length=n*n*n->x<n->Ak Ab ((n:Int),rels,(0,[]),o,(x:Int),0)=some ((n:Int),rels,(0,[]),(List.range n).foldl (Eh n x) o,(x:Int)):=λo x ho hx=>by
  have:=Cw n (λf o y=>Ak f ((n:Int),rels,(0,[]),o,(x:Int),y)) (λj=>(List.range j).foldl (Eh n x) o) (r:=some ((n:Int),rels,(0,[]),(List.range n).foldl (Eh n x) o,(x:Int))) (λf y hy=>by
   obtain⟨a1,a2,_⟩:=Gj (show n<=3 by omega) hx hy hy
   obtain⟨b1,b2,_⟩:=Gj (show n<=3 by omega) hx hx hy
   have hl:=DK (n:=n) (x:=x) (List.range y) o
   rw[ho]at hl
   rw[BJ]
   generalize (List.range y).foldl (Eh n x) o=q at hl
   simp only[Ak,a1,b1,Ae,A7,List.length_set,hl,a2,b2,if_true,Ad (show y<4611686018427387904 by omega)]
   rw[if_pos (by simp;omega)];rfl) (λf=>by simp only[Ak];rw[if_neg (by simp)]) (n:=Ab) (by unfold Ab;omega)
  exact this
 have:=Cw n (λf o x=>Aj f ((n:Int),rels,(0,[]),o,x)) (λj=>(List.range j).foldl (λo x=>(List.range n).foldl (Eh n x) o) (List.replicate (n*n*n) (-1))) (r:=some ((n:Int),rels,(0,[]),Cz (DL n) (n*n*n) (n*n*n))) (λf x hx=>by
  have hl:=Ew (n:=n) (List.range x) (List.replicate (n*n*n) (-1))
  rw[List.length_replicate]at hl
  rw[BJ]
  simp only[Aj,i8 _ x hl hx,Option.bind_some,Ad (show x<4611686018427387904 by omega)]
  rw[if_pos (by simp;omega)]) (λf=>by simp only[Aj];rw[if_neg (by simp),Gk h1 hn]) (n:=Ab) (by unfold Ab;omega)
 exact this
theorem Gr (hn:1<=n) (h3:n<=3):n^n^3<=4611686018427387904:=by
 have:n=1∨n=2∨n=3:=by omega
 rcases this with rfl|rfl|rfl<;>decide+kernel
theorem FF:n^3=n*n*n:=by rw[Nat.pow_succ,Nat.pow_succ,Nat.pow_one]
end
section
variable {n:Int} {rels:List Az}
theorem Cv (h:Dn rels): ∃R:Opn×Bool,AE n rels=some R/\Be n rels=some R/\R.1.2.length<=1000:=by
 unfold AE Be
 rw[DD h,Di h]
 rw[show(CY n rels&&decide (1<=(3:Int)/\(3:Int)<=3)&&EL 3 rels)=(CY n rels&&EL 3 rels) by simp]
 cases hc:CY n rels&&EL 3 rels with
 |false=>exact⟨((0,[]),false),by simp,by simp,by simp⟩
 |true=>
  rw[Bool.and_eq_true]at hc
  obtain⟨hn,_⟩:=E8 hc.1
  have hR:=Gq (k:=3) hc.1 (by omega)
  simp only[Option.bind_some,Bool.not_true,Bool.false_eq_true,if_false]
  by_cases h3:n>2
  ·rw[if_pos (by simpa using h3),if_pos (by simpa using h3)];exact⟨((0,[]),false),rfl,rfl,by simp⟩
  ·rw[if_neg (by simpa using h3),if_neg (by simpa using h3)]
   obtain⟨m,rfl⟩: ∃m:Nat,n=m:=⟨n.toNat,by omega⟩
   rw[Int.toNat_natCast]at hR
   have h27:=(Gj (n:=m) (by omega) (show 0<m by omega) (show 0<m by omega) (show 0<m by omega)).2.2
   obtain⟨q1,q2,q3⟩:=FV hR (given:=Cz (DL m) (m*m*m) (m*m*m)) (by simp[Cz,FF]) (Gr (by omega) (by omega))
   refine⟨_,?_,?_,q3⟩
   ·simp only[FE (show m<=3 by omega),FH (show m*m*m<=1000 by omega),Option.bind_some,GG (rels:=rels) (show 1<=m by omega) (show m<=3 by omega)]
    rw[show(3:Int)=((3:Nat):Int) from rfl,q1];rfl
   ·simp only[FE (show m<=3 by omega),FI (show m*m*m<=1000 by omega),Option.bind_some,G0 (rels:=rels) (show 1<=m by omega) (show m<=2 by omega)]
    unfold CV
    rw[show(3:Int)=((3:Nat):Int) from rfl,q2];rfl
theorem FnExactMalcevPolymorphism_law (h0:wfT .int n) (h:wfT Gx rels):Ba n rels=some true:=by
 unfold Ba
 rw[DW h (by omega) (by omega)]
 simp only[Option.bind_some]
 by_cases hz:szR (C9 rels) 1048576<0
 ·rw[if_pos (by simpa using hz)]
 ·obtain⟨hs,ht⟩:=F5 (by omega) hz
  rw[if_neg (by simpa using hz)]
  obtain⟨b,k',hm,hk0,hk1⟩:=Ex (k:=1) hs (by omega) (by omega) (by omega)
  obtain⟨R,e1,e2,hR⟩:=Cv (n:=n) hs
  have e3:=Dd R.1.2 1
  have e4: ¬(Cj R.1.2 1).2<0:=by omega
  have e5:=Gg (f:=R.1) (g:=R.1) (by omega)
  have e5:BY (R.1.1,R.1.2) (R.1.1,R.1.2)=_:=e5
  simp only[DX hs,e1,e2,Dy hs,Option.bind_some,e5,hm]
  unfold Dl CH
  simp only[Dm (l:=R.1.2) (k:=1) (by omega) (by omega) (by unfold BM;omega),Option.bind_some,Eu (l:=R.1.2) (k:=1) (by omega) (by omega) (by unfold BM;omega)]
  simp[e4,show¬k'<0 by omega]
end
end T
open Go Go.Va
namespace T
section
variable {n:Int} {rels:List Az}
end
def Dp (V:List Int) (x:Nat):Int:=match V.findIdx? (λy=>y==(x:Int))with|some i=>(i:Int)|none=> -1
section
variable {n:Nat} {t:List Int}
end
section
variable {n m:Nat} {t:List Int} {r:Az} {rels:List Az}
end
end T
open Go Go.Va
namespace T
section
variable {α:Type} {nw old:Nat->α} {N i:Nat}
end
def pr4 (p:Int):Prop:=p=2∨p=3∨p=5∨p=7
def E2 (p:Int) (W:Nat) (r:List Int):Prop:=r.length=W/\ ∀x∈r,0<=x/\x<p
section
variable {p:Int} {W:Nat} {r row:List Int}
theorem GM (h:E2 p W r) {i:Nat} (hi:i<W):0<=r.getD i 0/\r.getD i 0<p:=by
 have:i<r.length:=by rw[h.1];exact hi
 rw[Am this];exact h.2 _ (List.getElem_mem this)
end
abbrev ES:=List (List Int)×List Int×List (List Int)
structure ESok (p:Int) (W N v:Nat) (s:ES):Prop where
 t: ∀r∈s.1,E2 p W r
 l: ∀r∈s.2.2,E2 p W r
 bl:s.2.1.length=s.1.length
 n:s.1.length+s.2.2.length=N
 bv: ∀x∈s.2.1,0<=x/\x<(v:Int)
 bn:s.2.1.Nodup
section
variable {p:Int} {W N:Nat}
end
end T
open Go Go.Va
namespace T
section
variable {p:Int} {W N V:Nat}
theorem Fl {b:List Int} {u:Nat} (h:(u:Int)∉b):Dp b u= -1:=by
 unfold Dp
 have h1:(b.findIdx? λy=>y==(u:Int))=none:=by
  rw[List.findIdx?_eq_none_iff]
  intro y hy
  simp only[beq_eq_false_iff_ne]
  intro e;exact h (e▸hy)
 rw[h1]
theorem E3 {b:List Int} {u:Nat} (h:(u:Int)∈b): ∃i,∃hi:i<b.length,Dp b u=(i:Int)/\b[i]=(u:Int):=by
 unfold Dp
 have h1:(b.findIdx? λy=>y==(u:Int)).isSome=true:=by
  rw[List.findIdx?_isSome,List.any_eq_true]
  exact⟨_,h,by simp⟩
 obtain⟨i,hi⟩:=Option.isSome_iff_exists.1 h1
 rw[hi]
 obtain⟨g1,g2,_⟩:=List.findIdx?_eq_some_iff_getElem.1 hi
 exact⟨i,g1,rfl,by simpa using g2⟩
end
end T
open Go Go.Va
namespace T
def GV (N:Nat) (b:List Int):List Int:=((List.range N).filter λv:Nat=>!decide ((v:Int)∈b)).map λv:Nat=>(v:Int)
section
variable {p:Int} {W N V:Nat}
theorem FX {b:List Int} {u:Nat}:Dp b u<0↔(u:Int)∉b:=by
 by_cases h:(u:Int)∈b
 ·obtain⟨i,hi,h1,_⟩:=E3 h
  rw[h1];simp[h]
 ·rw[Fl h];simp[h]
def F7 (V:Nat) (s:ES) (u:Nat):Int:=if Dp s.2.1 u<0 then 0 else(s.1.getD (Dp s.2.1 u).toNat []).getD V 0
def G5 (V:Nat) (s:ES):List Int:=(List.range V).map (F7 V s)
end
end T
open Go Go.Va
namespace T
def cg (p a b:Int):Prop:= ∃k,a=b+p*k
section
variable {p a b c d:Int}
theorem FD (h:a=b):cg p a b:=⟨0,by rw[h];simp⟩
theorem GE (h:cg p a b) (g:cg p c d):cg p (a+c) (b+d):=by obtain⟨k,h⟩:=h;obtain⟨m,g⟩:=g;exact⟨k+m,by grind⟩
theorem GF (x:Int) (h:cg p a b):cg p (x*a) (x*b):=by obtain⟨k,h⟩:=h;exact⟨x*k,by grind⟩
end
inductive Sp (p:Int) (V:Nat) (A:List (List Int)):(Nat->Int)->Prop
 |zero:Sp p V A λ_=>0
 |add {f:Nat->Int} (r:List Int) (c:Int):r∈A->Sp p V A f->Sp p V A λi=>f i+c*r.getD i 0
 |cgr {f g:Nat->Int}:Sp p V A f->(∀i,i<V->cg p (g i) (f i))->Sp p V A g
section
variable {p:Int} {V W N:Nat} {A B:List (List Int)} {f g:Nat->Int}
theorem Sp.lin (hf:Sp p V A f) (hg:Sp p V A g) (c:Int):Sp p V A λi=>f i+c*g i:=by
 induction hg with
 |zero=>exact hf.cgr λi _=>FD (by simp)
 |add r d hr _ ih=>exact(ih.add r (c*d) hr).cgr λi _=>FD (by grind)
 |cgr _ h ih=>exact ih.cgr λi hi=>GE (FD rfl) (GF c (h i hi))
theorem Sp.sub (h: ∀r∈A,Sp p V B λi=>r.getD i 0) (hf:Sp p V A f):Sp p V B f:=by
 induction hf with
 |zero=>exact .zero
 |add r c hr _ ih=>exact ih.lin (h r hr) c
 |cgr _ h ih=>exact ih.cgr h
def eqSp (p:Int) (V:Nat) (A B:List (List Int)):Prop:= ∀f,Sp p V A f↔Sp p V B f
end
end T
open Go Go.Va
namespace T
section
variable {p:Int} {V W N:Nat} {A B:List (List Int)} {f g:Nat->Int}
theorem Et {α:Type} {l:List α} {i:Nat} {d:α} (hi:i<l.length):l.getD i d∈l:=by rw[Am hi];exact List.getElem_mem hi
end
end T
open Go Go.Va
namespace T
section
variable {p:Int} {V W N:Nat} {A B C D:List (List Int)} {f g:Nat->Int}
theorem eqSp.symm (h:eqSp p V A B):eqSp p V B A:=λf=>(h f).symm
theorem eqSp.trans (h:eqSp p V A B) (g:eqSp p V B C):eqSp p V A C:=λf=>(h f).trans (g f)
end
end T
open Go Go.Va
namespace T
def i64 (x:Int):Prop:= -9223372036854775808<=x/\x<=9223372036854775807
section
variable {c:List Int} {ar:Int}
end
end T
open Go Go.Va
namespace T
abbrev NS:=Bool×Int×List (List (List Int))×List (List (List ByteArray))
abbrev NIn (σ:Type):=Int×List Int×σ×NS×List Int×Unit
abbrev F9 (σ:Type):=List Int×σ×NS×List Int×Bool
def hM {σ:Type}:Nat->(Int×List Int×σ×NS×List Int×Unit×Int×Bool×List (List Int)×Int×Int)->Option (Int×List Int×σ×NS×List Int×Unit×Int×Bool)
 |0,_=>none
 |n+1,(t0,t1,t2,t3,t4,t5,t8,t9,t50,t51,t52)=>
 if decide (t52<t51)then
 if inb t52 t50 then
 if t9 then
 if t3.1=true then
 if inb t0 t3.2.2.2 then
 if inb t52 (gd t3.2.2.2 t0 [])then
 (BI (gd t50 t52 []) t1).bind λr2=>
 (BE r2).bind λr3=>
 hM n (t0,t1,t2,t3,t4,(),t8,Xs (gd (gd t3.2.2.2 t0 []) t52 []) r3,t50,t51,w64 (t52+1))
 else none
 else none
 else none
 else
 hM n (t0,t1,t2,t3,t4,(),t8,false,t50,t51,w64 (t52+1))
 else none
 else
 some (t0,t1,t2,t3,t4,(),t8,t9)
def hL {σ:Type} (rec:NIn σ->Option (F9 σ)):Nat->(Int×List Int×σ×NS×List Int×Unit×Int)->Option ((List Int×σ×NS×List Int×Unit)⊕(List Int×σ×NS×List Int×Unit×Bool))
 |0,_=>none
 |n+1,(t0,t1,t2,t3,t4,t5,t8)=>
 if t3.1=true then
 if decide (t8<t3.2.1)then
 if inb t0 t4 then
 if decide ((gd t4 t0 0)≥0)then
 if inb t0 t4 then
 if(gd t4 t0 0) !=t8 then
 hL rec n (t0,t1,t2,t3,t4,(),w64 (t8+1))
 else
 if inb t0 t1 then
 if t3.1=true then
 if inb t0 t3.2.2.1 then
 (hM Ab (t0,stt t1 t0 t8,t2,t3,t4,(),t8,true,gd t3.2.2.1 t0 [],((gd t3.2.2.1 t0 []).length:Int),0)).bind λs2=>
 if s2.2.2.2.2.2.2.2 then
 (rec (w64 (s2.1+1),s2.2.1,s2.2.2.1,s2.2.2.2.1,s2.2.2.2.2.1,())).bind λr3=>
 if !r3.2.2.2.2 then
 some (.inr (r3.1,r3.2.1,r3.2.2.1,r3.2.2.2.1,(),false))
 else
 hL rec n (s2.1,r3.1,r3.2.1,r3.2.2.1,r3.2.2.2.1,(),w64 (s2.2.2.2.2.2.2.1+1))
 else
 hL rec n (s2.1,s2.2.1,s2.2.2.1,s2.2.2.2.1,s2.2.2.2.2.1,(),w64 (s2.2.2.2.2.2.2.1+1))
 else none
 else none
 else none
 else none
 else
 if inb t0 t1 then
 if t3.1=true then
 if inb t0 t3.2.2.1 then
 (hM Ab (t0,stt t1 t0 t8,t2,t3,t4,(),t8,true,gd t3.2.2.1 t0 [],((gd t3.2.2.1 t0 []).length:Int),0)).bind λs4=>
 if s4.2.2.2.2.2.2.2 then
 (rec (w64 (s4.1+1),s4.2.1,s4.2.2.1,s4.2.2.2.1,s4.2.2.2.2.1,())).bind λr5=>
 if !r5.2.2.2.2 then
 some (.inr (r5.1,r5.2.1,r5.2.2.1,r5.2.2.2.1,(),false))
 else
 hL rec n (s4.1,r5.1,r5.2.1,r5.2.2.1,r5.2.2.2.1,(),w64 (s4.2.2.2.2.2.2.1+1))
 else
 hL rec n (s4.1,s4.2.1,s4.2.2.1,s4.2.2.2.1,s4.2.2.2.2.1,(),w64 (s4.2.2.2.2.2.2.1+1))
 else none
 else none
 else none
 else none
 else
 some (.inl (t1,t2,t3,t4,()))
 else none
def GY {σ:Type} (cb:List Int->σ->Option (σ×Bool)) (rec:NIn σ->Option (F9 σ)) (x:NIn σ):Option (F9 σ):=
 if x.1==(x.2.1.length:Int)then
  (cb x.2.1 x.2.2.1).bind λr1=>some (x.2.1,r1.1,x.2.2.2.1,x.2.2.2.2.1,r1.2)
 else
  (hL rec Ab (x.1,x.2.1,x.2.2.1,x.2.2.2.1,x.2.2.2.2.1,(),0)).bind λs2=>
   match s2 with
   | .inl s3=>some (s3.1,s3.2.1,s3.2.2.1,s3.2.2.2.1,true)
   | .inr s4=>some (s4.1,s4.2.1,s4.2.2.1,s4.2.2.2.1,s4.2.2.2.2.2)
def hF {σ:Type} (cb:List Int->σ->Option (σ×Bool)):Nat->NIn σ->Option (F9 σ)
 |0,_=>none
 |d+1,x=>GY cb (hF cb d) x
section
variable {V n:Nat} {cs:List Con} {given:List Int}
end
end T
open Go Go.Va
namespace T
section
variable {p:Int} {W N V:Nat}
def coG (p:Int) (s:ES) (u:Nat) (f:Int):Int:=if Dp s.2.1 u<0 then(if f=(u:Int)then 1 else 0)else p-(s.1.getD (Dp s.2.1 u).toNat []).getD f.toNat 0
def GP (p:Int) (V:Nat) (s:ES) (F x:List Int) (u:Nat):Nat->Int
 |0=>F7 V s u
 |k+1=>GP p V s F x u k+coG p s u (F.getD k 0)*x.getD k 0
def G7 (p:Int) (V:Nat) (s:ES) (F x:List Int) (k:Nat):List Int:=(List.range V).map λu=>GP p V s F x u k%p
structure GenOk (p:Int) (W N V:Nat) (s:ES) (F x:List Int):Prop where
 hp:pr4 p
 hs:ESok p W N V s
 hV:V<W
 hW:W<=1000
 hN:N<=100000
 hF:F=GV V s.2.1
 hx:x.length=F.length
 xb: ∀v∈x,0<=v/\v<p
variable {s:ES} {F x:List Int}
theorem GenOk.pb (g:GenOk p W N V s F x):2<=p/\p<=7:=by have:=g.hp;unfold pr4 at this;omega
theorem GenOk.row (g:GenOk p W N V s F x) {u:Nat} (hu: ¬Dp s.2.1 u<0):(Dp s.2.1 u).toNat<s.1.length/\E2 p W (s.1.getD (Dp s.2.1 u).toNat []):=by
 have hm:(u:Int)∈s.2.1:=by
  rcases Decidable.em ((u:Int)∈s.2.1)with h|h
  ·exact h
  ·exact absurd (FX.2 h) hu
 obtain⟨i,hi,g1,_⟩:=E3 hm
 rw[g1,Int.toNat_natCast]
 have:=g.hs.bl
 exact⟨by omega,by rw[Am (by omega)];exact g.hs.t _ (List.getElem_mem _)⟩
theorem GenOk.base (g:GenOk p W N V s F x) (u:Nat):0<=F7 V s u/\F7 V s u<p:=by
 have:=g.pb
 unfold F7
 split
 ·omega
 ·rename_i h
  exact GM (g.row h).2 g.hV
end
end T
open Go Go.Va
namespace T
section
variable {p:Int} {W N V:Nat} {s:ES} {F x:List Int}
theorem GenOk.zero (g:GenOk p W N V s F x):G7 p V s F x 0=G5 V s:=by
 unfold G7 G5
 refine List.map_congr_left λu _=>?_
 have:=g.base u
 simp only[GP]
 exact Int.emod_eq_of_lt this.1 this.2
end
end T
open Go Go.Va
namespace T
section
variable {n:Int} {k:Nat} {ts:List (List Int)}
def Gn (ts:List (List Int)) (i j:Nat):List Int:=(ts.getD j []).take i
def Gs (ts:List (List Int)) (i j:Nat):Int:=(ts.getD j []).getD i 0
end
end T
open Go Go.Va
namespace T
section
variable {n:Int} {k:Nat} {ts:List (List Int)}
def Gu (ts:List (List Int)) (i:Nat) (x y:Int) (a b:Nat):Bool:=Gs ts i a==x&&(Gs ts i b==y&&decide (Gn ts i a=Gn ts i b))
def bO (ts:List (List Int)) (i:Nat) (x y:Int) (a:Nat):Option Nat:=(List.range ts.length).find? (Gu ts i x y a)
def FW (ts:List (List Int)) (i:Nat) (x y:Int):Option (Nat×Nat):=(List.range ts.length).findSome? λa=>(bO ts i x y a).map λb=>(a,b)
theorem EN {i:Nat} {x y:Int} {a b:Nat} (h:FW ts i x y=some (a,b)):a<ts.length/\b<ts.length/\Gs ts i a=x/\Gs ts i b=y/\Gn ts i a=Gn ts i b:=by
 unfold FW at h
 obtain⟨a',ha,h⟩:=List.exists_of_findSome?_eq_some h
 obtain⟨b',hb,h⟩:=Option.map_eq_some_iff.1 h
 obtain⟨rfl,rfl⟩:=Prod.mk.inj h
 have h1:=List.find?_some hb
 have h2:=List.mem_of_find?_eq_some hb
 unfold Gu at h1
 simp only[Bool.and_eq_true,beq_iff_eq,decide_eq_true_eq]at h1
 exact⟨List.mem_range.1 ha,List.mem_range.1 h2,h1.1,h1.2.1,h1.2.2⟩
end
end T
open Go Go.Va
namespace T
section
variable {n:Nat} {t:List Int}
def Gc (n:Nat) (t:List Int) (x y:Nat):Nat:=(t.getD (x*n+y) 0).toNat
structure TabOk (n:Nat) (t:List Int):Prop where
 hn:1<=n/\n<=4
 len:t.length=n*n
 val: ∀x∈t,0<=x/\x<(n:Int)
theorem ix2 (hn:n<=4) {x y:Nat} (hx:x<n) (hy:y<n):w64 (w64 ((x:Int)*(n:Int))+(y:Int))=((x*n+y:Nat):Int)/\x*n+y<n*n:=by
 have h1:x*n+y<n*n:=by
  calc x*n+y<x*n+n:=by omega
   _=(x+1)*n:=by rw[Nat.succ_mul]
   _<=n*n:=Nat.mul_le_mul_right _ hx
 have h2:n*n<=4*4:=Nat.mul_le_mul hn hn
 have e:(x:Int)*(n:Int)=((x*n:Nat):Int):=by simp
 have a1:w64 ((x*n:Nat):Int)=((x*n:Nat):Int):=Ay (by omega) (by omega)
 rw[e,a1,Ay (by omega) (by omega)]
 exact⟨by omega,h1⟩
theorem TabOk.at (h:TabOk n t) {x y:Nat} (hx:x<n) (hy:y<n):w64 (w64 ((x:Int)*(n:Int))+(y:Int))=((x*n+y:Nat):Int)/\inb ((x*n+y:Nat):Int) t/\gd t ((x*n+y:Nat):Int) 0=((Gc n t x y:Nat):Int)/\Gc n t x y<n:=by
 obtain⟨h1,h2⟩:=ix2 h.hn.2 hx hy
 have hl:x*n+y<t.length:=by rw[h.len];exact h2
 have hv:=h.val _ (List.getElem_mem hl)
 refine⟨h1,by rw[Ae];exact hl,?_,?_⟩
 ·rw[Ah hl];unfold Gc;rw[Am hl];omega
 ·unfold Gc;rw[Am hl];omega
end
end T
open Go Go.Va
namespace T
section
variable {a:Net} {K:Nat} {c:Con} {i p n:Nat} {st:ASt}
def F8 (d:Dom) (V:Nat) (t:List Int):Prop:= ∀u,u<V->d2 d u (t.getD u 0).toNat=true
end
end T
open Go Go.Va
namespace T
section
variable {a:Net} {n s:Nat} {t:T4} {u:T3}
def GS (a:Net) (i j k x y z:Nat):Prop:= ∀c∈a.2.2,(∀v∈c.1,v=(i:Int)∨v=(j:Int)∨v=(k:Int))-> ∀vs:List Int,Bn vs (i:Int)=(x:Int)->Bn vs (j:Int)=(y:Int)->Bn vs (k:Int)=(z:Int)->GT vs c=true
structure Fam (a:Net) (n s:Nat) (S:Nat->Nat->Nat->Nat->Prop):Prop where
 sym: ∀i j x y,S i j x y->S j i y x
 first: ∀i j x y,i<j->j<n->x<s->y<s->S i j x y->fB a n i j x y=true
 path: ∀i j k x y,i<n->j<n->k<n->i≠j->k≠i->k≠j->x<s->y<s->S i j x y-> ∃z,z<s/\S i k x z/\S j k y z/\GS a i j k x y z
structure MinP (a:Net) (n s:Nat) (t:T4) (u:T3):Prop where
 rel:Rel34 n s t u
 sym: ∀i j x y,i<n->j<n->i≠j->x<s->y<s->r4 t i j x y=r4 t j i y x
 first: ∀i j x y,i<n->j<n->i≠j->x<s->y<s->r4 t i j x y=true->fB a n i j x y=true
 path: ∀i j k x y,i<n->j<n->k<n->i≠j->k≠i->k≠j->x<s->y<s->r4 t i j x y=true-> ∃z,z<s/\r4 t i k x z=true/\r4 t j k y z=true/\GS a i j k x y z
 all: ∀S,Fam a n s S-> ∀i j x y,i<n->j<n->i≠j->x<s->y<s->S i j x y->r4 t i j x y=true
end
end T
open Go Go.Va
namespace T
section
variable {a:Net} {n s:Nat} {t:T4} {u:T3} {F:Nat->Nat->Nat->Nat}
theorem Gw (hM:MinP a n s t u) {w w' v x y:Nat} (hw:w<n) (hw':w'<n) (hv:v<n) (h1:w≠w') (h2:w≠v) (h3:w'≠v) (hx:x<s) (hy:y<s) (h:r4 t w' v y x=true): ∃z,z<s/\r4 t w v z x=true:=by
 obtain⟨z,hz,_,q,_⟩:=hM.path w' v w y x hw' hv hw h3 h1 h2 hy hx h
 exact⟨z,hz,by rw[hM.sym w v z x hw hv h2 hz hx];exact q⟩
theorem G6 (p q:Nat): ∃w,w<3/\w≠p/\w≠q:=by
 by_cases h0:0≠p/\0≠q
 ·exact⟨0,by omega,h0.1,h0.2⟩
 ·by_cases h1:1≠p/\1≠q
  ·exact⟨1,by omega,h1.1,h1.2⟩
  ·exact⟨2,by omega,by omega,by omega⟩
end
end T
open Go Go.Va
namespace T
def GC (n k:Nat) (T:List Int) (x y z:List Int):List Int:=(List.range k).map λj=>T.getD (((x.getD j 0).toNat*n+(y.getD j 0).toNat)*n+(z.getD j 0).toNat) 0
structure T3Ok (n k:Nat) (T:List Int):Prop where
 hn:1<=n/\n<=8
 hk:1<=k/\k<=4
 tl:T.length=n*n*n
 tv: ∀x∈T,0<=x/\x<(n:Int)
def TpOk (n k:Nat) (t:List Int):Prop:=t.length=k/\ ∀x∈t,0<=x/\x<(n:Int)
inductive Clo (n k:Nat) (T:List Int) (gens:List (List Int)):List Int->Prop
 |gen {t:List Int}:t∈gens->Clo n k T gens t
 |app {x y z:List Int}:Clo n k T gens x->Clo n k T gens y->Clo n k T gens z->Clo n k T gens (GC n k T x y z)
section
variable {n k:Nat} {T:List Int} {gens:List (List Int)}
theorem TpOk.get {t:List Int} (h:TpOk n k t) {j:Nat} (hj:j<k):(t.getD j 0).toNat<n/\t.getD j 0=(((t.getD j 0).toNat:Nat):Int)/\j<t.length:=by
 have h1:j<t.length:=by have:=h.1;omega
 have:=h.2 _ (List.getElem_mem h1)
 rw[Am h1]
 exact⟨by omega,by omega,h1⟩
theorem at_lt {a b c:Nat} (ha:a<n) (hb:b<n) (hc:c<n):(a*n+b)*n+c<n*n*n:=by
 have h1:(a+1)*n<=n*n:=Nat.mul_le_mul_right _ ha
 have h2:(a*n+b+1)*n<=n*n*n:=Nat.mul_le_mul_right _ (by rw[Nat.succ_mul]at h1;omega)
 rw[Nat.succ_mul]at h2;omega
theorem Ga (h:T3Ok n k T) {x y z:List Int} (hx:TpOk n k x) (hy:TpOk n k y) (hz:TpOk n k z):TpOk n k (GC n k T x y z):=by
 refine⟨by simp[GC],λv hv=>?_⟩
 obtain⟨j,hj,rfl⟩:=List.mem_map.1 hv
 have hj:=List.mem_range.1 hj
 have:=at_lt (hx.get hj).1 (hy.get hj).1 (hz.get hj).1
 rw[←h.tl]at this
 rw[Am this]
 exact h.tv _ (List.getElem_mem _)
theorem Clo.ok (h:T3Ok n k T) (hg: ∀t∈gens,TpOk n k t) {t:List Int} (c:Clo n k T gens t):TpOk n k t:=by
 induction c with
 |gen h=>exact hg _ h
 |app _ _ _ i1 i2 i3=>exact Ga h i1 i2 i3
end
end T
open Go Go.Va
namespace T
section
variable {p:Int} {V W N k:Nat} {ts:List (List Int)} {f:Nat->Int} {A:List (List Int)}
def TpI (p:Int) (V:Nat) (x:List Int):Prop:=x.length=V/\ ∀y∈x,0<=y/\y<p
theorem TpI.get {x:List Int} (h:TpI p V x) {i:Nat} (hi:i<V):0<=x.getD i 0/\x.getD i 0<p:=by
 have h1:i<x.length:=by have:=h.1;omega
 rw[Am h1];exact h.2 _ (List.getElem_mem h1)
end
end T
open Go Go.Va
namespace T
section
variable {n:Int} {k:Nat} {ts W:List (List Int)}
def WitOf (ts:List (List Int)) (k:Nat) (W:List (List Int)):Prop:= ∀w,w∈W↔ ∃(i:Nat) (x y:Int) (p q:Nat),i<k/\FW ts i x y=some (p,q)/\(w=ts.getD p []∨w=ts.getD q [])
theorem WitOf.sub (h:WitOf ts k W) {w:List Int} (hw:w∈W):w∈ts:=by
 obtain⟨i,x,y,p,q,_,h2,h3⟩:=(h w).1 hw
 obtain⟨g1,g2,_⟩:=EN h2
 rcases h3 with rfl|rfl
 ·exact Et g1
 ·exact Et g2
theorem WitOf.set {N:Int} {kk:Int} (h:WitOf ts kk.toNat W) (hs:GO N kk ts=true) (hi:B4 W=true):GO N kk W=true:=by
 unfold GO at hs⊢
 simp only[Bool.and_eq_true,List.all_eq_true]at hs⊢
 exact⟨⟨hs.1.1,λw hw=>hs.1.2 w (h.sub hw)⟩,hi⟩
end
end T
