/- Plain lemmas on the typed functions of the program, and the plain law of FnExactSolutionRelation; no conditions. -/
import Derived.Test.YtbfbcfnbcbdgjabV1
import Derived.Test.YtbfbcfnbcbdgjabV5
import Derived.KernelRfl
set_option linter.all false
namespace Go.Va
theorem E0 (x:Int):w64 x=(x+9223372036854775808)%18446744073709551616-9223372036854775808:=by
 simp[w64,IntKind.wrap,IntKind.bits,IntKind.signed]
 split<;>omega
theorem AO {x:Int} (h1: -9223372036854775808<=x) (h2:x<=9223372036854775807):w64 x=x:=by
 rw[E0];omega
theorem Ae {k:Nat} (h:k<4611686018427387904):w64 ((k:Int)+1)=((k+1:Nat):Int):=by
 rw[AO (by omega) (by omega)];rfl
theorem Af {α:Type} {k:Nat} {xs:List α}:inb (k:Int) xs↔k<xs.length:=by
 unfold inb;omega
theorem Ai {α:Type} {k:Nat} {xs:List α} {d:α} (h:k<xs.length):gd xs (k:Int) d=xs[k]:=by
 unfold gd;simp[h]
theorem BE {α:Type} {k:Nat} {xs:List α} {x:α}:stt xs (k:Int) x=xs.set k x:=by
 unfold stt;simp
def Ej {α σ β:Type} (step:σ->α->Option (σ⊕β)) (fin:σ->Option β):List α->σ->Option β
 | [],s=>fin s
 |a::l,s=>match step s a with|some (.inl s')=>Ej step fin l s'|some (.inr r)=>some r|none=>none
theorem GF {α σ β:Type} (xs:List α) (L:Nat->σ->Int->Option β) (step:σ->α->Option (σ⊕β)) (fin:σ->Option β)
  (hs: ∀n s (k:Nat) (hk:k<xs.length),L (n+1) s k=match step s xs[k]with|some (.inl s')=>L n s' ((k+1:Nat):Int)|some (.inr r)=>some r|none=>none)
  (he: ∀n s,L (n+1) s (xs.length:Nat)=fin s): ∀(n k:Nat) (s:σ),k<=xs.length->xs.length-k<n->L n s k=Ej step fin (xs.drop k) s:=by
 intro n
 induction n with
 |zero=>intro k s _ h;omega
 |succ n ih=>
  intro k s hk hn
  rcases Nat.lt_or_ge k xs.length with hlt|hge
  ·rw[hs n s k hlt,List.drop_eq_getElem_cons hlt]
   simp only[Ej]
   cases step s xs[k]with
   |none=>rfl
   |some q=>
    cases q with
    |inl s'=>exact ih (k+1) s' hlt (by omega)
    |inr r=>rfl
  ·have:k=xs.length:=by omega
   subst this
   rw[he,List.drop_length];rfl
theorem FB {α σ β:Type} (xs:List α) (L:Nat->σ->Int->Option β) (step:σ->α->Option (σ⊕β)) (fin:σ->Option β)
  (hs: ∀n s (k:Nat) (hk:k<xs.length),L (n+1) s k=match step s xs[k]with|some (.inl s')=>L n s' ((k+1:Nat):Int)|some (.inr r)=>some r|none=>none)
  (he: ∀n s,L (n+1) s (xs.length:Nat)=fin s) {n:Nat} (hn:xs.length<n) (s:σ):L n s 0=Ej step fin xs s:=by
 have:=GF xs L step fin hs he n 0 s (Nat.zero_le _) (by omega)
 simpa using this
theorem Ey {α β:Type} {p:α->Bool} {step:Unit->α->Option (Unit⊕β)} {fin:Unit->Option β} {r:β}: ∀ {l:List α},(∀a∈l,step () a=if p a then some (.inl ())else some (.inr r))->Ej step fin l ()=if l.all p then fin ()else some r
 | [],_=>rfl
 |a::l,h=>by
  simp only[Ej]
  rw[h a (by simp)]
  cases hp:p a with
  |true=>simp only[if_true,List.all_cons,hp,Bool.true_and];exact Ey λb hb=>h b (List.mem_cons_of_mem _ hb)
  |false=>simp[List.all_cons,hp]
theorem Gy {α β γ:Type} (xs:List α) (L:Nat->List β->Int->Option γ) (g:α->β) (fin:List β->Option γ)
  (hs: ∀n (out:List β) (k:Nat) (hk:k<xs.length),out.length=xs.length->L (n+1) out k=L n (out.set k (g xs[k])) ((k+1:Nat):Int))
  (he: ∀n out,out.length=xs.length->L (n+1) out (xs.length:Nat)=fin out): ∀(n k:Nat) (out:List β),out.length=xs.length->k<=xs.length->xs.length-k<n->L n out k=fin (out.take k++(xs.drop k).map g):=by
 intro n
 induction n with
 |zero=>intro k out _ _ h;omega
 |succ n ih=>
  intro k out hl hk hn
  rcases Nat.lt_or_ge k xs.length with hlt|hge
  ·have:(out.set k (g xs[k])).take (k+1)=out.take k++ [g xs[k]]:=by
    rw[List.take_succ_eq_append_getElem (by simp;omega),List.take_set_of_le (Nat.le_refl _),List.getElem_set_self]
   rw[hs n out k hlt hl,ih (k+1) _ (by simpa using hl) hlt (by omega),List.drop_eq_getElem_cons hlt,this,List.map_cons,List.append_assoc,List.singleton_append]
  ·have:k=xs.length:=by omega
   subst this
   rw[he _ _ hl,List.drop_length,List.take_of_length_le (by omega)];simp
theorem Ed {α β γ:Type} (xs:List α) (L:Nat->List β->Int->Option γ) (g:α->β) (fin:List β->Option γ)
  (hs: ∀n (out:List β) (k:Nat) (hk:k<xs.length),out.length=xs.length->L (n+1) out k=L n (out.set k (g xs[k])) ((k+1:Nat):Int))
  (he: ∀n out,out.length=xs.length->L (n+1) out (xs.length:Nat)=fin out) {n:Nat} {out:List β} (hl:out.length=xs.length) (hn:xs.length<n):L n out 0=fin (xs.map g):=by
 have:=Gy xs L g fin hs he n 0 out hl (Nat.zero_le _) (by omega)
 simpa using this
theorem eqX {α:Type} [DecidableEq α] (a b:List α) (hl:a.length=b.length) (L:Nat->Int->Option (Unit⊕Bool))
  (hs: ∀n (k:Nat) (h1:k<a.length) (h2:k<b.length),L (n+1) k=if a[k]=b[k]then L n ((k+1:Nat):Int)else some (.inr false)) (he: ∀n,L (n+1) (a.length:Nat)=some (.inl ())) {n:Nat} (hn:a.length<n):
  L n 0=some (if a=b then .inl ()else .inr false):=by
 have key: ∀(n k:Nat),k<=a.length->a.length-k<n->L n k=some (if a.drop k=b.drop k then .inl ()else .inr false):=by
  intro n
  induction n with
  |zero=>intro k _ h;omega
  |succ n ih=>
   intro k hk hn
   rcases Nat.lt_or_ge k a.length with hlt|hge
   ·have h2:k<b.length:=by omega
    have e:(a.drop k=b.drop k)↔(a[k]=b[k]/\a.drop (k+1)=b.drop (k+1)):=by
     rw[List.drop_eq_getElem_cons hlt,List.drop_eq_getElem_cons h2];exact List.cons_eq_cons
    rw[hs n k hlt h2]
    by_cases h:a[k]=b[k]
    ·rw[if_pos h,ih (k+1) hlt (by omega)]
     by_cases h3:a.drop (k+1)=b.drop (k+1)
     ·rw[if_pos h3,if_pos (e.2 ⟨h,h3⟩)]
     ·rw[if_neg h3,if_neg λh'=>h3 (e.1 h').2]
    ·rw[if_neg h,if_neg λh'=>h (e.1 h').1]
   ·have:k=a.length:=by omega
    subst this
    rw[he,List.drop_length,hl,List.drop_length];rfl
 have:=key n 0 (Nat.zero_le _) (by omega)
 simpa using this
theorem FV {α β:Type} (xs:List α) (L:Nat->Int->Option β) (p:α->Bool) (r e:β)
  (hs: ∀n (k:Nat) (hk:k<xs.length),L (n+1) k=if p xs[k]then L n ((k+1:Nat):Int)else some r) (he: ∀n,L (n+1) (xs.length:Nat)=some e) {n:Nat} (hn:xs.length<n):
  L n 0=some (if xs.all p then e else r):=by
 have:=FB xs (λn (_:Unit) i=>L n i) (λ_ a=>if p a then some (.inl ())else some (.inr r)) (λ_=>some e) (λn s k hk=>by rw[hs n k hk];cases p xs[k]<;>simp) (λn s=>he n) hn ()
 rw[this,Ey (p:=p) (r:=r) λa _=>by cases p a<;>simp]
 cases xs.all p<;>simp
theorem C5 {σ β:Type} (N:Nat) (L:Nat->σ->Int->Option β) (S:Nat->σ) {r:Option β}
  (hs: ∀n (k:Nat),k<N->L (n+1) (S k) k=L n (S (k+1)) ((k+1:Nat):Int)) (he: ∀n,L (n+1) (S N) (N:Nat)=r) {n:Nat} (hn:N<n):L n (S 0) 0=r:=by
 have key: ∀(n k:Nat),k<=N->N-k<n->L n (S k) k=r:=by
  intro n
  induction n with
  |zero=>intro k _ h;omega
  |succ n ih=>
   intro k hk hn
   rcases Nat.lt_or_ge k N with hlt|hge
   ·rw[hs n k hlt];exact ih (k+1) hlt (by omega)
   ·have:k=N:=by omega
    subst this;exact he n
 exact key n 0 (Nat.zero_le _) (by omega)
theorem GT {σ β:Type} (N:Nat) (L:Nat->σ->Int->Option β) (S:Nat->σ) (p:Nat->Bool) {r e:Option β}
  (hs: ∀n (k:Nat),k<N->L (n+1) (S k) k=if p k then L n (S (k+1)) ((k+1:Nat):Int)else r) (he: ∀n,L (n+1) (S N) (N:Nat)=e) {n:Nat} (hn:N<n):
  L n (S 0) 0=if(List.range N).all p then e else r:=by
 have key: ∀(n k:Nat),k<=N->N-k<n->L n (S k) k=if(List.range' k (N-k)).all p then e else r:=by
  intro n
  induction n with
  |zero=>intro k _ h;omega
  |succ n ih=>
   intro k hk hn
   rcases Nat.lt_or_ge k N with hlt|hge
   ·rw[hs n k hlt,show N-k=(N-(k+1))+1 by omega,List.range'_succ,List.all_cons]
    cases hp:p k with
    |false=>simp
    |true=>simp only[if_true,Bool.true_and];exact ih (k+1) hlt (by omega)
   ·have:k=N:=by omega
    subst this;rw[he];simp
 have:=key n 0 (Nat.zero_le _) (by omega)
 rw[List.range_eq_range']
 simpa using this
theorem GU {σ β:Type} (N:Nat) (L:Nat->σ->Int->Option β) (S:Nat->σ) (p:Nat->Bool) {r e:Option β}
  (hs: ∀n (k:Nat),k<N->(∀j,j<k->p j=true)->L (n+1) (S k) k=if p k then L n (S (k+1)) ((k+1:Nat):Int)else r) (he: ∀n,(∀j,j<N->p j=true)->L (n+1) (S N) (N:Nat)=e) {n:Nat} (hn:N<n):
  L n (S 0) 0=if(List.range N).all p then e else r:=by
 have key: ∀(n k:Nat),k<=N->N-k<n->(∀j,j<k->p j=true)->L n (S k) k=if(List.range' k (N-k)).all p then e else r:=by
  intro n
  induction n with
  |zero=>intro k _ h;omega
  |succ n ih=>
   intro k hk hn hb
   rcases Nat.lt_or_ge k N with hlt|hge
   ·rw[hs n k hlt hb,show N-k=(N-(k+1))+1 by omega,List.range'_succ,List.all_cons]
    cases hp:p k with
    |false=>simp
    |true=>
     simp only[if_true,Bool.true_and]
     refine ih (k+1) hlt (by omega) λj hj=>?_
     rcases Nat.lt_or_ge j k with h|h
     ·exact hb j h
     ·have:j=k:=by omega
      rw[this];exact hp
   ·have:k=N:=by omega
    subst this;rw[he n hb];simp
 have:=key n 0 (Nat.zero_le _) (by omega) (λj h=>by omega)
 rw[List.range_eq_range']
 simpa using this
def szR (t:Nat) (left:Int):Int:=if(t:Int)<=left then left-t else-1
end Go.Va
set_option linter.unusedVariables false
open Go Go.Va
namespace T
def Ac:Nat:=1099511627776
def Bw (a:List Int) (left:Int):Option (Int):=
 if decide ((w64 (left-(a.length:Int)))<0)then
 some (-1)
 else
 some (w64 (left-(a.length:Int)))
def Bg:Nat->((List (List Int))×Int×Int)->Option ((Int)⊕(Int))
 |0,_=>none
 |n+1,(a,left,i)=>
 if decide (i<(a.length:Int))then
 if inb i a then
 (Bw (gd a i []) left).bind λr1=>
 if decide (r1<0)then
 some (.inr (-1))
 else
 Bg n (a,r1,w64 (i+1))
 else none
 else
 some (.inl left)
def Cv (a:List (List Int)) (left:Int):Option (Int):=
 if decide ((w64 (left-(a.length:Int)))<0)then
  some (-1)
 else
  (Bg Ac (a,w64 (left-(a.length:Int)),0)).bind λs1=>
   match s1 with
   | .inl s2=>
    some s2
   | .inr s3=>
    some s3
def Bx:Nat->((List Int)×(List Int)×Int)->Option ((List Int))
 |0,_=>none
 |n+1,(a,out,i)=>
 if decide (i<(a.length:Int))then
 if inb i a then
 if inb i out then
 Bx n (a,stt out i (gd a i 0),w64 (i+1))
 else none
 else none
 else
 some out
def Bb (a:List Int):Option ((List Int)):=
 if 0<=(a.length:Int)/\(a.length:Int)<=(a.length:Int)/\(a.length:Int)<=lim then
 (Bx Ac (a,List.replicate (Int.toNat (a.length:Int)) (0:Int),0)).bind λs1=>
 some s1
 else none
def Bh:Nat->((List (List Int))×(List (List Int))×Int)->Option ((List (List Int)))
 |0,_=>none
 |n+1,(a,out,i)=>
 if decide (i<(a.length:Int))then
 if inb i a then
 (Bb (gd a i [])).bind λr1=>
 if inb i out then
 Bh n (a,stt out i r1,w64 (i+1))
 else none
 else none
 else
 some out
def Cw (a:List (List Int)):Option ((List (List Int))):=
 if 0<=(a.length:Int)/\(a.length:Int)<=(a.length:Int)/\(a.length:Int)<=lim then
 (Bh Ac (a,List.replicate (Int.toNat (a.length:Int)) ([]:List Int),0)).bind λs1=>
 some s1
 else none
def BZ (x:Int) (a:Int) (b:Int):Option (Bool):=
 if decide (x≥a)then
 some (decide (x<=b))
 else
 some false
def AN:Nat->(Int×(List Int)×Int)->Option ((Unit)⊕(Bool))
 |0,_=>none
 |n+1,(n_,list,i)=>
 if decide (i<(list.length:Int))then
 if inb i list then
 (BZ (gd list i 0) 0 (w64 (n_-1))).bind λr1=>
 if !r1 then
 some (.inr false)
 else
 AN n (n_,list,w64 (i+1))
 else none
 else
 some (.inl ())
def Bk (n_:Int) (list:List Int):Option (Bool):=
 (AN Ac (n_,list,0)).bind λs1=>
  match s1 with
  | .inl s2=>
   some true
  | .inr s3=>
   some s3
def CC (n_:Int) (k:Int) (t:List Int):Option (Bool):=
 if(t.length:Int)==k then
 (Bk n_ t).bind λr1=>
 some r1
 else
 some false
def Bs:Nat->(Int×(List Int)×Int×Int)->Option ((Unit)⊕(Bool))
 |0,_=>none
 |n+1,(n_,t7,t8,t9)=>
 if decide (t9<t8)then
 if inb t9 t7 then
 if decide ((gd t7 t9 0)<0)then
 some (.inr false)
 else
 if decide ((gd t7 t9 0)≥n_)then
 some (.inr false)
 else
 Bs n (n_,t7,t8,w64 (t9+1))
 else none
 else
 some (.inl ())
def B2 (list:List Int) (n_:Int):Option (Bool):=
 (Bs Ac (n_,list,(list.length:Int),0)).bind λs1=>
  match s1 with
  | .inl s2=>
   some true
  | .inr s3=>
   some s3
def Bt:Nat->((List Int)×(List Int)×Int)->Option ((Unit)⊕(Bool))
 |0,_=>none
 |n+1,(a,b,i)=>
 if decide (i<(a.length:Int))then
 if inb i a then
 if inb i b then
 if(gd a i 0) !=(gd b i 0)then
 some (.inr false)
 else
 Bt n (a,b,w64 (i+1))
 else none
 else none
 else
 some (.inl ())
def B3 (a:List Int) (b:List Int):Option (Bool):=
 if(a.length:Int) !=(b.length:Int)then
  some false
 else
  (Bt Ac (a,b,0)).bind λs1=>
   match s1 with
   | .inl s2=>
    some true
   | .inr s3=>
    some s3
def Bf:Nat->((List (List Int))×(List (List Int))×Int)->Option ((Unit)⊕(Bool))
 |0,_=>none
 |n+1,(a,b,i)=>
 if decide (i<(a.length:Int))then
 if inb i a then
 if inb i b then
 (B3 (gd a i []) (gd b i [])).bind λr1=>
 if !r1 then
 some (.inr false)
 else
 Bf n (a,b,w64 (i+1))
 else none
 else none
 else
 some (.inl ())
def Cu (a:List (List Int)) (b:List (List Int)):Option (Bool):=
 if(a.length:Int) !=(b.length:Int)then
  some false
 else
  (Bf Ac (a,b,0)).bind λs1=>
   match s1 with
   | .inl s2=>
    some true
   | .inr s3=>
    some s3
def AY:Nat->(Int×Int×Int)->Option (Int)
 |0,_=>none
 |n+1,(n_,k,out)=>
 if decide (k>0)then
 AY n (n_,w64 (k-1),w64 (out*n_))
 else
 some out
def B0 (n_:Int) (k:Int):Option (Int):=
 (AY Ac (n_,k,1)).bind λs1=>
 some s1
def BB:Nat->((List Int)×(List Int)×Int)->Option ((Unit)⊕(Bool))
 |0,_=>none
 |n+1,(a,b,i)=>
 if decide (i<(a.length:Int))then
 if inb i a then
 if inb i b then
 if(gd a i 0) !=(gd b i 0)then
 if inb i a then
 if inb i b then
 some (.inr (decide ((gd a i 0)<(gd b i 0))))
 else none
 else none
 else
 BB n (a,b,w64 (i+1))
 else none
 else none
 else
 some (.inl ())
def CR (a:List Int) (b:List Int):Option (Bool):=
 (BB Ac (a,b,0)).bind λs1=>
  match s1 with
  | .inl s2=>
   some false
  | .inr s3=>
   some s3
def Bz:Nat->((List Int)×(List Int)×Int)->Option ((Unit)⊕(Bool))
 |0,_=>none
 |n+1,(a,b,i)=>
 if decide (i<(a.length:Int))then
 if inb i a then
 if inb i b then
 if(gd a i 0) !=(gd b i 0)then
 some (.inr false)
 else
 Bz n (a,b,w64 (i+1))
 else none
 else none
 else
 some (.inl ())
def CP (a:List Int) (b:List Int):Option (Bool):=
 if(a.length:Int) !=(b.length:Int)then
  some false
 else
  (Bz Ac (a,b,0)).bind λs1=>
   match s1 with
   | .inl s2=>
    some true
   | .inr s3=>
    some s3
def Ba:Nat->((List (List Int))×(List Int)×Int×Int)->Option ((List (List Int))×(List Int)×Int)
 |0,_=>none
 |n+1,(list,t,from_,to)=>
 if decide (from_<to)then
 if(2:Int)≠0 then
 if inb (w64 (Int.tdiv (w64 (from_+to)) 2)) list then
 (CR (gd list (w64 (Int.tdiv (w64 (from_+to)) 2)) []) t).bind λr1=>
 if r1 then
 Ba n (list,t,w64 ((w64 (Int.tdiv (w64 (from_+to)) 2))+1),to)
 else
 Ba n (list,t,from_,w64 (Int.tdiv (w64 (from_+to)) 2))
 else none
 else none
 else
 some (list,t,from_)
def CT (list:List (List Int)) (t:List Int):Option (Int×Bool):=
 (Ba Ac (list,t,0,(list.length:Int))).bind λs1=>
 if decide (s1.2.2<(s1.1.length:Int))then
 if inb s1.2.2 s1.1 then
 (CP (gd s1.1 s1.2.2 []) s1.2.1).bind λr2=>
 some (s1.2.2,r2)
 else none
 else
 some (s1.2.2,false)
def Ar:Nat->((List Int)×(List Int)×Int)->Option (((List Int)×(List Int))⊕(Int))
 |0,_=>none
 |n+1,(s,t,i)=>
 if decide (i<(s.length:Int))then
 if decide (i<(t.length:Int))then
 if inb i s then
 if inb i t then
 if(gd s i 0) !=(gd t i 0)then
 if inb i s then
 if inb i t then
 if decide ((gd s i 0)<(gd t i 0))then
 some (.inr (-1))
 else
 some (.inr 1)
 else none
 else none
 else
 Ar n (s,t,w64 (i+1))
 else none
 else none
 else
 some (.inl (s,t))
 else
 some (.inl (s,t))
def Cl (s:List Int) (t:List Int):Option (Int):=
 (Ar Ac (s,t,0)).bind λs1=>
  match s1 with
  | .inl s2=>
   if decide ((s2.1.length:Int)<(s2.2.length:Int))then
    some (-1)
   else
    if decide ((s2.1.length:Int)>(s2.2.length:Int))then
     some 1
    else
     some 0
  | .inr s3=>
   some s3
end T
open Go Go.Va
namespace T
theorem D7 {a:List Int} {left:Int} (h0:0<=left) (h1:left<=4611686018427387904) (ha:a.length<=9223372036854775807):Bw a left=some (szR a.length left):=by
 unfold Bw szR
 rw[AO (by omega) (by omega)]
 by_cases h:(a.length:Int)<=left
 ·rw[if_neg (by simp;omega),if_pos h]
 ·rw[if_pos (by simp;omega),if_neg h]
def Da (a:List (List Int)):Nat:=a.length+(a.map List.length).sum
theorem EL {a:List (List Int)} {left:Int} (h0:0<=left) (h1:left<=1099511627775) (ha:a.length<=9223372036854775807) (hr: ∀r∈a,r.length<=9223372036854775807):Cv a left=some (szR (Da a) left):=by
 unfold Cv
 rw[AO (by omega) (by omega)]
 by_cases h:(a.length:Int)<=left
 ·rw[if_neg (by simp;omega)]
  have key:=FB a (λn s i=>Bg n (a,s,i)) (λs r=>(Bw r s).bind λq=>if q<0 then some (.inr (.inr (-1)))else some (.inl q)) (λs=>some (.inl s)) ?_ ?_ (n:=Ac) (by unfold Ac;omega) (left-a.length)
  ·rw[key]
   have run: ∀(l:List (List Int)) (s:Int),0<=s->s<=1099511627775->(∀r∈l,r.length<=9223372036854775807)->
     Ej (λs r=>(Bw r s).bind λq=>if q<0 then some (.inr (.inr (-1)))else some (.inl q)) (λs=>some (.inl s)) l s=some (if((l.map List.length).sum:Int)<=s then(.inl (s-(l.map List.length).sum):Int⊕Int)else .inr (-1)):=by
    intro l
    induction l with
    |nil=>intro s h0 _ _;simp[Ej,h0]
    |cons r l ih=>
     intro s h0 h1 hr
     simp only[Ej]
     rw[D7 h0 (by omega) (hr r (by simp))]
     unfold szR
     by_cases h:(r.length:Int)<=s
     ·rw[if_pos h]
      simp only[Option.bind_some]
      rw[if_neg (by omega)]
      dsimp only
      rw[ih (s-r.length) (by omega) (by omega) λr hr'=>hr r (List.mem_cons_of_mem _ hr')]
      simp only[List.map_cons,List.sum_cons]
      congr 1
      by_cases h2:(((l.map List.length).sum:Nat):Int)<=s-r.length
      ·rw[if_pos h2,if_pos (by omega)];congr 1;omega
      ·rw[if_neg h2,if_neg (by omega)]
     ·rw[if_neg h]
      simp only[List.map_cons,List.sum_cons]
      rw[if_neg (by omega)]
      rfl
   rw[run a _ (by omega) (by omega) hr]
   unfold szR Da
   by_cases h2:(((a.map List.length).sum:Nat):Int)<=left-a.length
   ·rw[if_pos h2,if_pos (by omega)]
    simp only[Option.bind_some,Option.some.injEq];omega
   ·rw[if_neg h2,if_neg (by omega)];rfl
  ·intro n s k hk
   simp only[Bg,Af,Ai hk,Ae (show k<4611686018427387904 by omega)]
   simp[hk]
   cases Bw a[k] s with
   |none=>rfl
   |some q=>by_cases hq:q<0<;>simp[hq]
  ·intro n s
   simp[Bg]
 ·rw[if_pos (by simp;omega)]
  unfold szR Da
  rw[if_neg (by omega)]
theorem Dh {a:List Int} (ha:a.length<=1099511627775):Bb a=some a:=by
 unfold Bb
 rw[if_pos (by unfold lim;omega)]
 have key:=Ed a (λn out i=>Bx n (a,out,i)) id some ?_ ?_ (n:=Ac) (out:=List.replicate (Int.toNat (a.length:Int)) (0:Int)) (by simp) (by unfold Ac;omega)
 ·rw[key];simp
 ·intro n out k hk hl
  simp only[Bx,Af,Ai hk,BE,Ae (show k<4611686018427387904 by omega)]
  simp[hk,hl]
 ·intro n out hl
  simp[Bx]
theorem EM {a:List (List Int)} (ha:a.length<=1099511627775) (hr: ∀r∈a,r.length<=1099511627775):Cw a=some a:=by
 unfold Cw
 rw[if_pos (by unfold lim;omega)]
 have key:=Ed a (λn out i=>Bh n (a,out,i)) id some ?_ ?_ (n:=Ac) (out:=List.replicate (Int.toNat (a.length:Int)) ([]:List Int)) (by simp) (by unfold Ac;omega)
 ·rw[key];simp
 ·intro n out k hk hl
  simp only[Bh,Af,Ai hk,BE,Ae (show k<4611686018427387904 by omega)]
  simp[hk,hl,Dh (hr _ (List.getElem_mem hk))]
 ·intro n out hl
  simp[Bh]
theorem Dd {a b:List Int} (ha:a.length<=1099511627775):B3 a b=some (decide (a=b)):=by
 unfold B3
 by_cases hl:a.length=b.length
 ·rw[if_neg (by simp[hl]),eqX a b hl (λn i=>Bt n (a,b,i)) ?_ ?_ (by unfold Ac;omega)]
  ·by_cases h:a=b<;>simp[h]
  ·intro n k h1 h2
   simp only[Bt,Af,Ai h1,Ai h2,Ae (show k<4611686018427387904 by omega)]
   by_cases h:a[k]=b[k]<;>simp[h1,h2,h]
  ·intro n
   simp[Bt]
 ·rw[if_pos (by simp;omega),decide_eq_false (λe=>hl (by rw[e]))]
theorem DA {a b:List (List Int)} (ha:a.length<=1099511627775) (hr: ∀r∈a,r.length<=1099511627775):Cu a b=some (decide (a=b)):=by
 unfold Cu
 by_cases hl:a.length=b.length
 ·rw[if_neg (by simp[hl]),eqX a b hl (λn i=>Bf n (a,b,i)) ?_ ?_ (by unfold Ac;omega)]
  ·by_cases h:a=b<;>simp[h]
  ·intro n k h1 h2
   simp only[Bf,Af,Ai h1,Ai h2,Ae (show k<4611686018427387904 by omega),Dd (hr _ (List.getElem_mem h1))]
   by_cases h:a[k]=b[k]<;>simp[h1,h2,h]
  ·intro n
   simp[Bf]
 ·rw[if_pos (by simp;omega),decide_eq_false (λe=>hl (by rw[e]))]
abbrev Lin:=Int×Int×List (List Int)
theorem F7 {l:List (List Int)}: ∀ {r:List Int},r∈l->r.length<=(l.map List.length).sum:=by
 induction l with
 |nil=>intro r h;cases h
 |cons x l ih=>
  intro r h
  rw[List.map_cons,List.sum_cons]
  rcases List.mem_cons.1 h with rfl|h
  ·omega
  ·have:=ih h;omega
theorem BW (x a b:Int):BZ x a b=some (decide (a<=x/\x<=b)):=by
 unfold BZ
 by_cases h:a<=x<;>simp[h]
def Ay (n:Int) (l:List Int):Bool:=l.all λx=>decide (0<=x/\x<n)
theorem Cd {l:List Int} (n:Int) (hl:l.length<=1099511627775):B2 l n=some (Ay n l):=by
 unfold B2
 rw[FV l (λm i=>Bs m (n,l,(l.length:Int),i)) (λx=>decide (0<=x/\x<n)) (.inr false) (.inl ()) ?_ ?_ (by unfold Ac;omega)]
 ·unfold Ay;cases l.all (λx=>decide (0<=x/\x<n))<;>simp
 ·intro m k hk
  simp only[Bs,Af,Ai hk,Ae (show k<4611686018427387904 by omega)]
  by_cases h1:l[k]<0
  ·simp[hk,h1,show¬0<=l[k] by omega]
  ·by_cases h2:n<=l[k]
   ·simp[hk,h1,h2,show¬l[k]<n by omega]
   ·simp[hk,h1,h2,show 0<=l[k]/\l[k]<n by omega]
 ·intro m
  simp[Bs]
theorem BJ {l:List Int} {n:Int} (hn: -9223372036854775808<n) (hn':n<=9223372036854775807) (hl:l.length<=1099511627775):Bk n l=some (Ay n l):=by
 unfold Bk
 rw[FV l (λm i=>AN m (n,l,i)) (λx=>decide (0<=x/\x<n)) (.inr false) (.inl ()) ?_ ?_ (by unfold Ac;omega)]
 ·unfold Ay;cases l.all (λx=>decide (0<=x/\x<n))<;>simp
 ·intro m k hk
  simp only[AN,Af,Ai hk,Ae (show k<4611686018427387904 by omega),BW,AO (show-9223372036854775808<=n-1 by omega) (show n-1<=9223372036854775807 by omega)]
  by_cases h1:0<=l[k]/\l[k]<n
  ·simp[hk,h1,show l[k]<=n-1 by omega]
  ·have: ¬(0<=l[k]/\l[k]<=n-1):=by omega
   simp[hk,h1,this]
 ·intro m
  simp[AN]
theorem Dq {l:List Int} {n:Int} (k:Int) (hn: -9223372036854775808<n) (hn':n<=9223372036854775807) (hl:l.length<=1099511627775):CC n k l=some (decide ((l.length:Int)=k)&&Ay n l):=by
 unfold CC
 rw[BJ hn hn' hl]
 by_cases h:(l.length:Int)=k<;>simp[h]
end T
open Go Go.Va
namespace T
theorem Dx {n:Int} {l:List Int} (h:Ay n l=true) (k:Nat) (hk:k<l.length):0<=l[k]/\l[k]<n:=by
 have:=(List.all_eq_true.1 h) l[k] (List.getElem_mem hk)
 simpa using this
section
variable {p v:Int} {rows:List (List Int)} {y:List Int}
end
end T
open Go Go.Va
namespace T
def cmpL:List Int->List Int->Int
 | [],[]=>0
 | [],_::_=> -1
 |_::_,[]=>1
 |a::s,b::t=>if a=b then cmpL s t else if a<b then-1 else 1
theorem EF {s t:List Int} (hs:s.length<=1099511627775): ∀(n k:Nat),k<=s.length->k<=t.length->s.length-k<n->
  (Ar n (s,t,(k:Int))).bind (λs1=>match s1 with
   | .inl s2=>if decide ((s2.1.length:Int)<(s2.2.length:Int))then some (-1)else if decide ((s2.1.length:Int)>(s2.2.length:Int))then some 1 else some 0
   | .inr s3=>some s3)=some (cmpL (s.drop k) (t.drop k)):=by
 intro n
 induction n with
 |zero=>intro k _ _ h;omega
 |succ n ih=>
  intro k h1 h2 hn
  by_cases k1:k<s.length
  ·by_cases k2:k<t.length
   ·rw[List.drop_eq_getElem_cons k1,List.drop_eq_getElem_cons k2]
    simp only[Ar,Af,Ai k1,Ai k2,Ae (show k<4611686018427387904 by omega),cmpL]
    by_cases he:s[k]=t[k]
    ·have:=ih (k+1) k1 k2 (by omega)
     simp[k1,k2,he]
     simpa using this
    ·by_cases hl:s[k]<t[k]<;>simp[k1,k2,he,hl]
   ·rw[List.drop_eq_getElem_cons k1,List.drop_of_length_le (show t.length<=k by omega)]
    have e:k=t.length:=by omega
    simp only[Ar,cmpL]
    simp[k1,k2,show¬s.length<t.length by omega,show t.length<s.length by omega]
  ·rw[List.drop_of_length_le (show s.length<=k by omega)]
   simp only[Ar]
   by_cases k2:k<t.length
   ·rw[List.drop_eq_getElem_cons k2]
    simp[k1,cmpL,show s.length<t.length by omega]
   ·rw[List.drop_of_length_le (show t.length<=k by omega)]
    simp[k1,cmpL,show¬s.length<t.length by omega,show¬t.length<s.length by omega]
theorem CJ {s t:List Int} (hs:s.length<=1099511627775):Cl s t=some (cmpL s t):=by
 have:=EF (t:=t) hs Ac 0 (Nat.zero_le _) (Nat.zero_le _) (by unfold Ac;omega)
 rw[List.drop_zero,List.drop_zero]at this
 exact this
theorem CS {s t:List Int} (hs:s.length<=1099511627775) (hl:s.length=t.length):CR s t=some (decide (cmpL s t<0)):=by
 have key: ∀(n k:Nat),k<=s.length->s.length-k<n->(BB n (s,t,(k:Int))).bind (λs1=>match s1 with| .inl _=>some false| .inr s3=>some s3)=some (decide (cmpL (s.drop k) (t.drop k)<0)):=by
  intro n
  induction n with
  |zero=>intro k _ h;omega
  |succ n ih=>
   intro k h1 hn
   by_cases k1:k<s.length
   ·have k2:k<t.length:=by omega
    rw[List.drop_eq_getElem_cons k1,List.drop_eq_getElem_cons k2]
    simp only[BB,Af,Ai k1,Ai k2,Ae (show k<4611686018427387904 by omega),cmpL]
    by_cases he:s[k]=t[k]
    ·have:=ih (k+1) k1 (by omega)
     simp[k1,k2,he]
     simpa using this
    ·by_cases hl:s[k]<t[k]<;>simp[k1,k2,he,hl]
   ·rw[List.drop_of_length_le (show s.length<=k by omega),List.drop_of_length_le (show t.length<=k by omega)]
    simp[BB,k1,cmpL]
 have:=key Ac 0 (Nat.zero_le _) (by unfold Ac;omega)
 rw[List.drop_zero,List.drop_zero]at this
 exact this
theorem DK {a b:List Int} (ha:a.length<=1099511627775):CP a b=some (decide (a=b)):=by
 unfold CP
 by_cases hl:a.length=b.length
 ·rw[if_neg (by simp[hl]),eqX a b hl (λn i=>Bz n (a,b,i)) ?_ ?_ (by unfold Ac;omega)]
  ·by_cases h:a=b<;>simp[h]
  ·intro n k h1 h2
   simp only[Bz,Af,Ai h1,Ai h2,Ae (show k<4611686018427387904 by omega)]
   by_cases h:a[k]=b[k]<;>simp[h1,h2,h]
  ·intro n
   simp[Bz]
 ·rw[if_pos (by simp;omega),decide_eq_false (λe=>hl (by rw[e]))]
theorem cmpL_refl: ∀s,cmpL s s=0
 | []=>rfl
 |a::s=>by simp[cmpL,cmpL_refl s]
theorem cmpL_eq: ∀ {s t},cmpL s t=0↔s=t
 | [],[]=>by simp[cmpL]
 | [],_::_=>by simp[cmpL]
 |_::_,[]=>by simp[cmpL]
 |a::s,b::t=>by
  simp only[cmpL]
  by_cases h:a=b
  ·rw[if_pos h,cmpL_eq];simp[h]
  ·rw[if_neg h];split<;>simp[h]
theorem cmpL_symm: ∀s t,cmpL t s= -cmpL s t
 | [],[]=>by simp[cmpL]
 | [],_::_=>by simp[cmpL]
 |_::_,[]=>by simp[cmpL]
 |a::s,b::t=>by
  simp only[cmpL]
  by_cases h:a=b
  ·rw[if_pos h,if_pos h.symm,cmpL_symm s t]
  ·rw[if_neg h,if_neg (Ne.symm h)]
   by_cases h2:a<b
   ·rw[if_pos h2,if_neg (by omega)];rfl
   ·rw[if_neg h2,if_pos (by omega)]
theorem cmpL_trans: ∀ {s t u},cmpL s t<0->cmpL t u<0->cmpL s u<0
 | [],[],_,h,_=>by simp[cmpL]at h
 | [],_::_,[],_,h=>by simp[cmpL]at h
 | [],_::_,_::_,_,_=>by simp[cmpL]
 |_::_,[],_,h,_=>by simp[cmpL]at h
 |_::_,_::_,[],_,h=>by simp[cmpL]at h
 |a::s,b::t,c::u,h1,h2=>by
  simp only[cmpL]at*
  by_cases e1:a=b
  ·rw[if_pos e1]at h1
   by_cases e2:b=c
   ·rw[if_pos e2]at h2;rw[if_pos (e1.trans e2)];exact cmpL_trans h1 h2
   ·rw[if_neg e2]at h2;rw[e1,if_neg e2];exact h2
  ·rw[if_neg e1]at h1
   have l1:a<b:=by
    by_cases h:a<b
    ·exact h
    ·rw[if_neg h]at h1;omega
   by_cases e2:b=c
   ·rw[←e2,if_neg e1,if_pos l1];omega
   ·rw[if_neg e2]at h2
    have l2:b<c:=by
     by_cases h:b<c
     ·exact h
     ·rw[if_neg h]at h2;omega
    rw[if_neg (by omega),if_pos (by omega)];omega
def BX:List (List Int)->Bool
 |a::b::l=>decide (cmpL a b<0)&&BX (b::l)
 |_=>true
theorem E5 {a:List Int} {l:List (List Int)} (h:BX (a::l)=true):BX l=true:=by
 cases l with
 |nil=>rfl
 |cons b l=>simp only[BX,Bool.and_eq_true]at h;exact h.2
theorem D3: ∀ {a:List Int} {l:List (List Int)},BX (a::l)=true-> ∀b∈l,cmpL a b<0
 |a,[],_,b,hb=>by cases hb
 |a,c::l,h,b,hb=>by
  simp only[BX,Bool.and_eq_true,decide_eq_true_eq]at h
  rcases List.mem_cons.1 hb with rfl|hb
  ·exact h.1
  ·exact cmpL_trans h.1 (D3 h.2 b hb)
theorem Ct: ∀ {l:List (List Int)},BX l=true-> ∀(i j:Nat) (hi:i<j) (hj:j<l.length),cmpL (l[i]'(by omega)) l[j]<0
 | [],_,i,j,_,hj=>by simp at hj
 |a::l,h,0,j+1,_,hj=>by
  simp only[List.getElem_cons_zero,List.getElem_cons_succ]
  exact D3 h _ (List.getElem_mem _)
 |a::l,h,i+1,j+1,hi,hj=>by
  simp only[List.getElem_cons_succ]
  exact Ct (E5 h) i j (by omega) (by simpa using hj)
theorem Es {l:List (List Int)}:BX l=true↔ ∀(i:Nat) (hi:i+1<l.length),cmpL (l[i]'(by omega)) l[i+1]<0:=by
 constructor
 ·exact λh i hi=>Ct h i (i+1) (by omega) hi
 ·induction l with
  |nil=>intro _;rfl
  |cons a l ih=>
   intro h
   cases l with
   |nil=>rfl
   |cons b l=>
    simp only[BX,Bool.and_eq_true,decide_eq_true_eq]
    exact⟨h 0 (by simp),ih λi hi=>by have:=h (i+1) (by simpa using hi);simpa using this⟩
end T
open Go Go.Va
namespace T
theorem D5 {n:Int} (h0:0<=n) (h8:n<=8): ∀k:Nat,0<=n^k/\n^k<=8^k
 |0=>by simp
 |k+1=>by
  obtain⟨h1,h2⟩:=D5 h0 h8 k
  rw[Int.pow_succ,Int.pow_succ]
  exact⟨Int.mul_nonneg h1 h0,Int.mul_le_mul h2 h8 h0 (by have:(0:Int)<=8^k:=Int.le_trans h1 h2;exact this)⟩
theorem F9: ∀k:Nat,k<=20->(8:Int)^k<=8^20:=by
 intro k hk
 have:((8^k:Nat):Int)<=((8^20:Nat):Int):=Int.ofNat_le.2 (Nat.pow_le_pow_right (by omega) hk)
 simpa using this
theorem FL {n:Int} (h0:0<=n) (h8:n<=8) {k:Nat} (hk:k<=20):0<=n^k/\n^k<=1152921504606846976:=by
  obtain⟨h1,h2⟩:=D5 h0 h8 k
  have:=F9 k hk
  exact ⟨h1, by have e : (8 : Int) ^ 20 = 1152921504606846976 := by decide
                omega⟩
theorem FA {n:Int} (h0:0<=n) (h8:n<=8): ∀(m k j:Nat),j+k<=20->k<m->AY m (n,(k:Int),n^j)=some (n^(j+k)):=by
 intro m
 induction m with
 |zero=>intro k j _ h;omega
 |succ m ih=>
  intro k j hj hk
  simp only[AY]
  cases k with
  |zero=>simp
  |succ k=>
   have e:w64 (((k+1:Nat):Int)-1)=(k:Int):=by rw[AO (by omega) (by omega)];omega
   have hb:=FL h0 h8 (k:=j+1) (by omega)
   rw[Int.pow_succ]at hb
   rw[e,AO (by omega) (by omega),←Int.pow_succ,if_pos (by simp),ih k (j+1) (by omega) (by omega)]
   congr 2<;>omega
theorem DT {n:Int} (h0:0<=n) (h8:n<=8) {k:Nat} (hk:k<=20):B0 n (k:Int)=some (n^k):=by
 unfold B0
 have:=FA h0 h8 Ac k 0 (by omega) (by unfold Ac;omega)
 rw[Int.pow_zero]at this
 rw[this];simp
def C6 (n:Int):Int->List Int->Int
 |i,[]=>i
 |i,a::l=>C6 n (i*n+a) l
def idx (n:Int) (l:List Int):Int:=C6 n 0 l
theorem Eg (n:Int): ∀(l:List Int) (i:Int),C6 n i l=i*n^l.length+C6 n 0 l
 | [],i=>by simp[C6]
 |a::l,i=>by
  simp only[C6,List.length_cons]
  rw[Eg n l (i*n+a),Eg n l (0*n+a),Int.pow_succ]
  simp only[Int.zero_mul,Int.zero_add]
  rw[Int.add_mul,Int.mul_assoc,Int.mul_comm n (n^l.length)]
  omega
theorem DD (n a:Int) (l:List Int):idx n (a::l)=a*n^l.length+idx n l:=by
 unfold idx
 simp only[C6]
 rw[Eg];simp
theorem CG {n a:Int} {l:List Int}:Ay n (a::l)=true↔(0<=a/\a<n)/\Ay n l=true:=by
 unfold Ay;simp[List.all_cons]
theorem DC {n:Int}: ∀ {l:List Int},Ay n l=true->0<=idx n l/\idx n l<n^l.length
 | [],_=>by simp[idx,C6]
 |a::l,h=>by
  obtain⟨h1,h2⟩:=CG.1 h
  obtain⟨h3,h4⟩:=DC h2
  rw[DD,List.length_cons,Int.pow_succ]
  have hp:0<=n^l.length:=by omega
  have k1:=Int.mul_nonneg h1.1 hp
  have k2:=Int.mul_le_mul_of_nonneg_right (show a+1<=n by omega) hp
  rw[Int.add_mul,Int.one_mul,Int.mul_comm n]at k2
  exact⟨by omega,by omega⟩
theorem Eh {n:Int}: ∀ {s t:List Int},Ay n s=true->Ay n t=true->s.length=t.length->(cmpL s t<0↔idx n s<idx n t)/\(cmpL s t=0↔idx n s=idx n t)
 | [],[],_,_,_=>by simp[cmpL,idx,C6]
 | [],_::_,_,_,h=>by simp at h
 |_::_,[],_,_,h=>by simp at h
 |a::s,b::t,hs,ht,hl=>by
  obtain⟨s1,s2⟩:=CG.1 hs
  obtain⟨t1,t2⟩:=CG.1 ht
  have hl':s.length=t.length:=by simpa using hl
  have ih:=Eh s2 t2 hl'
  obtain⟨b1,b2⟩:=DC s2
  obtain⟨c1,c2⟩:=DC t2
  rw[DD,DD,hl']
  rw[hl']at b2
  simp only[cmpL]
  have hp:0<=n^t.length:=by omega
  rcases Int.lt_trichotomy a b with h|h|h
  ·have:=Int.mul_le_mul_of_nonneg_right (show a+1<=b by omega) hp
   rw[Int.add_mul,Int.one_mul]at this
   rw[if_neg (by omega),if_pos h]
   exact⟨by constructor<;>intro<;>omega,by constructor<;>intro<;>omega⟩
  ·subst h
   rw[if_pos rfl]
   exact⟨by rw[ih.1];constructor<;>intro<;>omega,by rw[ih.2];constructor<;>intro<;>omega⟩
  ·have:=Int.mul_le_mul_of_nonneg_right (show b+1<=a by omega) hp
   rw[Int.add_mul,Int.one_mul]at this
   rw[if_neg (by omega),if_neg (by omega)]
   exact⟨by constructor<;>intro<;>omega,by constructor<;>intro<;>omega⟩
theorem Df {n:Int} {k:Nat} {l:List (List Int)} (hi:BX l=true) (hv: ∀t∈l,t.length=k/\Ay n t=true):(l.length:Int)<=n^k∨l= []:=by
 have key: ∀(i:Nat) (h:i<l.length),(i:Int)<=idx n l[i]:=by
  intro i
  induction i with
  |zero=>intro h;exact(DC (hv _ (List.getElem_mem h)).2).1
  |succ i ih=>
   intro h
   have h1:=ih (by omega)
   obtain⟨l1,b1⟩:=hv _ (List.getElem_mem (show i<l.length by omega))
   obtain⟨l2,b2⟩:=hv _ (List.getElem_mem h)
   have:=(Eh b1 b2 (l1.trans l2.symm)).1.1 (Ct hi i (i+1) (by omega) h)
   omega
 cases hn:l.length with
 |zero=>exact .inr (List.length_eq_zero_iff.1 hn)
 |succ m=>
  left
  have h:=key m (by omega)
  obtain⟨l1,b1⟩:=hv _ (List.getElem_mem (show m<l.length by omega))
  have:=(DC b1).2
  rw[l1]at this
  omega
theorem FZ {list:List (List Int)} {t:List Int} {k:Nat} (hl:list.length<=1099511627775) (hk:k<=1099511627775) (hv: ∀u∈list,u.length=k) (ht:t.length=k) (hi:BX list=true): ∀(m a b:Nat),a<=b->b<=list.length->b-a<m->
  (∀i (h:i<list.length),i<a->cmpL list[i] t<0)->(∀i (h:i<list.length),b<=i-> ¬cmpL list[i] t<0)->
  ∃c:Nat,Ba m (list,t,(a:Int),(b:Int))=some (list,t,(c:Int))/\c<=list.length/\(∀i (h:i<list.length),i<c->cmpL list[i] t<0)/\(∀i (h:i<list.length),c<=i-> ¬cmpL list[i] t<0):=by
 intro m
 induction m with
 |zero=>intro a b _ _ h;omega
 |succ m ih=>
  intro a b hab hb hm h1 h2
  simp only[Ba]
  by_cases hlt:a<b
  ·have emid:w64 (Int.tdiv (w64 ((a:Int)+b)) 2)=(((a+b)/2:Nat):Int):=by
    rw[AO (x:=(a:Int)+b) (by omega) (by omega),Int.tdiv_eq_ediv_of_nonneg (by omega),AO (by omega) (by omega)];omega
   have hmid:(a+b)/2<list.length:=by omega
   rw[emid]
   have hless:=CS (s:=list[(a+b)/2]) (t:=t) (by rw[hv _ (List.getElem_mem hmid)];omega) (by rw[hv _ (List.getElem_mem hmid),ht])
   simp only[Af,Ai hmid,hless,Option.bind_some,Ae (show(a+b)/2<4611686018427387904 by omega)]
   by_cases hc:cmpL list[(a+b)/2] t<0
   ·obtain⟨c,e,k1,k2,k3⟩:=ih ((a+b)/2+1) b (by omega) hb (by omega) (λi h hi'=>by
     rcases Nat.lt_or_ge i ((a+b)/2)with h'|h'
     ·exact cmpL_trans (Ct hi i ((a+b)/2) h' hmid) hc
     ·have:i=(a+b)/2:=by omega
      subst this;exact hc) h2
    exact⟨c,by simpa[hlt,hmid,hc]using e,k1,k2,k3⟩
   ·obtain⟨c,e,k1,k2,k3⟩:=ih a ((a+b)/2) (by omega) (by omega) (by omega) h1 (λi h hi' hneg=>by
     rcases Nat.lt_or_ge ((a+b)/2) i with h'|h'
     ·exact hc (cmpL_trans (Ct hi ((a+b)/2) i h' h) hneg)
     ·have:i=(a+b)/2:=by omega
      subst this;exact hc hneg)
    exact⟨c,by simpa[hlt,hmid,hc]using e,k1,k2,k3⟩
  ·have:a=b:=by omega
   subst this
   exact⟨a,by simp,hb,h1,h2⟩
theorem DM {list:List (List Int)} {t:List Int} {k:Nat} (hl:list.length<=1099511627774) (hk:k<=1099511627775) (hv: ∀u∈list,u.length=k) (ht:t.length=k) (hi:BX list=true):
  ∃c:Nat,CT list t=some ((c:Int),decide (t∈list))/\c<=list.length/\(∀i (h:i<list.length),i<c->cmpL list[i] t<0)/\(∀i (h:i<list.length),c<=i-> ¬cmpL list[i] t<0):=by
 obtain⟨c,e,k1,k2,k3⟩:=FZ (by omega) hk hv ht hi Ac 0 list.length (Nat.zero_le _) (Nat.le_refl _) (by unfold Ac;omega) (λi _ h=>by omega) (λi h h'=>by omega)
 refine⟨c,?_,k1,k2,k3⟩
 unfold CT
 have e':Ba Ac (list,t,0,(list.length:Int))=some (list,t,(c:Int)):=e
 rw[e']
 simp only[Option.bind_some]
 by_cases hc:c<list.length
 ·have hs:=DK (a:=list[c]) (b:=t) (by rw[hv _ (List.getElem_mem hc)];omega)
  simp only[Af,Ai hc,hs,Option.bind_some]
  have:decide (list[c]=t)=decide (t∈list):=by
   by_cases h:list[c]=t
   ·rw[decide_eq_true h,decide_eq_true (h▸List.getElem_mem hc)]
   ·rw[decide_eq_false h]
    symm;rw[decide_eq_false_iff_not]
    intro hm
    obtain⟨j,hj,rfl⟩:=List.mem_iff_getElem.1 hm
    have hne:j≠c:=λe=>h (by subst e;rfl)
    rcases Nat.lt_or_ge j c with hlt|hge
    ·have:=k2 j hj hlt;rw[cmpL_refl]at this;omega
    ·exact k3 c hc (Nat.le_refl _) (Ct hi c j (by omega) hj)
  simp[hc,this]
 ·have:decide (t∈list)=false:=by
   rw[decide_eq_false_iff_not]
   intro hm
   obtain⟨j,hj,rfl⟩:=List.mem_iff_getElem.1 hm
   have:=k2 j hj (by omega);rw[cmpL_refl]at this;omega
  rw[if_neg (by simp;omega),this]
end T
open Go Go.Va
namespace T
def GL (n:Int):Bool:=decide (1<=n/\n<=8)
def GX (n k:Int) (t:List Int):Bool:=decide ((t.length:Int)=k)&&Ay n t
def Gr (n k:Int) (ts:List (List Int)):Bool:=GL n&&decide (1<=k/\k<=4)&&ts.all (GX n k)&&BX ts
end T
open Go Go.Va
namespace T
section
variable {p:Int} {k:Nat} {ts:List (List Int)}
theorem D2 (n:Int): ∀(l:List Int) (i a:Int),C6 n i (l++ [a])=C6 n i l*n+a
 | [],i,a=>by simp[C6]
 |b::l,i,a=>by simp only[List.cons_append,C6];exact D2 n l _ _
end
end T
set_option linter.unusedVariables false
open Go Go.Va
namespace T
def CE (a:Int×(List (List Int))) (left:Int):Option (Int):=
 (Cv a.2 left).bind λr1=>
 if decide (r1<0)then
 some (-1)
 else
 some r1
def Bp (a:(List Int)×Int×(List (List Int))) (left:Int):Option (Int):=
 (Bw a.1 left).bind λr1=>
 if decide (r1<0)then
 some (-1)
 else
 (CE (a.2.1,a.2.2) r1).bind λr2=>
 if decide (r2<0)then
 some (-1)
 else
 some r2
def AE:Nat->((List ((List Int)×Int×(List (List Int))))×Int×Int)->Option ((Int)⊕(Int))
 |0,_=>none
 |n+1,(a,left,i)=>
 if decide (i<(a.length:Int))then
 if inb i a then
 (Bp (gd a i ([],(0,[]))) left).bind λr1=>
 if decide (r1<0)then
 some (.inr (-1))
 else
 AE n (a,r1,w64 (i+1))
 else none
 else
 some (.inl left)
def Cg (a:List ((List Int)×Int×(List (List Int)))) (left:Int):Option (Int):=
 if decide ((w64 (left-(a.length:Int)))<0)then
  some (-1)
 else
  (AE Ac (a,w64 (left-(a.length:Int)),0)).bind λs1=>
   match s1 with
   | .inl s2=>
    some s2
   | .inr s3=>
    some s3
def Ch (a:Int×Int×(List ((List Int)×Int×(List (List Int))))) (left:Int):Option (Int):=
 (Cg a.2.2 left).bind λr1=>
 if decide (r1<0)then
 some (-1)
 else
 some r1
def CF (a:Int×(List (List Int))):Option ((Int×(List (List Int)))):=
 (Cw a.2).bind λr1=>
 some (a.1,r1)
def Bq (a:(List Int)×Int×(List (List Int))):Option (((List Int)×(Int×(List (List Int))))):=
 (Bb a.1).bind λr1=>
 (CF (a.2.1,a.2.2)).bind λr2=>
 some (r1,(r2.1,r2.2))
def AF:Nat->((List ((List Int)×Int×(List (List Int))))×(List ((List Int)×Int×(List (List Int))))×Int)->Option ((List ((List Int)×Int×(List (List Int)))))
 |0,_=>none
 |n+1,(a,out,i)=>
 if decide (i<(a.length:Int))then
 if inb i a then
 (Bq (gd a i ([],(0,[])))).bind λr1=>
 if inb i out then
 AF n (a,stt out i (r1.1,(r1.2.1,r1.2.2)),w64 (i+1))
 else none
 else none
 else
 some out
def Ci (a:List ((List Int)×Int×(List (List Int)))):Option ((List ((List Int)×Int×(List (List Int))))):=
 if 0<=(a.length:Int)/\(a.length:Int)<=(a.length:Int)/\(a.length:Int)<=lim then
 (AF Ac (a,List.replicate (Int.toNat (a.length:Int)) (([],(0,[])):(List Int)×Int×(List (List Int))),0)).bind λs1=>
 some s1
 else none
def AM (a:Int×Int×(List ((List Int)×Int×(List (List Int))))):Option ((Int×(Int×(List ((List Int)×Int×(List (List Int))))))):=
 (Ci a.2.2).bind λr1=>
 some (a.1,(a.2.1,r1))
def AQ:Nat->(Int×(Int×(List (List Int)))×Int)->Option ((Unit)⊕(Bool))
 |0,_=>none
 |n+1,(n_,r,i)=>
 if decide (i<(r.2.length:Int))then
 if inb i r.2 then
 (CC n_ r.1 (gd r.2 i [])).bind λr3=>
 if !r3 then
 some (.inr false)
 else
 if decide (i>0)then
 if inb (w64 (i-1)) r.2 then
 if inb i r.2 then
 (CR (gd r.2 (w64 (i-1)) []) (gd r.2 i [])).bind λr4=>
 if !r4 then
 some (.inr false)
 else
 AQ n (n_,(r.1,r.2),w64 (i+1))
 else none
 else none
 else
 AQ n (n_,(r.1,r.2),w64 (i+1))
 else none
 else
 some (.inl ())
def Cy (n_:Int) (r:Int×(List (List Int))):Option (Bool):=
 (BZ r.1 1 3).bind λr1=>
  if !r1 then
   some false
  else
   (B0 n_ r.1).bind λr2=>
    if decide ((r.2.length:Int)>r2)then
     some false
    else
     (AQ Ac (n_,(r.1,r.2),0)).bind λs3=>
      match s3 with
      | .inl s4=>
       some true
      | .inr s5=>
       some s5
def C3 (vars:Int) (size:Int) (c:(List Int)×Int×(List (List Int))):Option (Bool):=
 (Cy size (c.2.1,c.2.2)).bind λr1=>
 if r1 then
 if(c.1.length:Int)==c.2.1 then
 (Bk vars c.1).bind λr2=>
 some r2
 else
 some false
 else
 some false
def Bj:Nat->((Int×Int×(List ((List Int)×Int×(List (List Int)))))×Int)->Option ((Unit)⊕(Bool))
 |0,_=>none
 |n+1,(net,i)=>
 if decide (i<(net.2.2.length:Int))then
 if inb i net.2.2 then
 (C3 net.1 net.2.1 (gd net.2.2 i ([],(0,[])))).bind λr3=>
 if !r3 then
 some (.inr false)
 else
 Bj n ((net.1,(net.2.1,net.2.2)),w64 (i+1))
 else none
 else
 some (.inl ())
def CA (net:Int×Int×(List ((List Int)×Int×(List (List Int))))):Option (Bool):=
 (BZ net.1 0 9).bind λr1=>
  if !r1 then
   some false
  else
   (BZ net.2.1 1 4).bind λr2=>
    if !r2 then
     some false
    else
     if decide ((net.2.2.length:Int)>40)then
      some false
     else
      (Bj Ac ((net.1,(net.2.1,net.2.2)),0)).bind λs3=>
       match s3 with
       | .inl s4=>
        some true
       | .inr s5=>
        some s5
def Bc (l:List Int):Option ((List Int)):=
 if([]:List Int).length+l.length<=lim then
 some ([]++l)
 else none
def B6 (n_:Int):Option (Bool):=
 if decide (n_≥1)then
 some (decide (n_<=4))
 else
 some false
def AG:Nat->(Int×(Int×(List (List Int)))×(List (List Int))×Int×Int)->Option ((Unit)⊕(Bool))
 |0,_=>none
 |n+1,(n_,r,t16,t17,t18)=>
 if decide (t18<t17)then
 if inb t18 t16 then
 if((gd t16 t18 []).length:Int) !=r.1 then
 some (.inr false)
 else
 (B2 (gd t16 t18 []) n_).bind λr1=>
 if !r1 then
 some (.inr false)
 else
 if decide (t18>0)then
 if inb (w64 (t18-1)) r.2 then
 (Cl (gd r.2 (w64 (t18-1)) []) (gd t16 t18 [])).bind λr2=>
 if decide (r2≥0)then
 some (.inr false)
 else
 AG n (n_,(r.1,r.2),t16,t17,w64 (t18+1))
 else none
 else
 AG n (n_,(r.1,r.2),t16,t17,w64 (t18+1))
 else none
 else
 some (.inl ())
def B4 (n_:Int) (r:Int×(List (List Int))):Option (Bool):=
 if decide (r.1<1)then
  some false
 else
  if decide (r.1>3)then
   some false
  else
   (AG Ac (n_,(r.1,r.2),r.2,(r.2.length:Int),0)).bind λs1=>
    match s1 with
    | .inl s2=>
     some true
    | .inr s3=>
     some s3
def BN (vars:Int) (size:Int) (c:(List Int)×Int×(List (List Int))):Option (Bool):=
 (B4 size (c.2.1,c.2.2)).bind λr1=>
 if r1 then
 if(c.1.length:Int)==c.2.1 then
 (B2 c.1 vars).bind λr2=>
 some r2
 else
 some false
 else
 some false
def AU:Nat->((Int×Int×(List ((List Int)×Int×(List (List Int)))))×(List ((List Int)×Int×(List (List Int))))×Int×Int)->Option ((Unit)⊕(Bool))
 |0,_=>none
 |n+1,(net,t26,t27,t28)=>
 if decide (t28<t27)then
 if inb t28 t26 then
 (BN net.1 net.2.1 ((gd t26 t28 ([],(0,[]))).1,(((gd t26 t28 ([],(0,[]))).2).1,((gd t26 t28 ([],(0,[]))).2).2))).bind λr2=>
 if !r2 then
 some (.inr false)
 else
 AU n ((net.1,(net.2.1,net.2.2)),t26,t27,w64 (t28+1))
 else none
 else
 some (.inl ())
def B9 (net:Int×Int×(List ((List Int)×Int×(List (List Int))))):Option (Bool):=
 if decide (net.1<0)then
  some false
 else
  if decide (net.1>9)then
   some false
  else
   (B6 net.2.1).bind λr1=>
    if !r1 then
     some false
    else
     if decide ((net.2.2.length:Int)>40)then
      some false
     else
      (AU Ac ((net.1,(net.2.1,net.2.2)),net.2.2,(net.2.2.length:Int),0)).bind λs2=>
       match s2 with
       | .inl s3=>
        some true
       | .inr s4=>
        some s4
def Az (a:Int×(List (List Int))) (b:Int×(List (List Int))):Option (Bool):=
 if a.1 !=b.1 then
 some false
 else
 (Cu a.2 b.2).bind λr1=>
 if !r1 then
 some false
 else
 some true
def Bm (a:(List Int)×Int×(List (List Int))) (b:(List Int)×Int×(List (List Int))):Option (Bool):=
 (B3 a.1 b.1).bind λr1=>
 if !r1 then
 some false
 else
 (Az (a.2.1,a.2.2) (b.2.1,b.2.2)).bind λr2=>
 if !r2 then
 some false
 else
 some true
def AC:Nat->((List ((List Int)×Int×(List (List Int))))×(List ((List Int)×Int×(List (List Int))))×Int)->Option ((Unit)⊕(Bool))
 |0,_=>none
 |n+1,(a,b,i)=>
 if decide (i<(a.length:Int))then
 if inb i a then
 if inb i b then
 (Bm (gd a i ([],(0,[]))) (gd b i ([],(0,[])))).bind λr1=>
 if !r1 then
 some (.inr false)
 else
 AC n (a,b,w64 (i+1))
 else none
 else none
 else
 some (.inl ())
def Ce (a:List ((List Int)×Int×(List (List Int)))) (b:List ((List Int)×Int×(List (List Int)))):Option (Bool):=
 if(a.length:Int) !=(b.length:Int)then
  some false
 else
  (AC Ac (a,b,0)).bind λs1=>
   match s1 with
   | .inl s2=>
    some true
   | .inr s3=>
    some s3
def Bu (a:Int×Int×(List ((List Int)×Int×(List (List Int))))) (b:Int×Int×(List ((List Int)×Int×(List (List Int))))):Option (Bool):=
 if a.1 !=b.1 then
 some false
 else
 if a.2.1 !=b.2.1 then
 some false
 else
 (Ce a.2.2 b.2.2).bind λr1=>
 if !r1 then
 some false
 else
 some true
def A9:Nat->((List Int)×Int×Int)->Option ((List Int)×Int)
 |0,_=>none
 |n+1,(a,k,i)=>
 if decide (i<(a.length:Int))then
 if inb i a then
 A9 n (stt a i k,w64 (k+1),w64 (i+1))
 else none
 else
 some (a,k)
def BG (a:List Int) (k:Int):Option ((List Int)×Int):=
 (A9 Ac (a,k,0)).bind λs1=>
 some (s1.1,s1.2)
def AX:Nat->((List (List Int))×Int×Int)->Option ((List (List Int))×Int)
 |0,_=>none
 |n+1,(a,k,i)=>
 if decide (i<(a.length:Int))then
 if inb i a then
 (BG (gd a i []) k).bind λr1=>
 AX n (stt a i r1.1,r1.2,w64 (i+1))
 else none
 else
 some (a,k)
def BS (a:List (List Int)) (k:Int):Option ((List (List Int))×Int):=
 (AX Ac (a,k,0)).bind λs1=>
 some (s1.1,s1.2)
def Aw:Nat->((List ((List Int)×Int×(List (List Int))))×Int×Int)->Option ((List ((List Int)×Int×(List (List Int))))×Int)
 |0,_=>none
 |n+1,(a,k,i)=>
 if decide (i<(a.length:Int))then
 if inb i a then
 (BG ((gd a i ([],(0,[]))).1) k).bind λr1=>
 if inb i (stt a i (r1.1,(gd a i ([],(0,[]))).2))then
 if inb i (stt (stt a i (r1.1,(gd a i ([],(0,[]))).2)) i ((gd (stt a i (r1.1,(gd a i ([],(0,[]))).2)) i ([],(0,[]))).1,(r1.2,((gd (stt a i (r1.1,(gd a i ([],(0,[]))).2)) i ([],(0,[]))).2).2)))then
 (BS (((gd (stt (stt a i (r1.1,(gd a i ([],(0,[]))).2)) i ((gd (stt a i (r1.1,(gd a i ([],(0,[]))).2)) i ([],(0,[]))).1,(r1.2,((gd (stt a i (r1.1,(gd a i ([],(0,[]))).2)) i ([],(0,[]))).2).2))) i ([],(0,[]))).2).2) (w64 (r1.2+1))).bind λr2=>
 Aw n (stt (stt (stt a i (r1.1,(gd a i ([],(0,[]))).2)) i ((gd (stt a i (r1.1,(gd a i ([],(0,[]))).2)) i ([],(0,[]))).1,(r1.2,((gd (stt a i (r1.1,(gd a i ([],(0,[]))).2)) i ([],(0,[]))).2).2))) i ((gd (stt (stt a i (r1.1,(gd a i ([],(0,[]))).2)) i ((gd (stt a i (r1.1,(gd a i ([],(0,[]))).2)) i ([],(0,[]))).1,(r1.2,((gd (stt a i (r1.1,(gd a i ([],(0,[]))).2)) i ([],(0,[]))).2).2))) i ([],(0,[]))).1,(((gd (stt (stt a i (r1.1,(gd a i ([],(0,[]))).2)) i ((gd (stt a i (r1.1,(gd a i ([],(0,[]))).2)) i ([],(0,[]))).1,(r1.2,((gd (stt a i (r1.1,(gd a i ([],(0,[]))).2)) i ([],(0,[]))).2).2))) i ([],(0,[]))).2).1,r2.1)),r2.2,w64 (i+1))
 else none
 else none
 else none
 else
 some (a,k)
def Bv (a:List ((List Int)×Int×(List (List Int)))) (k:Int):Option ((List ((List Int)×Int×(List (List Int))))×Int):=
 (Aw Ac (a,k,0)).bind λs1=>
 some (s1.1,s1.2)
def BD (a:Int×(Int×(List ((List Int)×Int×(List (List Int)))))) (k:Int):Option ((Unit×(Unit×(List ((List Int)×Int×(List (List Int))))))×Int):=
 (Bv a.2.2 k).bind λr1=>
 some (((),((),r1.1)),r1.2)
def A8:Nat->((List Int)×Int×Int)->Option ((Int)⊕(Int))
 |0,_=>none
 |n+1,(a,k,i)=>
 if decide (i<(a.length:Int))then
 if inb i a then
 if(gd a i 0) !=k then
 some (.inr (-1))
 else
 A8 n (a,w64 (k+1),w64 (i+1))
 else none
 else
 some (.inl k)
def B1 (a:List Int) (k:Int):Option (Int):=
 (A8 Ac (a,k,0)).bind λs1=>
  match s1 with
  | .inl s2=>
   some s2
  | .inr s3=>
   some s3
def AW:Nat->((List (List Int))×Int×Int)->Option ((Int)⊕(Int))
 |0,_=>none
 |n+1,(a,k,i)=>
 if decide (i<(a.length:Int))then
 if inb i a then
 (B1 (gd a i []) k).bind λr1=>
 if decide (r1<0)then
 some (.inr (-1))
 else
 AW n (a,r1,w64 (i+1))
 else none
 else
 some (.inl k)
def Cf (a:List (List Int)) (k:Int):Option (Int):=
 (AW Ac (a,k,0)).bind λs1=>
  match s1 with
  | .inl s2=>
   some s2
  | .inr s3=>
   some s3
end T
open Go Go.Va
namespace T
theorem szX {α:Type} (xs:List α) (f:α->Int->Option Int) (tot:α->Nat) (L:Nat->Int->Int->Option (Int⊕Int))
  (hf: ∀a∈xs,∀s,0<=s->s<=1099511627775->f a s=some (szR (tot a) s))
  (hs: ∀n s (k:Nat) (hk:k<xs.length),L (n+1) s k=(f xs[k] s).bind λq=>if q<0 then some (.inr (-1))else L n q ((k+1:Nat):Int))
  (he: ∀n s,L (n+1) s (xs.length:Nat)=some (.inl s)): ∀(n k:Nat) (s:Int),k<=xs.length->xs.length-k<n->0<=s->s<=1099511627775->
   L n s k=some (if(((xs.drop k).map tot).sum:Int)<=s then .inl (s-((xs.drop k).map tot).sum)else .inr (-1)):=by
 intro n
 induction n with
 |zero=>intro k s _ h;omega
 |succ n ih=>
  intro k s hk hn h0 h1
  rcases Nat.lt_or_ge k xs.length with hlt|hge
  ·rw[hs n s k hlt,hf _ (List.getElem_mem hlt) s h0 h1,List.drop_eq_getElem_cons hlt,List.map_cons,List.sum_cons]
   unfold szR
   simp only[Option.bind_some]
   by_cases h:(tot xs[k]:Int)<=s
   ·rw[if_pos h,if_neg (by omega),ih (k+1) _ hlt (by omega) (by omega) (by omega)]
    congr 1
    by_cases h2:((((xs.drop (k+1)).map tot).sum:Nat):Int)<=s-tot xs[k]
    ·rw[if_pos h2,if_pos (by omega)];congr 1;omega
    ·rw[if_neg h2,if_neg (by omega)]
   ·rw[if_neg h,if_pos (by omega),if_neg (by omega)]
  ·have:k=xs.length:=by omega
   subst this
   rw[he,List.drop_length];simp[h0]
theorem GW {α:Type} (xs:List α) (f:α->Int->Option Int) (tot:α->Nat) (L:Nat->Int->Int->Option (Int⊕Int)) (g:Option Int) {left:Int} (h0:0<=left) (h1:left<=1099511627775)
  (hf: ∀a∈xs,∀s,0<=s->s<=1099511627775->f a s=some (szR (tot a) s)) (hx:xs.length<=9223372036854775807)
  (hs: ∀n s (k:Nat) (hk:k<xs.length),k<4611686018427387904->L (n+1) s k=(f xs[k] s).bind λq=>if q<0 then some (.inr (-1))else L n q ((k+1:Nat):Int))
  (he: ∀n s,L (n+1) s (xs.length:Nat)=some (.inl s))
  (hg:g=if decide (w64 (left-(xs.length:Int))<0)then some (-1)else(L Ac (w64 (left-(xs.length:Int))) 0).bind λs1=>match s1 with| .inl s2=>some s2| .inr s3=>some s3):
  g=some (szR (xs.length+(xs.map tot).sum) left):=by
 rw[hg,AO (by omega) (by omega)]
 by_cases h:(xs.length:Int)<=left
 ·rw[if_neg (by simp;omega)]
  have:=szX xs f tot L hf (λn s k hk=>hs n s k hk (by omega)) he Ac 0 (left-xs.length) (by omega) (by unfold Ac;omega) (by omega) (by omega)
  rw[show((0:Nat):Int)=0 from rfl,List.drop_zero]at this
  rw[this]
  unfold szR
  by_cases h2:(((xs.map tot).sum:Nat):Int)<=left-xs.length
  ·rw[if_pos h2,if_pos (by omega)]
   simp only[Option.bind_some,Option.some.injEq];omega
  ·rw[if_neg h2,if_neg (by omega)];rfl
 ·rw[if_pos (by simp;omega)]
  unfold szR
  rw[if_neg (by omega)]
theorem EZ {α:Type} (tot:α->Nat): ∀ {l:List α} {a:α},a∈l->tot a<=(l.map tot).sum
 |x::l,a,h=>by
  rw[List.map_cons,List.sum_cons]
  rcases List.mem_cons.1 h with rfl|h
  ·omega
  ·have:=EZ tot h;omega
theorem toX {α:Type} (xs:List α) (f:α->Option α) (d:α) (L:Nat->List α->Int->Option (List α)) (g:Option (List α)) (hx:xs.length<=1048576) (hf: ∀a∈xs,f a=some a)
  (hs: ∀n (out:List α) (k:Nat) (hk:k<xs.length),out.length=xs.length->k<4611686018427387904->L (n+1) out k=(f xs[k]).bind λr=>L n (out.set k r) ((k+1:Nat):Int))
  (he: ∀n out,out.length=xs.length->L (n+1) out (xs.length:Nat)=some out)
  (hg:g=if 0<=(xs.length:Int)/\(xs.length:Int)<=(xs.length:Int)/\(xs.length:Int)<=lim then(L Ac (List.replicate (Int.toNat (xs.length:Int)) d) 0).bind some else none):g=some xs:=by
 rw[hg,if_pos (by unfold lim;omega)]
 have key:=Ed xs L id some (λn out k hk hl=>by rw[hs n out k hk hl (by omega),hf _ (List.getElem_mem hk)];rfl) he (n:=Ac) (out:=List.replicate (Int.toNat (xs.length:Int)) d) (by simp) (by unfold Ac;omega)
 rw[key];simp
theorem GS {α:Type} [DecidableEq α] (a b:List α) (f:α->α->Option Bool) (L:Nat->Int->Option (Unit⊕Bool)) (g:Option Bool) (hx:a.length<=1048576) (hf: ∀x∈a,∀y,f x y=some (decide (x=y)))
  (hs: ∀n (k:Nat) (h1:k<a.length) (h2:k<b.length),k<4611686018427387904->L (n+1) k=(f a[k] b[k]).bind λr=>if !r then some (.inr false)else L n ((k+1:Nat):Int))
  (he: ∀n,L (n+1) (a.length:Nat)=some (.inl ()))
  (hg:g=if(a.length:Int) !=(b.length:Int)then some false else(L Ac 0).bind λs1=>match s1 with| .inl _=>some true| .inr s3=>some s3):g=some (decide (a=b)):=by
 rw[hg]
 by_cases hl:a.length=b.length
 ·rw[if_neg (by simp[hl]),eqX a b hl L (λn k h1 h2=>?_) he (by unfold Ac;omega)]
  ·by_cases h:a=b<;>simp[h]
  ·rw[hs n k h1 h2 (by omega),hf _ (List.getElem_mem h1)]
   by_cases h:a[k]=b[k]<;>simp[h]
 ·rw[if_pos (by simp;omega),decide_eq_false (λe=>hl (by rw[e]))]
abbrev Con:=List Int×Int×List (List Int)
abbrev Net:=Int×Int×List Con
def EW (a:List (List Int)):Prop:=a.length<=1048576/\ ∀r∈a,r.length<=1048576
def E3 (c:Con):Prop:=c.1.length<=1048576/\EW c.2.2
def Ew (a:Net):Prop:=a.2.2.length<=1048576/\ ∀c∈a.2.2,E3 c
abbrev GG:Ty:= .pair .int (.pair .int (.slice (.pair (.slice .int) (.pair .int (.slice (.slice .int))))))
def DW (c:Con):Nat:=c.1.length+Da c.2.2
def Du (a:Net):Nat:=a.2.2.length+(a.2.2.map DW).sum
theorem Dr {c:Con} {s:Int} (h0:0<=s) (h1:s<=1099511627775) (h:c.1.length<=9223372036854775807) (h2:c.2.2.length<=9223372036854775807) (hr: ∀r∈c.2.2,r.length<=9223372036854775807):
  Bp c s=some (szR (DW c) s):=by
 unfold Bp
 rw[D7 h0 (by omega) h]
 unfold szR DW
 simp only[Option.bind_some]
 by_cases hc:(c.1.length:Int)<=s
 ·rw[if_pos hc,if_neg (by simp;omega)]
  unfold CE
  rw[EL (by omega) (by omega) h2 hr]
  unfold szR
  by_cases hd:(Da c.2.2:Int)<=s-c.1.length
  ·rw[if_pos hd,if_pos (by omega)]
   simp only[Option.bind_some]
   rw[if_neg (by simp;omega)]
   simp only[Option.bind_some]
   rw[if_neg (by simp;omega)]
   congr 1;omega
  ·rw[if_neg hd,if_neg (show¬((c.1.length+Da c.2.2:Nat):Int)<=s by push_cast;omega)];rfl
 ·rw[if_neg hc,if_neg (show¬((c.1.length+Da c.2.2:Nat):Int)<=s by push_cast;omega)];rfl
theorem Ek {a:Net} (h:wfT GG a):Ch a 1048576=some (szR (Du a) 1048576):=by
 unfold Ch
 have hc: ∀c∈a.2.2,c.1.length<=9223372036854775807/\c.2.2.length<=9223372036854775807/\ ∀r∈c.2.2,r.length<=9223372036854775807:=λc hc=>by
  have:=h.2.2.2 c hc
  exact⟨this.1.1,this.2.2.1,λr hr=>(this.2.2.2 r hr).1⟩
 have key:Cg a.2.2 1048576=some (szR (Du a) 1048576):=by
  refine GW a.2.2 Bp DW (λn s i=>AE n (a.2.2,s,i)) _ (by omega) (by omega) (λc hm s h0 h1=>Dr h0 h1 (hc c hm).1 (hc c hm).2.1 (hc c hm).2.2) h.2.2.1 (λn s k hk hk4=>?_) (λn s=>?_) rfl
  ·simp only[AE,Af,Ai hk,Ae hk4]
   simp[hk]
  ·simp[AE]
 rw[key]
 unfold szR
 split
 ·simp only[Option.bind_some];rw[if_neg (by simp;omega)]
 ·rfl
theorem Ds {a:Net} (h: ¬szR (Du a) 1048576<0):Ew a/\Du a<=1048576:=by
 unfold szR at h
 split at h
 ·refine⟨⟨by unfold Du at*;omega,λc hc=>?_⟩,by omega⟩
  have h1:=EZ DW hc
  have h2:DW c<=1048576:=by unfold Du at*;omega
  unfold DW Da at h2
  exact⟨by omega,by omega,λr hr=>by have:=F7 hr;omega⟩
 ·omega
theorem Dt {c:Con} (h:E3 c):Bq c=some c:=by
 unfold Bq CF
 rw[Dh (by have:=h.1;omega)]
 dsimp only
 rw[EM (by have:=h.2.1;omega) λr hr=>by have:=h.2.2 r hr;omega]
 rfl
theorem El {a:Net} (h:Ew a):AM a=some a:=by
 unfold AM
 have key:Ci a.2.2=some a.2.2:=by
  refine toX a.2.2 Bq ([],(0,[])) (λn out i=>AF n (a.2.2,out,i)) _ h.1 (λc hc=>Dt (h.2 c hc)) (λn out k hk hl hk4=>?_) (λn out hl=>?_) rfl
  ·simp only[AF,Af,Ai hk,BE,Ae hk4]
   simp[hk,hl]
  ·simp[AF]
 rw[key];rfl
theorem Dk {a b:Con} (h:E3 a):Bm a b=some (decide (a=b)):=by
 unfold Bm Az
 rw[Dd (by have:=h.1;omega)]
 dsimp only
 rw[DA (by have:=h.2.1;omega) λr hr=>by have:=h.2.2 r hr;omega]
 obtain⟨a1,a2,a3⟩:=a
 obtain⟨b1,b2,b3⟩:=b
 by_cases h1:a1=b1
 ·by_cases h2:a2=b2
  ·by_cases h3:a3=b3<;>simp[h1,h2,h3]
  ·simp[h1,h2]
 ·simp[h1]
theorem Eb {a b:Net} (h:Ew a):Bu a b=some (decide (a=b)):=by
 unfold Bu
 have key:Ce a.2.2 b.2.2=some (decide (a.2.2=b.2.2)):=by
  refine GS a.2.2 b.2.2 Bm (λn i=>AC n (a.2.2,b.2.2,i)) _ h.1 (λc hc y=>Dk (h.2 c hc)) (λn k h1 h2 hk4=>?_) (λn=>?_) rfl
  ·simp only[AC,Af,Ai h1,Ai h2,Ae hk4]
   simp[h1,h2]
  ·simp[AC]
 rw[key]
 obtain⟨a1,a2,a3⟩:=a
 obtain⟨b1,b2,b3⟩:=b
 by_cases h1:a1=b1
 ·by_cases h2:a2=b2
  ·by_cases h3:a3=b3<;>simp[h1,h2,h3]
  ·simp[h1,h2]
 ·simp[h1]
def Ex (n:Int) (r:Int×List (List Int)):Bool:=decide (1<=r.1/\r.1<=3)&&(r.2.all λt=>decide ((t.length:Int)=r.1)&&Ay n t)&&BX r.2
def DO (n:Int) (r:Int×List (List Int)) (k:Nat):Bool:=decide (((r.2.getD k []).length:Int)=r.1)&&Ay n (r.2.getD k [])&&(decide (k=0)||decide (cmpL (r.2.getD (k-1) []) (r.2.getD k [])<0))
theorem Ax {α:Type} {l:List α} {k:Nat} {d:α} (h:k<l.length):l.getD k d=l[k]:=by simp[List.getD_eq_getElem?_getD,h]
theorem D8 {n ar:Int} {ts:List (List Int)}:(List.range ts.length).all (DO n (ar,ts))=((ts.all λt=>decide ((t.length:Int)=ar)&&Ay n t)&&BX ts):=by
 rw[Bool.eq_iff_iff,Bool.and_eq_true,List.all_eq_true,List.all_eq_true,Es]
 unfold DO
 constructor
 ·intro h
  refine⟨λt ht=>?_,λi hi=>?_⟩
  ·obtain⟨k,hk,rfl⟩:=List.getElem_of_mem ht
   have:=h k (List.mem_range.2 hk)
   rw[Ax hk]at this
   simp only[Bool.and_eq_true]at this
   rw[Bool.and_eq_true];exact this.1
  ·have:=h (i+1) (List.mem_range.2 hi)
   rw[Ax hi,Nat.add_sub_cancel,Ax (show i<ts.length by omega)]at this
   simp at this
   exact this.2
 ·rintro ⟨h1,h2⟩ k hk
  have hk:=List.mem_range.1 hk
  have e:=h1 _ (List.getElem_mem hk)
  rw[Ax hk]
  rw[Bool.and_eq_true]at e
  rw[Bool.and_eq_true,Bool.and_eq_true]
  refine⟨e,?_⟩
  cases k with
  |zero=>simp
  |succ i=>
   have:=h2 i hk
   rw[Nat.add_sub_cancel,Ax (show i<ts.length by omega)]
   simp[this]
theorem C1 {n:Int} {r:Int×List (List Int)} (h:EW r.2):B4 n r=some (Ex n r):=by
 obtain⟨ar,ts⟩:=r
 unfold B4 Ex
 by_cases h1:ar<1
 ·simp[h1,show¬1<=ar by omega]
 ·by_cases h2:ar>3
  ·simp[h1,h2,show¬ar<=3 by omega]
  ·rw[if_neg (by simpa using h1),if_neg (by simpa using h2)]
   have key:=GT ts.length (λm (_:Unit) i=>AG m (n,(ar,ts),ts,(ts.length:Int),i)) (λ_=>()) (DO n (ar,ts)) (r:=some (.inr false)) (e:=some (.inl ())) (λm k hk=>?_) (λm=>?_) (n:=Ac) (by unfold Ac;have:=h.1;simp at this;omega)
   ·rw[key,D8]
    simp only[show(1<=ar/\ar<=3)=True by simp;omega,decide_true,Bool.true_and]
    cases (ts.all λt=>decide ((t.length:Int)=ar)&&Ay n t)&&BX ts<;>simp
   ·have hx:=h.2 ts[k] (List.getElem_mem hk)
    have hk':=h.1
    simp only at hk'
    simp only[AG,Af,Ai hk,Ae (show k<4611686018427387904 by omega),Cd n (show ts[k].length<=1099511627775 by omega),DO,Ax hk]
    by_cases hl:(ts[k].length:Int)=ar
    ·cases hb:Ay n ts[k]with
     |false=>simp[hk,hl]
     |true=>
      cases k with
      |zero=>simp[hk,hl]
      |succ i=>
       have hi:i<ts.length:=by omega
       have hx2:=h.2 ts[i] (List.getElem_mem hi)
       have e:w64 (((i+1:Nat):Int)-1)=(i:Int):=by rw[AO (by omega) (by omega)];omega
       simp only[e,Af,Ai hi,Nat.add_sub_cancel,Ax hi,CJ (show ts[i].length<=1099511627775 by omega)]
       by_cases hc:cmpL ts[i] ts[i+1]<0
       ·simp[hk,hl,hi,hc,show¬cmpL ts[i] ts[i+1]≥0 by omega];omega
       ·simp[hk,hl,hi,hc,show cmpL ts[i] ts[i+1]≥0 by omega];omega
    ·simp[hk,hl]
   ·simp[AG]
theorem Dn {n:Int} {r:Int×List (List Int)} (h:EW r.2) (hn:1<=n/\n<=8):Cy n r=some (Ex n r):=by
 obtain⟨ar,ts⟩:=r
 unfold Cy Ex
 rw[BW]
 by_cases h1:1<=ar/\ar<=3
 ·simp only[h1,and_self,decide_true,Option.bind_some,Bool.not_true,Bool.false_eq_true,if_false,Bool.true_and]
  obtain⟨m,rfl⟩: ∃m:Nat,ar=m:=⟨ar.toNat,by omega⟩
  rw[DT (by omega) (by omega) (by omega)]
  simp only[Option.bind_some]
  have key:=GU ts.length (λm' (_:Unit) i=>AQ m' (n,((m:Int),ts),i)) (λ_=>()) (DO n ((m:Int),ts)) (r:=some (.inr false)) (e:=some (.inl ())) (λm' k hk hb0=>?_) (λm' _=>?_) (n:=Ac) (by unfold Ac;have:=h.1;simp at this;omega)
  ·by_cases hc:(ts.length:Int)>n^m
   ·rw[if_pos (by simpa using hc)]
    by_cases hv:((ts.all λt=>decide ((t.length:Int)=m)&&Ay n t)&&BX ts)=true
    ·rw[Bool.and_eq_true,List.all_eq_true]at hv
     rcases Df (k:=m) hv.2 λt ht=>by have:=hv.1 t ht;simp at this;exact⟨by omega,this.2⟩with h2|h2
     ·omega
     ·subst h2
      have:=FL (n:=n) (by omega) (by omega) (k:=m) (by omega)
      simp at hc;omega
    ·simp only[Bool.not_eq_true]at hv;rw[hv]
   ·rw[if_neg (by simpa using hc),key,D8]
    cases (ts.all λt=>decide ((t.length:Int)=m)&&Ay n t)&&BX ts<;>simp
  ·have hx:=h.2 ts[k] (List.getElem_mem hk)
   have hk':=h.1
   simp only at hk'
   simp only[AQ,Af,Ai hk,Ae (show k<4611686018427387904 by omega),Dq (n:=n) _ (by omega) (by omega) (show ts[k].length<=1099511627775 by omega),DO,Ax hk]
   by_cases hl:(ts[k].length:Int)=m
   ·cases hb:Ay n ts[k]with
    |false=>simp[hk,hl]
    |true=>
     cases k with
     |zero=>simp[hk,hl]
     |succ i=>
      have hi:i<ts.length:=by omega
      have hx2:=h.2 ts[i] (List.getElem_mem hi)
      have e:w64 (((i+1:Nat):Int)-1)=(i:Int):=by rw[AO (by omega) (by omega)];omega
      simp only[e,Af,Ai hi,Nat.add_sub_cancel,Ax hi]
      have hb1:=hb0 i (by omega)
      simp only[DO,Ax hi,Bool.and_eq_true,decide_eq_true_eq]at hb1
      rw[CS (s:=ts[i]) (t:=ts[i+1]) (by omega) (by have:=hb1.1.1;omega)]
      by_cases hc:cmpL ts[i] ts[i+1]<0
      ·simp[hk,hl,hi,hc];omega
      ·simp[hk,hl,hi,hc];omega
   ·simp[hk,hl]
  ·simp[AQ]
 ·have: ¬(1<=ar/\ar<=3):=h1
  simp[this]
end T
open Go Go.Va
namespace T
def Dc (v n:Int) (c:Con):Bool:=Ex n (c.2.1,c.2.2)&&decide ((c.1.length:Int)=c.2.1)&&Ay v c.1
def DQ (a:Net):Bool:=decide (0<=a.1/\a.1<=9)&&decide (1<=a.2.1/\a.2.1<=4)&&decide (a.2.2.length<=40)&&a.2.2.all (Dc a.1 a.2.1)
theorem CK {v n:Int} {c:Con} (h:E3 c):BN v n c=some (Dc v n c):=by
 unfold BN Dc
 rw[C1 (r:=(c.2.1,c.2.2)) h.2]
 cases Ex n (c.2.1,c.2.2)with
 |false=>simp
 |true=>
  by_cases hl:(c.1.length:Int)=c.2.1
  ·simp[hl,Cd v (show c.1.length<=1099511627775 by have:=h.1;omega)]
  ·simp[hl]
theorem DS {v n:Int} {c:Con} (h:E3 c) (hv:0<=v/\v<=9) (hn:1<=n/\n<=8):C3 v n c=some (Dc v n c):=by
 unfold C3 Dc
 rw[Dn (r:=(c.2.1,c.2.2)) h.2 hn]
 cases Ex n (c.2.1,c.2.2)with
 |false=>simp
 |true=>
  by_cases hl:(c.1.length:Int)=c.2.1
  ·simp[hl,BJ (l:=c.1) (n:=v) (by omega) (by omega) (show c.1.length<=1099511627775 by have:=h.1;omega)]
  ·simp[hl]
theorem C7 {a:Net} (h:Ew a):B9 a=some (DQ a):=by
 obtain⟨v,n,cs⟩:=a
 unfold B9 DQ
 by_cases h1:v<0
 ·simp[h1,show¬0<=v by omega]
 ·by_cases h2:v>9
  ·simp[h1,h2,show¬v<=9 by omega]
  ·rw[if_neg (by simpa using h1),if_neg (by simpa using h2)]
   unfold B6
   by_cases h3:1<=n/\n<=4
   ·by_cases h4:cs.length>40
    ·simp[h3,show¬cs.length<=40 by omega];omega
    ·have key:=FV cs (λm i=>AU m ((v,(n,cs)),cs,(cs.length:Int),i)) (Dc v n) (.inr false) (.inl ()) ?_ ?_ (n:=Ac) (by unfold Ac;omega)
     ·simp only[h3,ge_iff_le,decide_true,if_true,Option.bind_some,Bool.not_true,Bool.false_eq_true,if_false]
      rw[if_neg (by simp;omega),key]
      cases cs.all (Dc v n)<;>simp<;>omega
     ·intro m k hk
      simp only[AU,Af,Ai hk,Ae (show k<4611686018427387904 by omega),CK (c:=cs[k]) (h.2 _ (List.getElem_mem hk))]
      cases hb:Dc v n cs[k]<;>simp[hk,hb]
     ·intro m
      simp[AU]
   ·by_cases h5:n≥1
    ·simp[h5,show¬n<=4 by omega]
    ·simp[h5,show¬1<=n by omega]
theorem Do {a:Net} (h:Ew a):CA a=some (DQ a):=by
 obtain⟨v,n,cs⟩:=a
 unfold CA DQ
 rw[BW,BW]
 by_cases h1:0<=v/\v<=9
 ·by_cases h3:1<=n/\n<=4
  ·by_cases h4:cs.length>40
   ·simp[h1,h3,show¬cs.length<=40 by omega];omega
   ·have key:=FV cs (λm i=>Bj m ((v,(n,cs)),i)) (Dc v n) (.inr false) (.inl ()) ?_ ?_ (n:=Ac) (by unfold Ac;omega)
    ·simp only[h1,h3,and_self,decide_true,Option.bind_some,Bool.not_true,Bool.false_eq_true,if_false]
     rw[if_neg (by simp;omega),key]
     cases cs.all (Dc v n)<;>simp<;>omega
    ·intro m k hk
     simp only[Bj,Af,Ai hk,Ae (show k<4611686018427387904 by omega),DS (c:=cs[k]) (h.2 _ (List.getElem_mem hk)) h1 (show 1<=n/\n<=8 by omega)]
     cases hb:Dc v n cs[k]<;>simp[hk,hb]
    ·intro m
     simp[Bj]
  ·simp[h1,h3]
 ·simp[h1]
structure ConOk (v n:Int) (c:Con):Prop where
 ar:1<=c.2.1/\c.2.1<=3
 sl:(c.1.length:Int)=c.2.1
 sv: ∀(i:Nat) (hi:i<c.1.length),0<=c.1[i]/\c.1[i]<v
 tl: ∀t∈c.2.2,t.length=c.1.length
 tv: ∀t∈c.2.2,∀(i:Nat) (hi:i<t.length),0<=t[i]/\t[i]<n
 inc:BX c.2.2=true
 many:c.2.2.length<=64
structure NetOk (a:Net):Prop where
 hv:0<=a.1/\a.1<=9
 hn:1<=a.2.1/\a.2.1<=4
 hc:a.2.2.length<=40
 con: ∀c∈a.2.2,ConOk a.1 a.2.1 c
theorem Gm {v n:Int} {c:Con} (hn:1<=n/\n<=4) (h:Dc v n c=true):ConOk v n c:=by
 unfold Dc Ex at h
 simp only[Bool.and_eq_true,decide_eq_true_eq,List.all_eq_true]at h
 obtain⟨⟨⟨⟨h1,h2⟩,h3⟩,h4⟩,h5⟩:=h
 refine⟨h1,h4,λi hi=>Dx h5 i hi,λt ht=>by have:=(h2 t ht).1;omega,λt ht i hi=>Dx (h2 t ht).2 i hi,h3,?_⟩
 rcases Df (n:=n) (k:=c.2.1.toNat) h3 λt ht=>⟨by have:=(h2 t ht).1;omega,(h2 t ht).2⟩with h6|h6
 ·have:n^c.2.1.toNat<=64:=by
   have h7:c.2.1.toNat=1∨c.2.1.toNat=2∨c.2.1.toNat=3:=by omega
   have h8:n=1∨n=2∨n=3∨n=4:=by omega
   rcases h7 with h7|h7|h7<;>rcases h8 with h8|h8|h8|h8<;>rw[h7,h8]<;>decide
  omega
 ·rw[h6];simp
theorem Gn {a:Net} (h:DQ a=true):NetOk a:=by
 unfold DQ at h
 simp only[Bool.and_eq_true,decide_eq_true_eq,List.all_eq_true]at h
 obtain⟨⟨⟨h1,h2⟩,h3⟩,h4⟩:=h
 exact⟨h1,h2,h3,λc hc=>Gm h2 (h4 c hc)⟩
end T
open Go Go.Va
namespace T
section
variable {v n up:Int} {c:Con} {vals:List Int}
theorem CY {l:List Int} (h:l.length<=1099511627775):Bc l=some l:=by
 unfold Bc
 rw[if_pos (by unfold lim;simp;omega)];simp
end
end T
open Go Go.Va
namespace T
abbrev Dom:=List (List Bool)
def mk (bs:List Bool):List Int:=((List.range bs.length).filter λi=>bs.getD i false).map λi:Nat=>(i:Int)
def d2 (d:Dom) (v x:Nat):Bool:=(d.getD v []).getD x false
theorem Ao {α:Type} {l:List α} {i j:Nat} {y d:α}:(l.set i y).getD j d=if i=j/\j<l.length then y else l.getD j d:=by
 simp only[List.getD_eq_getElem?_getD,List.getElem?_set]
 by_cases h:i=j
 ·subst h
  by_cases h2:i<l.length
  ·simp[h2]
  ·simp[h2]
 ·simp[h]
end T
open Go Go.Va
namespace T
abbrev ASt:=Dom×List (Int×Int×Int)
section
variable {a:Net} {K:Nat} {c:Con}
end
end T
open Go Go.Va
namespace T
def mkL {α:Type} (f:α->Int->α×Int):List α->Int->List α×Int
 | [],k=>([],k)
 |x::l,k=>((f x k).1::(mkL f l (f x k).2).1,(mkL f l (f x k).2).2)
theorem Ev {α:Type} (f:α->Int->α×Int): ∀(l:List α) (x:α) (k:Int),mkL f (l++ [x]) k=((mkL f l k).1++ [(f x (mkL f l k).2).1],(f x (mkL f l k).2).2)
 | [],x,k=>by simp[mkL]
 |y::l,x,k=>by
  simp only[List.cons_append,mkL]
  rw[Ev f l x]
theorem Cm {α:Type} (f:α->Int->α×Int): ∀(l:List α) (k:Int),(mkL f l k).1.length=l.length
 | [],_=>rfl
 |x::l,k=>by simp[mkL,Cm f l]
theorem CV {α:Type} {f:α->Int->α×Int} {w:α->Nat}: ∀(l:List α) (k:Int),(∀x∈l,∀k,(f x k).2=k+w x)->(mkL f l k).2=k+((l.map w).sum:Nat)
 | [],k,_=>by simp[mkL]
 |x::l,k,h=>by
  simp only[mkL,List.map_cons,List.sum_cons]
  rw[CV l _ λy hy=>h y (List.mem_cons_of_mem _ hy),h x (by simp)];push_cast;omega
theorem FD {α β:Type} (N:Nat) (L:Nat->List α->Int->Int->Option β) (f:α->Int->α×Int) (w:α->Nat) (B:Int) (fin:List α->Int->Option β) (xs:List α) (k0:Int) (hN:xs.length=N) (hw: ∀x∈xs,∀k,(f x k).2=k+w x)
  (h0:0<=k0) (hB:k0+((xs.map w).sum:Nat)<=B)
  (hs: ∀n (a:List α) (k:Int) (i:Nat) (hi:i<N) (hl:a.length=N),a[i]'(by omega)∈xs->0<=k->k+w (a[i]'(by omega))<=B->L (n+1) a k i=L n (a.set i (f (a[i]'(by omega)) k).1) (f (a[i]'(by omega)) k).2 ((i+1:Nat):Int))
  (he: ∀n a k,a.length=N->L (n+1) a k (N:Nat)=fin a k) {n:Nat} (hn:N<n):L n xs k0 0=fin (mkL f xs k0).1 (mkL f xs k0).2:=by
 have far: ∀i,i<=N->(mkL f (xs.take i) k0).2=k0+(((xs.take i).map w).sum:Nat):=λi _=>CV _ _ λx hx=>hw x (List.mem_of_mem_take hx)
 have:=C5 N (λn (s:List α×Int) i=>L n s.1 s.2 i) (λi=>((mkL f (xs.take i) k0).1++xs.drop i,(mkL f (xs.take i) k0).2)) (r:=fin (mkL f xs k0).1 (mkL f xs k0).2) (λn i hi=>?_) (λn=>?_) hn
 ·simpa[mkL]using this
 ·have hix:i<xs.length:=by omega
  have hlen:(mkL f (xs.take i) k0).1.length=i:=by rw[Cm];simp;omega
  have hl2:((mkL f (xs.take i) k0).1++xs.drop i).length=N:=by simp[hlen];omega
  have hget:((mkL f (xs.take i) k0).1++xs.drop i)[i]'(by omega)=xs[i]:=by
   rw[List.getElem_append_right (by omega)];simp[hlen]
  have hsum:(((xs.take i).map w).sum:Nat)+w xs[i]<=(xs.map w).sum:=by
   have h1:xs=xs.take i++xs[i]::xs.drop (i+1):=by rw[←List.drop_eq_getElem_cons hix,List.take_append_drop]
   have h2:(xs.map w).sum=((xs.take i).map w).sum+(w xs[i]+((xs.drop (i+1)).map w).sum):=by
    conv=>lhs;rw[h1]
    rw[List.map_append,List.sum_append,List.map_cons,List.sum_cons]
   omega
  have hf:=far i (by omega)
  dsimp only
  rw[hs n _ _ i hi hl2 (by rw[hget];exact List.getElem_mem hix) (by omega) (by rw[hget,hf];omega),hget,List.take_succ_eq_append_getElem hix,Ev]
  congr 1
  rw[List.set_append_right _ _ (by omega),hlen,Nat.sub_self,List.drop_eq_getElem_cons hix,List.set_cons_zero,List.append_assoc];rfl
 ·dsimp only
  rw[List.take_of_length_le (by omega),List.drop_of_length_le (by omega),List.append_nil]
  exact he n _ _ (by rw[Cm];exact hN)
theorem Fu {α:Type} (f:α->Int->α×Int) (h:α->Int->Option Int) (w:α->Nat) (B:Int): ∀(xs:List α) (k0:Int) (L:Nat->Int->Int->Option (Int⊕Int)) (j:Nat),(∀x∈xs,∀k,(f x k).2=k+w x)->0<=k0->k0+((xs.map w).sum:Nat)<=B->
  (∀x∈xs,∀k,0<=k->k+w x<=B->h (f x k).1 k=some (f x k).2)->
  (∀n k (i:Nat) (hi:i<xs.length),0<=k->k+w xs[i]<=B->L (n+1) k ((j+i:Nat):Int)=(h ((mkL f xs k0).1[i]'(by rw[Cm];exact hi)) k).bind λq=>if q<0 then some (.inr (-1))else L n q ((j+i+1:Nat):Int))->
  (∀n k,L (n+1) k ((j+xs.length:Nat):Int)=some (.inl k))-> ∀n,xs.length<n->L n k0 (j:Int)=some (.inl (mkL f xs k0).2)
 | [],k0,L,j,_,_,_,_,_,he,n,hn=>by
  obtain⟨n,rfl⟩: ∃m,n=m+1:=⟨n-1,by simp at hn;omega⟩
  have:=he n k0
  simpa[mkL]using this
 |x::xs,k0,L,j,hw,h0,hB,hh,hs,he,n,hn=>by
  obtain⟨n,rfl⟩: ∃m,n=m+1:=⟨n-1,by simp at hn;omega⟩
  rw[List.map_cons,List.sum_cons]at hB
  have hx:=hw x (by simp) k0
  have h1:=hs n k0 0 (by simp) h0 (by simp only[List.getElem_cons_zero];omega)
  simp only[Nat.add_zero,mkL,List.getElem_cons_zero]at h1
  rw[h1,hh x (by simp) k0 h0 (by omega)]
  simp only[Option.bind_some]
  rw[if_neg (by omega)]
  have:=Fu f h w B xs (f x k0).2 L (j+1) (λy hy=>hw y (List.mem_cons_of_mem _ hy)) (by omega) (by rw[hx];omega) (λy hy=>hh y (List.mem_cons_of_mem _ hy))
   (λn k i hi hk0 hkB=>by
    have:=hs n k (i+1) (by simpa using hi) hk0 (by simpa using hkB)
    simp only[mkL,List.getElem_cons_succ]at this
    rw[show j+1+i=j+(i+1) by omega];exact this)
   (λn k=>by have:=he n k;rw[List.length_cons]at this;rw[show j+1+xs.length=j+(xs.length+1) by omega];exact this) n (by simp at hn;omega)
  exact this
abbrev BM:Int:=1152921504606846976
def E8 (_:Int) (k:Int):Int×Int:=(k,k+1)
def By (l:List Int) (k:Int):List Int×Int:=mkL E8 l k
def BF (l:List (List Int)) (k:Int):List (List Int)×Int:=mkL By l k
theorem Dv {α:Type}: ∀(l:List α),(l.map λ_=>1).sum=l.length
 | []=>rfl
 |_::l=>by rw[List.map_cons,List.sum_cons,Dv l,List.length_cons];omega
theorem B8 (l:List Int) (k:Int):(By l k).2=k+(l.length:Nat):=by
 unfold By
 rw[CV (w:=λ_=>1) l k λ_ _ _=>rfl,Dv]
theorem DH (l:List (List Int)) (k:Int):(BF l k).2=k+((l.map List.length).sum:Nat):=by
 unfold BF
 rw[CV (w:=List.length) l k λx _ k=>B8 x k]
theorem CL {l:List Int} {k:Int} (hl:l.length<=1048576) (h0:0<=k) (hB:k+l.length<=BM):BG l k=some (By l k):=by
 unfold BG
 have:=FD l.length (λn a k i=>A9 n (a,k,i)) E8 (λ_=>1) BM (λa k=>some (a,k)) l k rfl (λ_ _ _=>rfl) h0 (by rw[Dv];exact hB) (λn a k i hi hl' _ hk0 hkB=>?_) (λn a k hl'=>?_) (n:=Ac) (by unfold Ac;omega)
 ·rw[this];rfl
 ·have hk1:w64 (k+1)=k+1:=AO (by omega) (by unfold BM at hkB;omega)
  simp only[A9,Af,BE,Ae (show i<4611686018427387904 by omega),hk1,E8]
  simp[hl',hi]
 ·simp[A9,hl']
theorem Er {l:List Int} {k:Int} (hl:l.length<=1048576) (h0:0<=k) (hB:k+l.length<=BM):B1 (By l k).1 k=some (By l k).2:=by
 unfold B1
 have hlen:(By l k).1.length=l.length:=Cm _ _ _
 have:=Fu E8 (λx k=>if x=k then some (k+1)else some (-1)) (λ_=>1) BM l k (λn k' i=>A8 n ((By l k).1,k',i)) 0 (λ_ _ _=>rfl) h0 (by rw[Dv];exact hB) (λx _ k' _ _=>by simp[E8])
  (λn k' i hi hk0 hkB=>by
   have hi':i<(By l k).1.length:=by omega
   have hk1:w64 (k'+1)=k'+1:=AO (by omega) (by unfold BM at hkB;omega)
   rw[Nat.zero_add]
   simp only[A8,Af,Ai hi',Ae (show i<4611686018427387904 by omega),hk1]
   have e:(mkL E8 l k).1[i]'(by rw[Cm];exact hi)=(By l k).1[i]:=rfl
   rw[e]
   by_cases h:(By l k).1[i]=k'
   ·simp[hi',hi,h,hlen,show¬k'+1<0 by omega]
   ·simp[hi',hi,h,hlen])
  (λn k'=>by rw[Nat.zero_add];simp[A8,hlen]) Ac (by unfold Ac;omega)
 rw[show((0:Nat):Int)=0 from rfl]at this
 rw[this];rfl
theorem C8 {l:List (List Int)} {k:Int} (hl:l.length<=1048576) (hr: ∀r∈l,r.length<=1048576) (h0:0<=k) (hB:k+((l.map List.length).sum:Nat)<=BM):BS l k=some (BF l k):=by
 unfold BS
 have:=FD l.length (λn a k i=>AX n (a,k,i)) By List.length BM (λa k=>some (a,k)) l k rfl (λx _ k=>B8 x k) h0 hB (λn a k i hi hl' hm hk0 hkB=>?_) (λn a k hl'=>?_) (n:=Ac) (by unfold Ac;omega)
 ·rw[this];rfl
 ·have hia:i<a.length:=by omega
  simp only[AX,Af,BE,Ai hia,Ae (show i<4611686018427387904 by omega),CL (hr _ hm) hk0 hkB,Option.bind_some]
  simp[hl',hi]
 ·simp[AX,hl']
theorem Ee {l:List (List Int)} {k:Int} (hl:l.length<=1048576) (hr: ∀r∈l,r.length<=1048576) (h0:0<=k) (hB:k+((l.map List.length).sum:Nat)<=BM):Cf (BF l k).1 k=some (BF l k).2:=by
 unfold Cf
 have hlen:(BF l k).1.length=l.length:=Cm _ _ _
 have:=Fu By B1 List.length BM l k (λn k' i=>AW n ((BF l k).1,k',i)) 0 (λx _ k=>B8 x k) h0 hB (λx hx k' hk0 hkB=>Er (hr x hx) hk0 hkB)
  (λn k' i hi hk0 hkB=>by
   have hi':i<(BF l k).1.length:=by omega
   rw[Nat.zero_add]
   simp only[AW,Af,Ai hi',Ae (show i<4611686018427387904 by omega)]
   have e:(mkL By l k).1[i]'(by rw[Cm];exact hi)=(BF l k).1[i]:=rfl
   rw[e]
   simp[hlen,hi])
  (λn k'=>by rw[Nat.zero_add];simp[AW,hlen]) Ac (by unfold Ac;omega)
 rw[show((0:Nat):Int)=0 from rfl]at this
 rw[this];rfl
def wC (c:Con):Nat:=c.1.length+1+(c.2.2.map List.length).sum
def FC (c:Con) (k:Int):Con×Int:=
 (((By c.1 k).1,(By c.1 k).2,(BF c.2.2 ((By c.1 k).2+1)).1),(BF c.2.2 ((By c.1 k).2+1)).2)
theorem DG (c:Con) (k:Int):(FC c k).2=k+wC c:=by
 unfold FC wC;dsimp only
 rw[DH,B8];push_cast;omega
theorem C2 {l:List Con} {k:Int} (hl:l.length<=1048576) (hr: ∀c∈l,E3 c) (h0:0<=k) (hB:k+((l.map wC).sum:Nat)<=BM):Bv l k=some (mkL FC l k):=by
 unfold Bv
 have:=FD l.length (λn a k i=>Aw n (a,k,i)) FC wC BM (λa k=>some (a,k)) l k rfl (λx _ k=>DG x k) h0 hB (λn a k i hi hl' hm hk0 hkB=>?_) (λn a k hl'=>?_) (n:=Ac) (by unfold Ac;omega)
 ·rw[this];rfl
 ·have hia:i<a.length:=by omega
  have hc:=hr _ hm
  have hkB':k+(a[i].1.length:Int)+1+((a[i].2.2.map List.length).sum:Nat)<=BM:=by unfold wC at hkB;push_cast at hkB;omega
  have e1:=B8 a[i].1 k
  have hk1:w64 ((By a[i].1 k).2+1)=(By a[i].1 k).2+1:=AO (by omega) (by unfold BM at hkB';omega)
  have hia1: ∀y,i<(a.set i y).length:=λy=>by simpa using hia
  simp only[Aw,Af,BE,Ai hia,Ae (show i<4611686018427387904 by omega),CL hc.1 hk0 (show k+(a[i].1.length:Int)<=BM by omega),Option.bind_some,Ai (hia1 _),List.getElem_set_self,List.set_set,hk1,
   C8 hc.2.1 hc.2.2 (show 0<=(By a[i].1 k).2+1 by omega) (show(By a[i].1 k).2+1+((a[i].2.2.map List.length).sum:Nat)<=BM by omega)]
  simp[hl',hi,FC]
 ·simp[Aw,hl']
theorem Gu {a:Net}:(a.2.2.map wC).sum<=2*Du a:=by
 unfold Du
 have: ∀l:List Con,(l.map wC).sum<=l.length+(l.map DW).sum:=by
  intro l
  induction l with
  |nil=>simp
  |cons c l ih=>
   simp only[List.map_cons,List.sum_cons,List.length_cons]
   have:wC c<=1+DW c:=by unfold wC DW Da;omega
   omega
 have:=this a.2.2;omega
theorem DI {a:Net} (h:Ew a) (ht:Du a<=1048576): ∃b k,BD a 1=some (b,k)/\0<=k/\k<=2097153:=by
 unfold BD
 have h1:= @Gu a
 rw[C2 h.1 h.2 (by omega) (by unfold BM;omega)]
 refine⟨_,_,rfl,?_,?_⟩
 ·rw[CV (w:=wC) _ _ λc _ k=>DG c k];omega
 ·rw[CV (w:=wC) _ _ λc _ k=>DG c k];omega
end T
open Go Go.Va
namespace T
theorem w2:w64 2=2:=by rw[E0];rfl
section
variable {a:Net}
end
end T
open Go Go.Va
namespace T
abbrev Opn:=Int×List Int
section
variable {n:Int} {f:Opn}
variable {a:Net}
end
end T
set_option linter.unusedVariables false
open Go Go.Va
namespace T
def Di (r:Int×(List (List Int))) (t:List Int):Option (Bool):=
 if(t.length:Int) !=r.1 then
 some false
 else
 (CT r.2 t).bind λr1=>
 some r1.2
def AI:Nat->((List Int)×((List Int)×Int×(List (List Int)))×(List Int)×Int)->Option (((List Int)×Int×(List (List Int)))×(List Int))
 |0,_=>none
 |n+1,(values,c,t,i)=>
 if decide (i<(c.1.length:Int))then
 if inb i c.1 then
 if inb (gd c.1 i 0) values then
 if t.length+ [gd values (gd c.1 i 0) 0].length<=lim then
 AI n (values,(c.1,(c.2.1,c.2.2)),t++ [gd values (gd c.1 i 0) 0],w64 (i+1))
 else none
 else none
 else none
 else
 some ((c.1,(c.2.1,c.2.2)),t)
def BV (c:(List Int)×Int×(List (List Int))) (values:List Int):Option (Bool):=
 (AI Ac (values,(c.1,(c.2.1,c.2.2)),[],0)).bind λs1=>
 (Di (s1.1.2.1,s1.1.2.2) s1.2).bind λr2=>
 some r2
def Bd:Nat->((List Int)×(List Int)×(List Int)×Int×Int)->Option ((List Int))
 |0,_=>none
 |n+1,(g,h,t11,t12,t13)=>
 if decide (t13<t12)then
 if inb t13 t11 then
 if inb (gd t11 t13 0) g then
 if inb t13 h then
 Bd n (g,stt h t13 (gd g (gd t11 t13 0) 0),t11,t12,w64 (t13+1))
 else none
 else none
 else none
 else
 some h
def BC (f:List Int) (g:List Int):Option ((List Int)):=
 if 0<=(f.length:Int)/\(f.length:Int)<=(f.length:Int)/\(f.length:Int)<=lim then
 (Bd Ac (g,List.replicate (Int.toNat (f.length:Int)) (0:Int),f,(f.length:Int),0)).bind λs1=>
 some s1
 else none
def Cq:Nat->((List Int)×(List Int)×Int×Int)->Option ((Unit)⊕(Bool))
 |0,_=>none
 |n+1,(b,t12,t13,t14)=>
 if decide (t14<t13)then
 if inb t14 t12 then
 if inb t14 b then
 if(gd b t14 0) !=(gd t12 t14 0)then
 some (.inr false)
 else
 Cq n (b,t12,t13,w64 (t14+1))
 else none
 else none
 else
 some (.inl ())
def FU (a:List Int) (b:List Int):Option (Bool):=
 if(a.length:Int) !=(b.length:Int)then
  some false
 else
  (Cq Ac (b,a,(a.length:Int),0)).bind λs1=>
   match s1 with
   | .inl s2=>
    some true
   | .inr s3=>
    some s3
end T
open Go Go.Va
namespace T
def BL (vs:List Int) (v:Int):Int:=vs.getD v.toNat 0
def CI (vs:List Int) (c:Con):Bool:=decide (c.1.map (BL vs)∈c.2.2)
def GK (l:List Con) (vs:List Int):Bool:=l.all (CI vs)
def GV (vars:List Int) (c:Con):Bool:=c.1.all λv=>decide (v∈vars)
def GE (a:Net) (vars:List Int):List Con:=a.2.2.filter (GV vars)
section
variable {a:Net}
theorem CD {f g:List Int} (hf:f.length<=1048576) (hg: ∀v∈f,0<=v/\v<g.length):BC f g=some (f.map (BL g)):=by
 unfold BC
 rw[if_pos (by unfold lim;omega)]
 have:=Ed f (λn o i=>Bd n (g,o,f,(f.length:Int),i)) (BL g) some (λn o k hk hlo=>?_) (λn o hlo=>?_) (n:=Ac) (out:=List.replicate (Int.toNat (f.length:Int)) (0:Int)) (by simp) (by unfold Ac;omega)
 ·simp only[this,Option.bind_some]
 ·have hko:k<o.length:=by omega
  have hv:=hg _ (List.getElem_mem hk)
  have e:gd g f[k] 0=BL g f[k]:=rfl
  simp only[Bd,Af,Ai hk,BE,Ae (show k<4611686018427387904 by omega),e]
  rw[if_pos (by simp;omega),if_pos hk,if_pos (show inb f[k] g from hv),if_pos hko]
 ·simp[Bd]
theorem CO {v n:Int} {c:Con} (h:ConOk v n c) {vs:List Int} (hv:(vs.length:Int)=v):BV c vs=some (CI vs c):=by
 unfold BV
 have hsl:=h.sl
 have har:=h.ar
 have hm:=h.many
 have:=C5 c.1.length (λn (o:List Int) i=>AI n (vs,(c.1,(c.2.1,c.2.2)),o,i)) (λk=>(c.1.take k).map (BL vs)) (r:=some ((c.1,(c.2.1,c.2.2)),c.1.map (BL vs))) (λn k hk=>?_) (λn=>?_) (n:=Ac) (by unfold Ac;omega)
 ·simp only[List.take_zero,List.map_nil]at this
  simp only[this,Option.bind_some]
  unfold Di
  have hl:((c.1.map (BL vs)).length:Int)=c.2.1:=by rw[List.length_map];exact hsl
  rw[if_neg (by simpa using hsl)]
  obtain⟨q,e,_⟩:=DM (list:=c.2.2) (t:=c.1.map (BL vs)) (k:=c.1.length) (by omega) (by omega) h.tl (by simp) h.inc
  simp only[e,Option.bind_some];rfl
 ·have hvk:=h.sv k hk
  have e:gd vs c.1[k] 0=BL vs c.1[k]:=rfl
  have hi:inb c.1[k] vs:=by unfold inb;omega
  simp only[AI,Af,Ai hk,e,Ae (show k<4611686018427387904 by omega)]
  rw[List.take_succ_eq_append_getElem hk,List.map_append]
  rw[if_pos (by simp;omega),if_pos hk,if_pos hi,if_pos (by unfold lim;simp;omega)];rfl
 ·simp only[AI,List.take_length]
  rw[if_neg (by simp)]
end
end T
open Go Go.Va
namespace T
abbrev T3:=List (List (List Bool))
abbrev T4:=List (List (List (List Bool)))
def Gf (s:Nat) (c:List (List Bool)):Prop:=c.length=s/\ ∀x,x<s->(c.getD x []).length=s
def Gv (n s:Nat) (r:T3):Prop:=r.length=n/\ ∀j,j<n->Gf s (r.getD j [])
def Ok4 (n s:Nat) (t:T4):Prop:=t.length=n/\ ∀i,i<n->Gv n s (t.getD i [])
def r4 (t:T4) (i j x y:Nat):Bool:=(((t.getD i []).getD j []).getD x []).getD y false
def s4 (t:T4) (i j x y:Nat) (b:Bool):T4:=t.set i ((t.getD i []).set j (((t.getD i []).getD j []).set x ((((t.getD i []).getD j []).getD x []).set y b)))
def Ok3 (n m:Nat) (u:T3):Prop:=u.length=n/\ ∀i,i<n->(u.getD i []).length=n/\ ∀j,j<n->((u.getD i []).getD j []).length=m
def r3 (u:T3) (i j p:Nat):Bool:=((u.getD i []).getD j []).getD p false
def s3 (u:T3) (i j p:Nat) (b:Bool):T3:=u.set i ((u.getD i []).set j (((u.getD i []).getD j []).set p b))
section
variable {n s m:Nat} {t:T4} {u:T3}
theorem Ok4.at (h:Ok4 n s t) {i j x:Nat} (hi:i<n) (hj:j<n) (hx:x<s):i<t.length/\j<(t.getD i []).length/\x<((t.getD i []).getD j []).length/\(((t.getD i []).getD j []).getD x []).length=s:=
 ⟨by rw[h.1];exact hi,by rw[(h.2 i hi).1];exact hj,by rw[((h.2 i hi).2 j hj).1];exact hx,((h.2 i hi).2 j hj).2 x hx⟩
theorem Ok3.at (h:Ok3 n m u) {i j:Nat} (hi:i<n) (hj:j<n):i<u.length/\j<(u.getD i []).length/\((u.getD i []).getD j []).length=m:=
 ⟨by rw[h.1];exact hi,by rw[(h.2 i hi).1];exact hj,(h.2 i hi).2 j hj⟩
theorem EX (h:Ok4 n s t) {i j x y:Nat} {b:Bool}:Ok4 n s (s4 t i j x y b):=by
 unfold s4
 refine⟨by rw[List.length_set];exact h.1,λi' hi'=>?_⟩
 rw[Ao]
 split
 ·rename_i hc
  obtain⟨rfl,_⟩:=hc
  have hr:=h.2 i hi'
  refine⟨by rw[List.length_set];exact hr.1,λj' hj'=>?_⟩
  rw[Ao]
  split
  ·rename_i hc
   obtain⟨rfl,_⟩:=hc
   have hcl:=hr.2 j hj'
   refine⟨by rw[List.length_set];exact hcl.1,λx' hx'=>?_⟩
   rw[Ao]
   split
   ·rename_i hc
    obtain⟨rfl,_⟩:=hc
    rw[List.length_set];exact hcl.2 x hx'
   ·exact hcl.2 x' hx'
  ·exact hr.2 j' hj'
 ·exact h.2 i' hi'
theorem GJ (h:Ok3 n m u) {i j p:Nat} {b:Bool}:Ok3 n m (s3 u i j p b):=by
 unfold s3
 refine⟨by rw[List.length_set];exact h.1,λi' hi'=>?_⟩
 rw[Ao]
 split
 ·rename_i hc
  obtain⟨rfl,_⟩:=hc
  have hr:=h.2 i hi'
  refine⟨by rw[List.length_set];exact hr.1,λj' hj'=>?_⟩
  rw[Ao]
  split
  ·rename_i hc
   obtain⟨rfl,_⟩:=hc
   rw[List.length_set];exact hr.2 j hj'
  ·exact hr.2 j' hj'
 ·exact h.2 i' hi'
theorem EV (h:Ok4 n s t) {i j x y:Nat} {b:Bool} (hi:i<n) (hj:j<n) (hx:x<s) (hy:y<s) (i' j' x' y':Nat):
  r4 (s4 t i j x y b) i' j' x' y'=if i=i'/\j=j'/\x=x'/\y=y' then b else r4 t i' j' x' y':=by
 obtain⟨h1,h2,h3,h4⟩:=h.at hi hj hx
 unfold r4 s4
 rw[Ao]
 by_cases e1:i=i'
 ·subst e1
  rw[if_pos ⟨rfl,h1⟩,Ao]
  by_cases e2:j=j'
  ·subst e2
   rw[if_pos ⟨rfl,h2⟩,Ao]
   by_cases e3:x=x'
   ·subst e3
    rw[if_pos ⟨rfl,h3⟩,Ao]
    by_cases e4:y=y'
    ·subst e4;rw[if_pos ⟨rfl,by omega⟩,if_pos ⟨rfl,rfl,rfl,rfl⟩]
    ·rw[if_neg (by omega),if_neg (by omega)]
   ·rw[if_neg (by omega),if_neg (by omega)]
  ·rw[if_neg (by omega),if_neg (by omega)]
 ·rw[if_neg (by omega),if_neg (by omega)]
theorem GI (h:Ok3 n m u) {i j p:Nat} {b:Bool} (hi:i<n) (hj:j<n) (hp:p<m) (i' j' p':Nat):
  r3 (s3 u i j p b) i' j' p'=if i=i'/\j=j'/\p=p' then b else r3 u i' j' p':=by
 obtain⟨h1,h2,h3⟩:=h.at hi hj
 unfold r3 s3
 rw[Ao]
 by_cases e1:i=i'
 ·subst e1
  rw[if_pos ⟨rfl,h1⟩,Ao]
  by_cases e2:j=j'
  ·subst e2
   rw[if_pos ⟨rfl,h2⟩,Ao]
   by_cases e3:p=p'
   ·subst e3;rw[if_pos ⟨rfl,by omega⟩,if_pos ⟨rfl,rfl,rfl⟩]
   ·rw[if_neg (by omega),if_neg (by omega)]
  ·rw[if_neg (by omega),if_neg (by omega)]
 ·rw[if_neg (by omega),if_neg (by omega)]
end
structure Rel34 (n s:Nat) (t:T4) (u:T3):Prop where
 o4:Ok4 n s t
 o3:Ok3 n (s*s) u
 eq: ∀i j x y,i<j->j<n->x<s->y<s->r4 t i j x y=r3 u i j (x*s+y)/\r4 t j i y x=r3 u i j (x*s+y)
theorem FX {s x y:Nat} (hx:x<s) (hy:y<s):x*s+y<s*s:=by
 have:(x+1)*s<=s*s:=Nat.mul_le_mul_right _ hx
 rw[Nat.succ_mul]at this;omega
theorem Fk {s x y x' y':Nat} (hy:y<s) (hy':y'<s) (h:x*s+y=x'*s+y'):x=x'/\y=y':=by
 have h1:(x*s+y)/s=x:=by rw[Nat.mul_comm,Nat.mul_add_div (by omega),Nat.div_eq_of_lt hy];omega
 have h2:(x'*s+y')/s=x':=by rw[Nat.mul_comm,Nat.mul_add_div (by omega),Nat.div_eq_of_lt hy'];omega
 have:x=x':=by rw[←h1,←h2,h]
 subst this
 exact⟨rfl,by omega⟩
theorem Rel34.drop {n s:Nat} {t:T4} {u:T3} (h:Rel34 n s t u) {i j x y:Nat} (hij:i<j) (hj:j<n) (hx:x<s) (hy:y<s):
  Rel34 n s (s4 (s4 t i j x y false) j i y x false) (s3 u i j (x*s+y) false):=by
 refine⟨EX (EX h.o4),GJ h.o3,λi' j' x' y' h1 h2 h3 h4=>?_⟩
 have hi:i<n:=by omega
 rw[EV (EX h.o4) hj hi hy hx,EV h.o4 hi hj hx hy,EV (EX h.o4) hj hi hy hx,EV h.o4 hi hj hx hy,GI h.o3 hi hj (FX hx hy)]
 obtain⟨e1,e2⟩:=h.eq i' j' x' y' h1 h2 h3 h4
 by_cases e:i=i'/\j=j'/\x=x'/\y=y'
 ·obtain⟨rfl,rfl,rfl,rfl⟩:=e
  simp
 ·have e3: ¬(i=i'/\j=j'/\x*s+y=x'*s+y'):=λ⟨q1,q2,q3⟩=>by
   have:=Fk hy h4 q3
   exact e ⟨q1,q2,this.1,this.2⟩
  have e4: ¬(j=i'/\i=j'/\y=x'/\x=y'):=by omega
  have e5: ¬(i=j'/\j=i'/\x=y'/\y=x'):=by omega
  have e6: ¬(j=j'/\i=i'/\y=y'/\x=x'):=by omega
  simp only[if_neg e,if_neg e3,if_neg e4,if_neg e5,if_neg e6]
  exact⟨e1,e2⟩
end T
open Go Go.Va
namespace T
def V3 (n i j k x y z:Nat):List Int:=(((List.replicate n (0:Int)).set i (x:Int)).set j (y:Int)).set k (z:Int)
section
variable {a:Net} {n s:Nat} {t:T4} {u:T3}
def hP (a:Net) (n:Nat) (t:T4) (i j k x y z:Nat):Bool:=r4 t i k x z&&r4 t j k y z&&GK (GE a [(i:Int),(j:Int),(k:Int)]) (V3 n i j k x y z)
end
end T
open Go Go.Va
namespace T
section
variable {a:Net} {n s:Nat} {t:T4} {u:T3}
def V2 (n i j x y:Nat):List Int:=((List.replicate n (0:Int)).set i (x:Int)).set j (y:Int)
def fB (a:Net) (n i j x y:Nat):Bool:=GK (GE a [(i:Int),(j:Int)]) (V2 n i j x y)
end
end T
open Go Go.Va
namespace T
section
variable {a:Net} {n s:Nat} {t:T4} {u:T3}
def PA (n s i:Nat) (t:T4):Prop:=t.length=n/\ ∀i',i'<i->Gv n s (t.getD i' [])
def PB (n s i j:Nat) (t:T4):Prop:=PA n s i t/\(t.getD i []).length=n/\ ∀j',j'<j->Gf s ((t.getD i []).getD j' [])
theorem PA.set {i:Nat} (h:PA n s i t) (r:T3):PA n s i (t.set i r):=by
 refine⟨by rw[List.length_set];exact h.1,λi' hi'=>?_⟩
 rw[Ao,if_neg (by omega)];exact h.2 i' hi'
theorem PB.set {i j:Nat} (h:PB n s i j t) (hi:i<n) (c:List (List Bool)):PB n s i j (t.set i ((t.getD i []).set j c)):=by
 have hl:=h.1.1
 refine⟨h.1.set _,?_,λj' hj'=>?_⟩
 ·rw[Ao,if_pos ⟨rfl,by omega⟩,List.length_set];exact h.2.1
 ·rw[Ao,if_pos ⟨rfl,by omega⟩,Ao,if_neg (by omega)];exact h.2.2 j' hj'
end
end T
open Go Go.Va
namespace T
section
variable {a:Net} {n s:Nat} {t:T4} {u:T3}
def cI (o:List Nat):List Int:=o.map λx:Nat=>(x:Int)
end
end T
set_option linter.unusedVariables false
open Go Go.Va
namespace T
def Bl:Nat->((List Int)×(List Int)×Int×Int)->Option ((List Int))
 |0,_=>none
 |n+1,(b,t10,t11,t12)=>
 if decide (t12<t11)then
 if inb t12 t10 then
 if(0:Int)<=8 then
 if b.length+ [IntKind.wrap .u8 (YiD .i64 (gd t10 t12 0) 8),IntKind.wrap .u8 (gd t10 t12 0)].length<=lim then
 Bl n (b++ [IntKind.wrap .u8 (YiD .i64 (gd t10 t12 0) 8),IntKind.wrap .u8 (gd t10 t12 0)],t10,t11,w64 (t12+1))
 else none
 else none
 else none
 else
 some b
def BI (list:List Int):Option (ByteArray):=
 if(0:Int)<=0/\(0:Int)<=(w64 (2*(list.length:Int)))/\(w64 (2*(list.length:Int)))<=lim then
 (Bl Ac (List.replicate (Int.toNat 0) (0:Int),list,(list.length:Int),0)).bind λs1=>
 some (Ybp s1)
 else none
def A7:Nat->((List ByteArray)×(List (List Int))×Int×Int)->Option ((List ByteArray))
 |0,_=>none
 |n+1,(set,t8,t9,t10)=>
 if decide (t10<t9)then
 if inb t10 t8 then
 (BI (gd t8 t10 [])).bind λr1=>
 A7 n (YhI set r1,t8,t9,w64 (t10+1))
 else none
 else
 some set
def Cp (r:Int×(List (List Int))):Option ((List ByteArray)):=
 (A7 Ac ([],r.2,(r.2.length:Int),0)).bind λs1=>
 some s1
end T
open Go Go.Va
namespace T
def kb (l:List Int):List Int:=l.flatMap λx=> [0,x]
def DE (l:List Int):ByteArray:=Ybp (kb l)
theorem EE {x:Int} (h0:0<=x) (h1:x<256):IntKind.wrap .u8 x=x:=by
 simp[IntKind.wrap,IntKind.bits,IntKind.signed]
 omega
theorem Fd {x:Int} (h0:0<=x) (h1:x<256):YiD .i64 x 8=0:=by
 unfold YiD
 have:(min (8:Int).toNat IntKind.i64.bits)=8:=by decide
 rw[this,Int.fdiv_eq_ediv_of_nonneg _ (by decide)]
 have:(2:Int)^8=256:=by decide
 rw[this];omega
theorem Co {l:List Int} (hl:l.length<=1048576) (hv: ∀x∈l,0<=x/\x<256):BI l=some (DE l):=by
 unfold BI
 have e2:w64 (2*(l.length:Int))=2*(l.length:Int):=AO (by omega) (by omega)
 rw[e2,if_pos (by unfold lim;omega)]
 have kbl: ∀k,k<=l.length->(kb (l.take k)).length=2*k:=by
  intro k hk
  have: ∀l:List Int,(kb l).length=2*l.length:=by
   intro l
   induction l with
   |nil=>rfl
   |cons x l ih=>unfold kb at ih⊢;simp only[List.flatMap_cons,List.length_append,ih,List.length_cons,List.length_nil];omega
  rw[this];simp;omega
 have:=C5 l.length (λm o i=>Bl m (o,l,(l.length:Int),i)) (λk=>kb (l.take k)) (r:=some (kb l)) (λm k hk=>?_) (λm=>?_) (n:=Ac) (by unfold Ac;omega)
 ·have e0:kb (l.take 0)= []:=rfl
  rw[e0]at this
  have:Bl Ac (List.replicate (Int.toNat 0) (0:Int),l,(l.length:Int),0)=some (kb l):=this
  rw[this];rfl
 ·have hx:=hv _ (List.getElem_mem hk)
  have hlen:=kbl k (by omega)
  have e:kb (l.take (k+1))=kb (l.take k)++ [0,l[k]]:=by
   unfold kb;rw[List.take_succ_eq_append_getElem hk,List.flatMap_append];simp
  simp only[Bl,Af,Ai hk,Ae (show k<4611686018427387904 by omega),EE hx.1 hx.2,Fd hx.1 hx.2,EE (show(0:Int)<=0 by omega) (show(0:Int)<256 by omega),e]
  rw[if_pos (by simp;omega),if_pos hk,if_pos (by omega),if_pos (by unfold lim;simp;omega)]
 ·simp only[Bl,List.take_length]
  rw[if_neg (by simp)]
theorem CZ: ∀(xs:List Int) (s:ByteArray),(xs.foldl (λs n=>s.push (UInt8.ofNat n.toNat)) s).data=s.data++(xs.map λn=>UInt8.ofNat n.toNat).toArray
 | [],s=>by simp
 |x::xs,s=>by
  rw[List.foldl_cons,CZ xs]
  apply Array.ext'
  simp[ByteArray.push]
theorem Fw: ∀(l l':List Int),(∀x∈l,0<=x/\x<256)->(∀x∈l',0<=x/\x<256)->(kb l).map (λn=>UInt8.ofNat n.toNat)=(kb l').map (λn=>UInt8.ofNat n.toNat)->l=l'
 | [],[],_,_,_=>rfl
 | [],y::l',_,_,h=>by simp[kb]at h
 |x::l,[],_,_,h=>by simp[kb]at h
 |x::l,y::l',hv,hv',h=>by
  simp only[kb,List.flatMap_cons,List.map_append,List.map_cons,List.map_nil,List.cons_append,List.nil_append,List.cons.injEq,true_and]at h
  obtain⟨h1,h2⟩:=h
  have hx:=hv x (by simp)
  have hy:=hv' y (by simp)
  have h1:=congrArg UInt8.toNat h1
  simp only[UInt8.toNat_ofNat']at h1
  have:x=y:=by omega
  rw[this,Fw l l' (λz hz=>hv z (List.mem_cons_of_mem _ hz)) (λz hz=>hv' z (List.mem_cons_of_mem _ hz)) h2]
theorem Fy {l l':List Int} (hv: ∀x∈l,0<=x/\x<256) (hv': ∀x∈l',0<=x/\x<256) (h:DE l=DE l'):l=l':=by
 have h:=congrArg ByteArray.data h
 unfold DE Ybp at h
 rw[CZ,CZ]at h
 have h:=congrArg Array.toList h
 simp only[Array.toList_append]at h
 exact Fw l l' hv hv' (List.append_cancel_left h)
theorem Fi {a b:ByteArray}:(a==b)=decide (a=b):=by
 show(a.data==b.data)=_
 rw[Bool.eq_iff_iff,beq_iff_eq,decide_eq_true_eq]
 exact⟨λh=>ByteArray.ext h,λh=>congrArg ByteArray.data h⟩
theorem Eu {ks:List ByteArray} {s:ByteArray}:Xs ks s=true↔s∈ks:=by
 unfold Xs
 rw[List.any_eq_true]
 constructor
 ·rintro ⟨k,h1,h2⟩;rw[Fi,decide_eq_true_eq]at h2;subst h2;exact h1
 ·intro h;exact⟨s,h,by rw[Fi];simp⟩
theorem FE {ks:List ByteArray} {s t:ByteArray}:t∈YhI ks s↔t∈ks∨t=s:=by
 unfold YhI
 by_cases h:Xs ks s=true
 ·rw[if_pos h]
  exact⟨.inl,λh'=>h'.elim id λe=>e▸Eu.1 h⟩
 ·rw[if_neg h];simp
def BR (l:List (List Int)):List ByteArray:=l.foldl (λks t=>YhI ks (DE t)) []
theorem Fz {l:List (List Int)} {s:ByteArray}:s∈BR l↔ ∃t∈l,s=DE t:=by
 have key: ∀(l:List (List Int)) (ks:List ByteArray),s∈l.foldl (λks t=>YhI ks (DE t)) ks↔s∈ks∨ ∃t∈l,s=DE t:=by
  intro l
  induction l with
  |nil=>intro ks;simp
  |cons t l ih=>
   intro ks
   rw[List.foldl_cons,ih,FE]
   simp only[List.mem_cons,exists_eq_or_imp,or_assoc]
 unfold BR;rw[key];simp
theorem De {r:Int×List (List Int)} (hl:r.2.length<=1048576) (hv: ∀t∈r.2,t.length<=1048576/\ ∀x∈t,0<=x/\x<256):Cp r=some (BR r.2):=by
 unfold Cp
 have:=C5 r.2.length (λm o i=>A7 m (o,r.2,(r.2.length:Int),i)) (λk=>BR (r.2.take k)) (r:=some (BR r.2)) (λm k hk=>?_) (λm=>?_) (n:=Ac) (by unfold Ac;omega)
 ·have e0:BR (r.2.take 0)= []:=rfl
  rw[e0]at this
  simp only[this,Option.bind_some]
 ·obtain⟨h1,h2⟩:=hv _ (List.getElem_mem hk)
  have e:BR (r.2.take (k+1))=YhI (BR (r.2.take k)) (DE r.2[k]):=by
   unfold BR;rw[List.take_succ_eq_append_getElem hk,List.foldl_append];rfl
  simp only[A7,Af,Ai hk,Ae (show k<4611686018427387904 by omega),Co h1 h2,Option.bind_some,e]
  rw[if_pos (by simp;omega),if_pos hk]
 ·simp only[A7,List.take_length]
  rw[if_neg (by simp)]
theorem D4 {l:List (List Int)} {t:List Int} (hl: ∀t∈l,∀x∈t,0<=x/\x<256) (ht: ∀x∈t,0<=x/\x<256):Xs (BR l) (DE t)=decide (t∈l):=by
 rw[Bool.eq_iff_iff,Eu,decide_eq_true_eq,Fz]
 constructor
 ·rintro ⟨u,h1,h2⟩;rw[Fy ht (hl u h1) h2];exact h1
 ·intro h;exact⟨t,h,rfl⟩
def dg (b:Nat):Nat->Nat->List Nat
 |0,_=> []
 |k+1,i=>dg b k (i/b)++ [i%b]
theorem Fm {b:Nat}: ∀ {k i:Nat},(dg b k i).length=k
 |0,_=>rfl
 |k+1,i=>by simp[dg,Fm (k:=k)]
theorem Gh {b:Nat} (hb:0<b): ∀ {k i:Nat},∀x∈dg b k i,x<b
 |0,_,x,h=>by simp[dg]at h
 |k+1,i,x,h=>by
  simp only[dg]at h
  rcases List.mem_append.1 h with h|h
  ·exact Gh hb x h
  ·simp at h;subst h;exact Nat.mod_lt _ hb
theorem Fj {o:List Nat}:(cI o).length=o.length:=by unfold cI;simp
theorem E1 {o p:List Nat}:cI (o++p)=cI o++cI p:=by unfold cI;simp
end T
open Go Go.Va
namespace T
theorem GH {b k:Nat} (hb:b<=64) (hk:k<=3):b^k<=262144:=by
 have h1:b^k<=64^k:=Nat.pow_le_pow_left hb k
 have h2:64^k<=64^3:=Nat.pow_le_pow_right (by omega) hk
 have:(64:Nat)^3=262144:=by decide
 omega
theorem FM {b j:Nat} (hb:b<=64) (hj:j+1<=3):w64 (((b^j:Nat):Int)*(b:Int))=((b^(j+1):Nat):Int):=by
 have h:=GH hb hj
 rw[Nat.pow_succ]at h⊢
 rw[←Int.natCast_mul]
 exact AO (by omega) (by omega)
section
variable {n k m:Nat} {op:Opn} {r:Int×List (List Int)}
end
end T
set_option linter.unusedVariables false
open Go Go.Va
namespace T
def AR:Nat->(Int×(List Int)×Int)->Option ((List Int))
 |0,_=>none
 |n+1,(size,out,i)=>
 if decide (i<size)then
 if out.length+ [(-1)].length<=lim then
 AR n (size,out++ [(-1)],w64 (i+1))
 else none
 else
 some out
def Cz (size:Int):Option ((List Int)):=
 (AR Ac (size,[],0)).bind λs1=>
 some s1
def BA:Nat->(Int×Int×(List Int)×Int)->Option ((List Int))
 |0,_=>none
 |n+1,(n_,at_,out,i)=>
 if decide (i≥0)then
 if n_≠0 then
 if inb i out then
 if n_≠0 then
 BA n (n_,w64 (Int.tdiv at_ n_),stt out i (Int.tmod at_ n_),w64 (i-1))
 else none
 else none
 else none
 else
 some out
def CQ (n_:Int) (arity:Int) (at_:Int):Option ((List Int)):=
 if 0<=arity/\arity<=arity/\arity<=lim then
 (BA Ac (n_,at_,List.replicate (Int.toNat arity) (0:Int),w64 (arity-1))).bind λs1=>
 some s1
 else none
def Cn (a:Int) (b:Int):Option (Int):=
 if decide (a>b)then
 some a
 else
 some b
def AK:Nat->((List Int)×Int×Int)->Option ((List Int))
 |0,_=>none
 |n+1,(list,t8,t9)=>
 if decide (t9<t8)then
 if inb t9 list then
 AK n (stt list t9 (-1),t8,w64 (t9+1))
 else none
 else
 some list
def Cc (many:Int):Option ((List Int)):=
 if 0<=many/\many<=many/\many<=lim then
 (AK Ac (List.replicate (Int.toNat many) (0:Int),((List.replicate (Int.toNat many) (0:Int)).length:Int),0)).bind λs1=>
 some s1
 else none
def C0 (list:List Int):Option ((List Int)):=
 if([]:List Int).length+list.length<=lim then
 some ([]++list)
 else none
end T
open Go Go.Va
namespace T
theorem GN {a b:Nat} (ha:a<4611686018427387904):w64 (Int.tdiv (a:Int) (b:Int))=((a/b:Nat):Int):=by
 rw[Int.tdiv_eq_ediv_of_nonneg (by omega),←Int.natCast_ediv]
 have:=Nat.div_le_self a b
 generalize a/b=q at this
 exact AO (by omega) (by omega)
theorem GP {a b:Nat}:Int.tmod (a:Int) (b:Int)=((a%b:Nat):Int):=by
 rw[Int.tmod_eq_emod_of_nonneg (by omega),←Int.natCast_emod]
section
variable {n:Nat}
end
end T
open Go Go.Va
namespace T
abbrev Dj:=Int×List (List Int)
theorem FK {b:Nat} (hb:b<=64): ∀(m k j:Nat),j+k<=3->k<m->AY m ((b:Int),(k:Int),((b^j:Nat):Int))=some (((b^(j+k):Nat):Int)):=by
 intro m
 induction m with
 |zero=>intro k j _ h;omega
 |succ m ih=>
  intro k j hj hk
  simp only[AY]
  cases k with
  |zero=>simp
  |succ k=>
   have e:w64 (((k+1:Nat):Int)-1)=(k:Int):=by rw[AO (by omega) (by omega)];omega
   rw[e,FM hb (by omega),if_pos (by simp),ih k (j+1) (by omega) (by omega)]
   congr 3;omega
theorem DN {b k:Nat} (hb:b<=64) (hk:k<=3):B0 (b:Int) (k:Int)=some (((b^k:Nat):Int)):=by
 unfold B0
 have:=FK hb Ac k 0 (by omega) (by unfold Ac;omega)
 have this:AY Ac ((b:Int),(k:Int),1)=_:=this
 rw[this];simp
theorem Gj {l:List Nat} {s:List Nat} {x y:Nat}:(cI (l++x::s)).set l.length (y:Int)=cI (l++y::s):=by
 unfold cI
 rw[List.map_append,List.map_append,List.map_cons,List.map_cons,List.set_append_right _ _ (by simp)]
 simp
theorem E7 {b:Nat} (hb:0<b): ∀(j i f:Nat) (s:List Nat),j<f->i<4611686018427387904->j<=1000->
  BA f ((b:Int),(i:Int),cI (List.replicate j 0++s),(j:Int)-1)=some (cI (dg b j i++s)):=by
 intro j
 induction j with
 |zero=>
  intro i f s hf hi hj
  obtain⟨f,rfl⟩: ∃z,f=z+1:=⟨f-1,by omega⟩
  simp only[BA]
  rw[if_neg (by simp)];rfl
 |succ j ih=>
  intro i f s hf hi hj
  obtain⟨f,rfl⟩: ∃z,f=z+1:=⟨f-1,by omega⟩
  have e1:((j+1:Nat):Int)-1=(j:Int):=by omega
  have hz:List.replicate (j+1) 0++s=List.replicate j 0++0::s:=by rw[List.replicate_succ'];simp
  have hlen:j<(cI (List.replicate j 0++0::s)).length:=by rw[Fj];simp
  have hset:=Gj (l:=List.replicate j 0) (s:=s) (x:=0) (y:=i%b)
  rw[List.length_replicate]at hset
  have w2:w64 ((j:Int)-1)=(j:Int)-1:=AO (by omega) (by omega)
  have hle:=Nat.div_le_self i b
  rw[e1,hz]
  simp only[BA,GN hi,GP,Af,hlen,BE,hset,w2]
  rw[if_pos (by simp),if_pos (by omega),if_pos trivial,if_pos (by omega),ih (i/b) f _ (by omega) (by omega) (by omega)]
  simp[dg]
theorem DL {b k i:Nat} (hb:0<b) (hk:k<=1000) (hi:i<4611686018427387904):CQ (b:Int) (k:Int) (i:Int)=some (cI (dg b k i)):=by
 have h:=E7 hb k i Ac [] (by unfold Ac;omega) hi hk
 have e:cI (List.replicate k 0++ [])=List.replicate (Int.toNat (k:Int)) (0:Int):=by unfold cI;simp
 rw[e,List.append_nil]at h
 unfold CQ
 rw[AO (x:=(k:Int)-1) (by omega) (by omega),h,if_pos (by unfold lim;omega)];rfl
section
variable {n k m:Nat} {r:Dj}
end
end T
open Go Go.Va
namespace T
section
variable {n k m:Nat} {r:Dj} {rels:List Dj}
theorem Dp (a b:Nat):Cn (a:Int) (b:Int)=some ((max a b:Nat):Int):=by
 unfold Cn
 by_cases h:(a:Int)>(b:Int)
 ·rw[if_pos (by simpa using h)];congr 2;omega
 ·rw[if_neg (by simpa using h)];congr 2;omega
end
end T
open Go Go.Va
namespace T
def AZ {σ:Type} (cb:List Int->σ->Option (σ×Bool)):List (List Int)->σ->Option (σ×Bool)
 | [],s=>some (s,true)
 |t::l,s=>match cb t s with|some (s',true)=>AZ cb l s'|some (s',false)=>some (s',false)|none=>none
theorem Cs {σ:Type} {cb:List Int->σ->Option (σ×Bool)}: ∀(l l':List (List Int)) (s:σ),AZ cb (l++l') s=match AZ cb l s with|some (s',true)=>AZ cb l' s'|some (s',false)=>some (s',false)|none=>none
 | [],l',s=>rfl
 |t::l,l',s=>by
  simp only[List.cons_append,AZ]
  cases hc:cb t s with
  |none=>rfl
  |some q=>
   obtain⟨s',b⟩:=q
   cases b with
   |false=>rfl
   |true=>exact Cs l l' s'
def Ck (given:List Int) (at' x:Nat):Bool:=!(decide (given.getD at' 0≥0)&&given.getD at' 0 !=(x:Int))
def BY (n:Nat) (given:List Int) (ok:List Int->Bool):Nat->List Int->List (List Int)
 |0,pre=> [pre]
 |m+1,pre=>(List.range n).flatMap λx=>if Ck given pre.length x&&ok (pre++ [(x:Int)])then BY n given ok m (pre++ [(x:Int)])else []
section
variable {n k:Nat} {rels:List Dj} {given:List Int}
end
end T
open Go Go.Va
namespace T
section
variable {n k:Nat} {rels:List Dj} {given:List Int}
theorem Ec {ok:List Int->Bool}: ∀(m:Nat) (pre:List Int),(BY n given ok m pre).length<=n^m
 |0,pre=>by simp[BY]
 |m+1,pre=>by
  simp only[BY]
  have key: ∀(l:List Nat),(l.flatMap λx=>if Ck given pre.length x&&ok (pre++ [(x:Int)])then BY n given ok m (pre++ [(x:Int)])else []).length<=l.length*n^m:=by
   intro l
   induction l with
   |nil=>simp
   |cons x l ih=>
    rw[List.flatMap_cons,List.length_append,List.length_cons,Nat.succ_mul]
    have:(if Ck given pre.length x&&ok (pre++ [(x:Int)])then BY n given ok m (pre++ [(x:Int)])else []).length<=n^m:=by
     split
     ·exact Ec m _
     ·simp
    omega
  have:=key (List.range n)
  rw[List.length_range]at this
  rw[Nat.pow_succ,Nat.mul_comm]
  exact this
end
end T
open Go Go.Va
namespace T
theorem DP {a b:Dj} (h:EW a.2):Az a b=some (decide (a=b)):=by
 unfold Az
 rw[DA (by have:=h.1;omega) λr hr=>by have:=h.2 r hr;omega]
 obtain⟨a1,a2⟩:=a
 obtain⟨b1,b2⟩:=b
 by_cases h1:a1=b1
 ·by_cases h2:a2=b2<;>simp[h1,h2]
 ·simp[h1]
theorem Fs {N:Nat} (h:N<=1000):Cc (N:Int)=some (List.replicate N (-1)):=by
 unfold Cc
 rw[Int.toNat_natCast,if_pos (by unfold lim;omega)]
 have:=C5 N (λf o i=>AK f (o,((List.replicate N (0:Int)).length:Int),i)) (λj=>List.replicate j (-1)++List.replicate (N-j) (0:Int)) (r:=some (List.replicate N (-1))) (λf j hj=>?_) (λf=>?_) (n:=Ac) (by unfold Ac;omega)
 ·have this:AK Ac (List.replicate N (0:Int),((List.replicate N (0:Int)).length:Int),0)=_:=this
  rw[this];rfl
 ·have hin:j<(List.replicate j (-1)++List.replicate (N-j) (0:Int)).length:=by simp;omega
  have e:(List.replicate j (-1)++List.replicate (N-j) (0:Int)).set j (-1)=List.replicate (j+1) (-1)++List.replicate (N-(j+1)) (0:Int):=by
   rw[show N-j=(N-(j+1))+1 by omega,List.replicate_succ,List.set_append_right _ _ (by simp),List.replicate_succ']
   simp
  simp only[AK,Af,hin,BE,e,if_true,Ae (show j<4611686018427387904 by omega)]
  rw[if_pos (by simp;omega)]
 ·simp only[AK]
  rw[if_neg (by simp)];simp
theorem Ft {N:Nat} (h:N<=1000):Cz (N:Int)=some (List.replicate N (-1)):=by
 unfold Cz
 have:=C5 N (λf o i=>AR f ((N:Int),o,i)) (λj=>List.replicate j (-1)) (r:=some (List.replicate N (-1))) (λf j hj=>?_) (λf=>?_) (n:=Ac) (by unfold Ac;omega)
 ·have this:AR Ac ((N:Int),[],0)=_:=this
  rw[this];rfl
 ·simp only[AR,List.replicate_succ',Ae (show j<4611686018427387904 by omega)]
  rw[if_pos (by simp;omega),if_pos (by simp;unfold lim;omega)]
 ·simp only[AR]
  rw[if_neg (by simp)]
end T
open Go Go.Va
namespace T
section
variable {n:Int} {rels:List Dj}
end
def Dm (V:List Int) (x:Nat):Int:=match V.findIdx? (λy=>y==(x:Int))with|some i=>(i:Int)|none=> -1
section
variable {n:Nat} {t:List Int}
end
section
variable {n m:Nat} {t:List Int} {r:Dj} {rels:List Dj}
end
end T
set_option linter.unusedVariables false
open Go Go.Va
namespace T
def AJ:Nat->((List (List Int))×(List (List Int))×Int×Int)->Option ((List (List Int)))
 |0,_=>none
 |n+1,(list,t7,t8,t9)=>
 if decide (t9<t8)then
 if inb t9 t7 then
 (C0 (gd t7 t9 [])).bind λr1=>
 if list.length+ [r1].length<=lim then
 AJ n (list++ [r1],t7,t8,w64 (t9+1))
 else none
 else none
 else
 some list
def Ca (rows:List (List Int)):Option ((List (List Int))):=
 (AJ Ac ([],rows,(rows.length:Int),0)).bind λs1=>
 some s1
end T
open Go Go.Va
namespace T
section
variable {α:Type} {nw old:Nat->α} {N i:Nat}
end
def pr4 (p:Int):Prop:=p=2∨p=3∨p=5∨p=7
def ET (p:Int) (W:Nat) (r:List Int):Prop:=r.length=W/\ ∀x∈r,0<=x/\x<p
section
variable {p:Int} {W:Nat} {r row:List Int}
theorem Gq (h:ET p W r) {i:Nat} (hi:i<W):0<=r.getD i 0/\r.getD i 0<p:=by
 have:i<r.length:=by rw[h.1];exact hi
 rw[Ax this];exact h.2 _ (List.getElem_mem this)
end
abbrev ES:=List (List Int)×List Int×List (List Int)
structure ESok (p:Int) (W N v:Nat) (s:ES):Prop where
 t: ∀r∈s.1,ET p W r
 l: ∀r∈s.2.2,ET p W r
 bl:s.2.1.length=s.1.length
 n:s.1.length+s.2.2.length=N
 bv: ∀x∈s.2.1,0<=x/\x<(v:Int)
 bn:s.2.1.Nodup
section
variable {p:Int} {W N:Nat}
end
end T
open Go Go.Va
namespace T
section
variable {p:Int} {W N V:Nat}
theorem Fb {b:List Int} {u:Nat} (h:(u:Int)∉b):Dm b u= -1:=by
 unfold Dm
 have h1:(b.findIdx? λy=>y==(u:Int))=none:=by
  rw[List.findIdx?_eq_none_iff]
  intro y hy
  simp only[beq_eq_false_iff_ne]
  intro e;exact h (e▸hy)
 rw[h1]
theorem EU {b:List Int} {u:Nat} (h:(u:Int)∈b): ∃i,∃hi:i<b.length,Dm b u=(i:Int)/\b[i]=(u:Int):=by
 unfold Dm
 have h1:(b.findIdx? λy=>y==(u:Int)).isSome=true:=by
  rw[List.findIdx?_isSome,List.any_eq_true]
  exact⟨_,h,by simp⟩
 obtain⟨i,hi⟩:=Option.isSome_iff_exists.1 h1
 rw[hi]
 obtain⟨g1,g2,_⟩:=List.findIdx?_eq_some_iff_getElem.1 hi
 exact⟨i,g1,rfl,by simpa using g2⟩
theorem D9 {rows:List (List Int)} (hN:rows.length<=100000) (hr: ∀r∈rows,r.length<=100000):Ca rows=some rows:=by
 unfold Ca
 have:=C5 rows.length (λf o i=>AJ f (o,rows,(rows.length:Int),i)) (λk=>rows.take k) (r:=some rows) (λf k hk=>by
  have hl:=hr _ (List.getElem_mem hk)
  have hcl:C0 rows[k]=some rows[k]:=by
   unfold C0
   rw[if_pos (by simp;unfold lim;omega)];simp
  simp only[AJ,Af,hk,Ai hk,hcl,Option.bind_some,List.take_succ_eq_append_getElem hk,if_true,Ae (show k<4611686018427387904 by omega)]
  rw[if_pos (by simp;omega),if_pos (by simp;unfold lim;omega)]) (λf=>by
  simp only[AJ,List.take_length]
  rw[if_neg (by simp)]) (n:=Ac) (by unfold Ac;omega)
 have this:AJ Ac ([],rows,(rows.length:Int),0)=_:=this
 rw[this];rfl
end
end T
open Go Go.Va
namespace T
def Gz (N:Nat) (b:List Int):List Int:=((List.range N).filter λv:Nat=>!decide ((v:Int)∈b)).map λv:Nat=>(v:Int)
section
variable {p:Int} {W N V:Nat}
theorem FJ {b:List Int} {u:Nat}:Dm b u<0↔(u:Int)∉b:=by
 by_cases h:(u:Int)∈b
 ·obtain⟨i,hi,h1,_⟩:=EU h
  rw[h1];simp[h]
 ·rw[Fb h];simp[h]
def FN (V:Nat) (s:ES) (u:Nat):Int:=if Dm s.2.1 u<0 then 0 else(s.1.getD (Dm s.2.1 u).toNat []).getD V 0
def GM (V:Nat) (s:ES):List Int:=(List.range V).map (FN V s)
end
end T
open Go Go.Va
namespace T
section
variable {a:Lin} {p:Int} {W N V:Nat}
theorem ED: ∀ {l:List (List Int)},(∀r∈l,r.length<=16)->(l.map List.length).sum<=16*l.length
 | [],_=>by simp
 |r::l,h=>by
  have:=ED (l:=l) λq hq=>h q (List.mem_cons_of_mem _ hq)
  have:=h r (by simp)
  rw[List.map_cons,List.sum_cons,List.length_cons];omega
end
end T
open Go Go.Va
namespace T
def cg (p a b:Int):Prop:= ∃k,a=b+p*k
section
variable {p a b c d:Int}
theorem Fl (h:a=b):cg p a b:=⟨0,by rw[h];simp⟩
theorem Gk (h:cg p a b) (g:cg p c d):cg p (a+c) (b+d):=by obtain⟨k,h⟩:=h;obtain⟨m,g⟩:=g;exact⟨k+m,by grind⟩
theorem Gl (x:Int) (h:cg p a b):cg p (x*a) (x*b):=by obtain⟨k,h⟩:=h;exact⟨x*k,by grind⟩
end
inductive Sp (p:Int) (V:Nat) (A:List (List Int)):(Nat->Int)->Prop
 |zero:Sp p V A λ_=>0
 |add {f:Nat->Int} (r:List Int) (c:Int):r∈A->Sp p V A f->Sp p V A λi=>f i+c*r.getD i 0
 |cgr {f g:Nat->Int}:Sp p V A f->(∀i,i<V->cg p (g i) (f i))->Sp p V A g
section
variable {p:Int} {V W N:Nat} {A B:List (List Int)} {f g:Nat->Int}
theorem Sp.lin (hf:Sp p V A f) (hg:Sp p V A g) (c:Int):Sp p V A λi=>f i+c*g i:=by
 induction hg with
 |zero=>exact hf.cgr λi _=>Fl (by simp)
 |add r d hr _ ih=>exact(ih.add r (c*d) hr).cgr λi _=>Fl (by grind)
 |cgr _ h ih=>exact ih.cgr λi hi=>Gk (Fl rfl) (Gl c (h i hi))
theorem Sp.sub (h: ∀r∈A,Sp p V B λi=>r.getD i 0) (hf:Sp p V A f):Sp p V B f:=by
 induction hf with
 |zero=>exact .zero
 |add r c hr _ ih=>exact ih.lin (h r hr) c
 |cgr _ h ih=>exact ih.cgr h
def eqSp (p:Int) (V:Nat) (A B:List (List Int)):Prop:= ∀f,Sp p V A f↔Sp p V B f
end
end T
open Go Go.Va
namespace T
section
variable {p:Int} {V W N:Nat} {A B:List (List Int)} {f g:Nat->Int}
theorem DB {α:Type} {l:List α} {i:Nat} {d:α} (hi:i<l.length):l.getD i d∈l:=by rw[Ax hi];exact List.getElem_mem hi
end
end T
open Go Go.Va
namespace T
section
variable {p:Int} {V W N:Nat} {A B C D:List (List Int)} {f g:Nat->Int}
theorem eqSp.symm (h:eqSp p V A B):eqSp p V B A:=λf=>(h f).symm
theorem eqSp.trans (h:eqSp p V A B) (g:eqSp p V B C):eqSp p V A C:=λf=>(h f).trans (g f)
end
end T
set_option linter.unusedVariables false
open Go Go.Va
namespace T
def BT (a:Int×(List (List Int))) (k:Int):Option ((Unit×(List (List Int)))×Int):=
 (BS a.2 k).bind λr1=>
 some (((),r1.1),r1.2)
def Bn (a:Int×(List (List Int))) (k:Int):Option (Int):=
 (Cf a.2 k).bind λr1=>
 if decide (r1<0)then
 some (-1)
 else
 some r1
end T
open Go Go.Va
namespace T
def i64 (x:Int):Prop:= -9223372036854775808<=x/\x<=9223372036854775807
section
variable {c:List Int} {ar:Int}
end
end T
set_option linter.unusedVariables false
open Go Go.Va
namespace T
def AT:Nat->((List ((List Int)×Int×(List (List Int))))×(List (List ((List Int)×Int×(List (List Int)))))×Int×Int×Int)->Option ((List ((List Int)×Int×(List (List Int))))×(List (List ((List Int)×Int×(List (List Int)))))×Int×Int)
 |0,_=>none
 |n+1,(list,out,i,most,k)=>
 if inb i list then
 if decide (k<(((gd list i ([],(0,[]))).1).length:Int))then
 if inb i list then
 if inb k ((gd list i ([],(0,[]))).1)then
 (Cn most (gd ((gd list i ([],(0,[]))).1) k 0)).bind λr1=>
 AT n (list,out,i,r1,w64 (k+1))
 else none
 else none
 else
 some (list,out,i,most)
 else none
def AS:Nat->((List ((List Int)×Int×(List (List Int))))×(List (List ((List Int)×Int×(List (List Int)))))×Int)->Option ((List (List ((List Int)×Int×(List (List Int))))))
 |0,_=>none
 |n+1,(list,out,i)=>
 if decide (i<(list.length:Int))then
 (AT Ac (list,out,i,0,0)).bind λs1=>
 if inb s1.2.2.2 s1.2.1 then
 if inb s1.2.2.1 s1.1 then
 if(gd s1.2.1 s1.2.2.2 []).length+ [gd s1.1 s1.2.2.1 ([],(0,[]))].length<=lim then
 if inb s1.2.2.2 s1.2.1 then
 if s1.2.2.2=s1.2.2.2 then
 AS n (s1.1,stt s1.2.1 s1.2.2.2 ((gd s1.2.1 s1.2.2.2 [])++ [gd s1.1 s1.2.2.1 ([],(0,[]))]),w64 (s1.2.2.1+1))
 else none
 else none
 else none
 else none
 else none
 else
 some out
def CB (vars:Int) (list:List ((List Int)×Int×(List (List Int)))):Option ((List (List ((List Int)×Int×(List (List Int)))))):=
 if 0<=vars/\vars<=vars/\vars<=lim then
 (AS Ac (list,List.replicate (Int.toNat vars) ([]:List ((List Int)×Int×(List (List Int)))),0)).bind λs1=>
 some s1
 else none
def Am (rec:(Int×(List (List ((List Int)×Int×(List (List Int)))))×(List Int)×(List Int)×((List (List Int))×(Int×Int×Bool)))->Option (((List (List Int))×(Int×Int×Bool)))):Nat->(Int×(List (List ((List Int)×Int×(List (List Int)))))×(List Int)×(List Int)×((List (List Int))×(Int×Int×Bool))×((List (List Int))×(Int×Int×Bool))×Int×Int×(List Int)×Bool×Int)->Option (Int×(List (List ((List Int)×Int×(List (List Int)))))×(List Int)×(List Int)×((List (List Int))×(Int×Int×Bool))×((List (List Int))×(Int×Int×Bool))×Int×Int×(List Int)×Bool)
 |0,_=>none
 |n+1,(t0,t1,t2,t3,t9,t10,t11,t12,t13,t14,t15)=>
 if inb t11 t1 then
 if decide (t15<((gd t1 t11 []).length:Int))then
 if t14 then
 if inb t11 t1 then
 if inb t15 (gd t1 t11 [])then
 (BV (gd (gd t1 t11 []) t15 ([],(0,[]))) t13).bind λr3=>
 Am rec n (t0,t1,t2,t3,(t9.1,(t9.2.1,(t9.2.2.1,t9.2.2.2))),(t10.1,(t10.2.1,(t10.2.2.1,t10.2.2.2))),t11,t12,t13,r3,w64 (t15+1))
 else none
 else none
 else
 some (t0,t1,t2,t3,(t9.1,(t9.2.1,(t9.2.2.1,t9.2.2.2))),(t10.1,(t10.2.1,(t10.2.2.1,t10.2.2.2))),t11,t12,t13,t14)
 else
 some (t0,t1,t2,t3,(t9.1,(t9.2.1,(t9.2.2.1,t9.2.2.2))),(t10.1,(t10.2.1,(t10.2.2.1,t10.2.2.2))),t11,t12,t13,t14)
 else none
def Ad (rec:(Int×(List (List ((List Int)×Int×(List (List Int)))))×(List Int)×(List Int)×((List (List Int))×(Int×Int×Bool)))->Option (((List (List Int))×(Int×Int×Bool)))):Nat->(Int×(List (List ((List Int)×Int×(List (List Int)))))×(List Int)×(List Int)×((List (List Int))×(Int×Int×Bool))×((List (List Int))×(Int×Int×Bool))×Int×Int)->Option (((List (List Int))×(Int×Int×Bool))×((List (List Int))×(Int×Int×Bool)))
 |0,_=>none
 |n+1,(t0,t1,t2,t3,t9,t10,t11,t12)=>
 if decide (t12<t0)then
 if t9.2.2.2 then
 if !(decide (t9.2.1>0))then
 if inb t11 t2 then
 if decide ((gd t2 t11 0)≥0)then
 if inb t11 t2 then
 if(gd t2 t11 0) !=t12 then
 Ad rec n (t0,t1,t2,t3,(t9.1,(t9.2.1,(t9.2.2.1,t9.2.2.2))),(t10.1,(t10.2.1,(t10.2.2.1,t10.2.2.2))),t11,w64 (t12+1))
 else
 (Bc t3).bind λr2=>
 if r2.length+ [t12].length<=lim then
 (Am rec Ac (t0,t1,t2,t3,(t9.1,(t9.2.1,(t9.2.2.1,t9.2.2.2))),(t10.1,(t10.2.1,(t10.2.2.1,t10.2.2.2))),t11,t12,r2++ [t12],true,0)).bind λs3=>
 if s3.2.2.2.2.2.2.2.2.2 then
 (rec (s3.1,s3.2.1,s3.2.2.1,s3.2.2.2.2.2.2.2.2.1,(s3.2.2.2.2.1.1,(s3.2.2.2.2.1.2.1,(s3.2.2.2.2.1.2.2.1,s3.2.2.2.2.1.2.2.2))))).bind λr4=>
 Ad rec n (s3.1,s3.2.1,s3.2.2.1,s3.2.2.2.1,(r4.1,(r4.2.1,(r4.2.2.1,r4.2.2.2))),(s3.2.2.2.2.2.1.1,(s3.2.2.2.2.2.1.2.1,(s3.2.2.2.2.2.1.2.2.1,s3.2.2.2.2.2.1.2.2.2))),s3.2.2.2.2.2.2.1,w64 (s3.2.2.2.2.2.2.2.1+1))
 else
 Ad rec n (s3.1,s3.2.1,s3.2.2.1,s3.2.2.2.1,(s3.2.2.2.2.1.1,(s3.2.2.2.2.1.2.1,(s3.2.2.2.2.1.2.2.1,s3.2.2.2.2.1.2.2.2))),(s3.2.2.2.2.2.1.1,(s3.2.2.2.2.2.1.2.1,(s3.2.2.2.2.2.1.2.2.1,s3.2.2.2.2.2.1.2.2.2))),s3.2.2.2.2.2.2.1,w64 (s3.2.2.2.2.2.2.2.1+1))
 else none
 else none
 else
 (Bc t3).bind λr5=>
 if r5.length+ [t12].length<=lim then
 (Am rec Ac (t0,t1,t2,t3,(t9.1,(t9.2.1,(t9.2.2.1,t9.2.2.2))),(t10.1,(t10.2.1,(t10.2.2.1,t10.2.2.2))),t11,t12,r5++ [t12],true,0)).bind λs6=>
 if s6.2.2.2.2.2.2.2.2.2 then
 (rec (s6.1,s6.2.1,s6.2.2.1,s6.2.2.2.2.2.2.2.2.1,(s6.2.2.2.2.1.1,(s6.2.2.2.2.1.2.1,(s6.2.2.2.2.1.2.2.1,s6.2.2.2.2.1.2.2.2))))).bind λr7=>
 Ad rec n (s6.1,s6.2.1,s6.2.2.1,s6.2.2.2.1,(r7.1,(r7.2.1,(r7.2.2.1,r7.2.2.2))),(s6.2.2.2.2.2.1.1,(s6.2.2.2.2.2.1.2.1,(s6.2.2.2.2.2.1.2.2.1,s6.2.2.2.2.2.1.2.2.2))),s6.2.2.2.2.2.2.1,w64 (s6.2.2.2.2.2.2.2.1+1))
 else
 Ad rec n (s6.1,s6.2.1,s6.2.2.1,s6.2.2.2.1,(s6.2.2.2.2.1.1,(s6.2.2.2.2.1.2.1,(s6.2.2.2.2.1.2.2.1,s6.2.2.2.2.1.2.2.2))),(s6.2.2.2.2.2.1.1,(s6.2.2.2.2.2.1.2.1,(s6.2.2.2.2.2.1.2.2.1,s6.2.2.2.2.2.1.2.2.2))),s6.2.2.2.2.2.2.1,w64 (s6.2.2.2.2.2.2.2.1+1))
 else none
 else none
 else
 some ((t9.1,(t9.2.1,(t9.2.2.1,t9.2.2.2))),(t10.1,(t10.2.1,(t10.2.2.1,t10.2.2.2))))
 else
 if !false then
 if inb t11 t2 then
 if decide ((gd t2 t11 0)≥0)then
 if inb t11 t2 then
 if(gd t2 t11 0) !=t12 then
 Ad rec n (t0,t1,t2,t3,(t9.1,(t9.2.1,(t9.2.2.1,t9.2.2.2))),(t10.1,(t10.2.1,(t10.2.2.1,t10.2.2.2))),t11,w64 (t12+1))
 else
 (Bc t3).bind λr8=>
 if r8.length+ [t12].length<=lim then
 (Am rec Ac (t0,t1,t2,t3,(t9.1,(t9.2.1,(t9.2.2.1,t9.2.2.2))),(t10.1,(t10.2.1,(t10.2.2.1,t10.2.2.2))),t11,t12,r8++ [t12],true,0)).bind λs9=>
 if s9.2.2.2.2.2.2.2.2.2 then
 (rec (s9.1,s9.2.1,s9.2.2.1,s9.2.2.2.2.2.2.2.2.1,(s9.2.2.2.2.1.1,(s9.2.2.2.2.1.2.1,(s9.2.2.2.2.1.2.2.1,s9.2.2.2.2.1.2.2.2))))).bind λr10=>
 Ad rec n (s9.1,s9.2.1,s9.2.2.1,s9.2.2.2.1,(r10.1,(r10.2.1,(r10.2.2.1,r10.2.2.2))),(s9.2.2.2.2.2.1.1,(s9.2.2.2.2.2.1.2.1,(s9.2.2.2.2.2.1.2.2.1,s9.2.2.2.2.2.1.2.2.2))),s9.2.2.2.2.2.2.1,w64 (s9.2.2.2.2.2.2.2.1+1))
 else
 Ad rec n (s9.1,s9.2.1,s9.2.2.1,s9.2.2.2.1,(s9.2.2.2.2.1.1,(s9.2.2.2.2.1.2.1,(s9.2.2.2.2.1.2.2.1,s9.2.2.2.2.1.2.2.2))),(s9.2.2.2.2.2.1.1,(s9.2.2.2.2.2.1.2.1,(s9.2.2.2.2.2.1.2.2.1,s9.2.2.2.2.2.1.2.2.2))),s9.2.2.2.2.2.2.1,w64 (s9.2.2.2.2.2.2.2.1+1))
 else none
 else none
 else
 (Bc t3).bind λr11=>
 if r11.length+ [t12].length<=lim then
 (Am rec Ac (t0,t1,t2,t3,(t9.1,(t9.2.1,(t9.2.2.1,t9.2.2.2))),(t10.1,(t10.2.1,(t10.2.2.1,t10.2.2.2))),t11,t12,r11++ [t12],true,0)).bind λs12=>
 if s12.2.2.2.2.2.2.2.2.2 then
 (rec (s12.1,s12.2.1,s12.2.2.1,s12.2.2.2.2.2.2.2.2.1,(s12.2.2.2.2.1.1,(s12.2.2.2.2.1.2.1,(s12.2.2.2.2.1.2.2.1,s12.2.2.2.2.1.2.2.2))))).bind λr13=>
 Ad rec n (s12.1,s12.2.1,s12.2.2.1,s12.2.2.2.1,(r13.1,(r13.2.1,(r13.2.2.1,r13.2.2.2))),(s12.2.2.2.2.2.1.1,(s12.2.2.2.2.2.1.2.1,(s12.2.2.2.2.2.1.2.2.1,s12.2.2.2.2.2.1.2.2.2))),s12.2.2.2.2.2.2.1,w64 (s12.2.2.2.2.2.2.2.1+1))
 else
 Ad rec n (s12.1,s12.2.1,s12.2.2.1,s12.2.2.2.1,(s12.2.2.2.2.1.1,(s12.2.2.2.2.1.2.1,(s12.2.2.2.2.1.2.2.1,s12.2.2.2.2.1.2.2.2))),(s12.2.2.2.2.2.1.1,(s12.2.2.2.2.2.1.2.1,(s12.2.2.2.2.2.1.2.2.1,s12.2.2.2.2.2.1.2.2.2))),s12.2.2.2.2.2.2.1,w64 (s12.2.2.2.2.2.2.2.1+1))
 else none
 else none
 else
 some ((t9.1,(t9.2.1,(t9.2.2.1,t9.2.2.2))),(t10.1,(t10.2.1,(t10.2.2.1,t10.2.2.2))))
 else
 some ((t9.1,(t9.2.1,(t9.2.2.1,t9.2.2.2))),(t10.1,(t10.2.1,(t10.2.2.1,t10.2.2.2))))
def B5 (rec:(Int×(List (List ((List Int)×Int×(List (List Int)))))×(List Int)×(List Int)×((List (List Int))×(Int×Int×Bool)))->Option (((List (List Int))×(Int×Int×Bool)))) (t0:Int) (t1:List (List ((List Int)×Int×(List (List Int))))) (t2:List Int) (t3:List Int) (t4:(List (List Int))×(Int×Int×Bool)):Option (((List (List Int))×(Int×Int×Bool))):=
 if(t3.length:Int)==(t1.length:Int)then
 if decide ((t4.1.length:Int)<t4.2.2.1)then
 (Bc t3).bind λr1=>
 if t4.1.length+ [r1].length<=lim then
 some (t4.1++ [r1],(w64 (t4.2.1+1),(t4.2.2.1,t4.2.2.2)))
 else none
 else
 some (t4.1,(w64 (t4.2.1+1),(t4.2.2.1,t4.2.2.2)))
 else
 (Ad rec Ac (t0,t1,t2,t3,(t4.1,(t4.2.1,(t4.2.2.1,t4.2.2.2))),([],(0,(0,false))),(t3.length:Int),0)).bind λs2=>
 some (s2.1.1,(s2.1.2.1,(s2.1.2.2.1,s2.1.2.2.2)))
def Aj:Nat->(Int×(List (List ((List Int)×Int×(List (List Int)))))×(List Int)×(List Int)×((List (List Int))×(Int×Int×Bool)))->Option (((List (List Int))×(Int×Int×Bool)))
 |0,_=>none
 |d+1,x=>B5 (Aj d) x.1 x.2.1 x.2.2.1 x.2.2.2.1 x.2.2.2.2
def B7 (net:Int×Int×(List ((List Int)×Int×(List (List Int))))) (list:List ((List Int)×Int×(List (List Int)))) (partial_:List Int) (most:Int) (one:Bool):Option (((List (List Int))×(Int×Int×Bool))):=
 (CB net.1 list).bind λr1=>
 (Aj Ac (net.2.1,r1,partial_,[],([],(0,(most,one))))).bind λr2=>
 some (r2.1,(r2.2.1,(r2.2.2.1,r2.2.2.2)))
def Av:Nat->((Int×((List (List (List Int)))×(List (List (List ByteArray)))))×((List Int)×Int×(List (List Int)))×Int×(List ((List Int)×Int×(List (List Int))))×Int×Int×(List Int)×Int×Int)->Option ((Int×((List (List (List Int)))×(List (List (List ByteArray)))))×((List Int)×Int×(List (List Int)))×Int×(List ((List Int)×Int×(List (List Int))))×Int×Int)
 |0,_=>none
 |n+1,(t3,t5,t6,t20,t21,t22,t27,t28,t29)=>
 if decide (t29<t28)then
 if inb t29 t27 then
 Av n ((t3.1,(t3.2.1,t3.2.2)),(t5.1,(t5.2.1,t5.2.2)),Yiv t6 (gd t27 t29 0),t20,t21,t22,t27,t28,w64 (t29+1))
 else none
 else
 some ((t3.1,(t3.2.1,t3.2.2)),(t5.1,(t5.2.1,t5.2.2)),t6,t20,t21,t22)
def Au:Nat->((Int×((List (List (List Int)))×(List (List (List ByteArray)))))×(List ((List Int)×Int×(List (List Int))))×Int×Int)->Option ((Int×((List (List (List Int)))×(List (List (List ByteArray))))))
 |0,_=>none
 |n+1,(t3,t20,t21,t22)=>
 if decide (t22<t21)then
 if inb t22 t20 then
 (Av Ac ((t3.1,(t3.2.1,t3.2.2)),((gd t20 t22 ([],(0,[]))).1,(((gd t20 t22 ([],(0,[]))).2).1,((gd t20 t22 ([],(0,[]))).2).2)),0,t20,t21,t22,(gd t20 t22 ([],(0,[]))).1,(((gd t20 t22 ([],(0,[]))).1).length:Int),0)).bind λs1=>
 if inb s1.2.2.1 s1.1.2.1 then
 if(gd s1.1.2.1 s1.2.2.1 []).length+ [s1.2.1.1].length<=lim then
 if inb s1.2.2.1 s1.1.2.1 then
 if s1.2.2.1=s1.2.2.1 then
 if inb s1.2.2.1 s1.1.2.2 then
 (Cp (s1.2.1.2.1,s1.2.1.2.2)).bind λr2=>
 if(gd s1.1.2.2 s1.2.2.1 []).length+ [r2].length<=lim then
 if inb s1.2.2.1 s1.1.2.2 then
 if s1.2.2.1=s1.2.2.1 then
 Au n ((s1.1.1,(stt s1.1.2.1 s1.2.2.1 ((gd s1.1.2.1 s1.2.2.1 [])++ [s1.2.1.1]),stt s1.1.2.2 s1.2.2.1 ((gd s1.1.2.2 s1.2.2.1 [])++ [r2]))),s1.2.2.2.1,s1.2.2.2.2.1,w64 (s1.2.2.2.2.2+1))
 else none
 else none
 else none
 else none
 else none
 else none
 else none
 else none
 else none
 else
 some (t3.1,(t3.2.1,t3.2.2))
def BP (t0:Int×Int×(List ((List Int)×Int×(List (List Int))))):Option ((Bool×Int×(List (List (List Int)))×(List (List (List ByteArray))))):=
 if 0<=t0.1/\t0.1<=t0.1/\t0.1<=lim then
 if 0<=t0.1/\t0.1<=t0.1/\t0.1<=lim then
 (Au Ac ((t0.2.1,(List.replicate (Int.toNat t0.1) ([]:List (List Int)),List.replicate (Int.toNat t0.1) ([]:List (List ByteArray)))),t0.2.2,(t0.2.2.length:Int),0)).bind λs1=>
 some (true,(s1.1,(s1.2.1,s1.2.2)))
 else none
 else none
end T
open Go Go.Va
namespace T
abbrev NS:=Bool×Int×List (List (List Int))×List (List (List ByteArray))
abbrev NIn (σ:Type):=Int×List Int×σ×NS×List Int×Unit
abbrev Fh (σ:Type):=List Int×σ×NS×List Int×Bool
def hM {σ:Type}:Nat->(Int×List Int×σ×NS×List Int×Unit×Int×Bool×List (List Int)×Int×Int)->Option (Int×List Int×σ×NS×List Int×Unit×Int×Bool)
 |0,_=>none
 |n+1,(t0,t1,t2,t3,t4,t5,t8,t9,t50,t51,t52)=>
 if decide (t52<t51)then
 if inb t52 t50 then
 if t9 then
 if t3.1=true then
 if inb t0 t3.2.2.2 then
 if inb t52 (gd t3.2.2.2 t0 [])then
 (BC (gd t50 t52 []) t1).bind λr2=>
 (BI r2).bind λr3=>
 hM n (t0,t1,t2,t3,t4,(),t8,Xs (gd (gd t3.2.2.2 t0 []) t52 []) r3,t50,t51,w64 (t52+1))
 else none
 else none
 else none
 else
 hM n (t0,t1,t2,t3,t4,(),t8,false,t50,t51,w64 (t52+1))
 else none
 else
 some (t0,t1,t2,t3,t4,(),t8,t9)
def hL {σ:Type} (rec:NIn σ->Option (Fh σ)):Nat->(Int×List Int×σ×NS×List Int×Unit×Int)->Option ((List Int×σ×NS×List Int×Unit)⊕(List Int×σ×NS×List Int×Unit×Bool))
 |0,_=>none
 |n+1,(t0,t1,t2,t3,t4,t5,t8)=>
 if t3.1=true then
 if decide (t8<t3.2.1)then
 if inb t0 t4 then
 if decide ((gd t4 t0 0)≥0)then
 if inb t0 t4 then
 if(gd t4 t0 0) !=t8 then
 hL rec n (t0,t1,t2,t3,t4,(),w64 (t8+1))
 else
 if inb t0 t1 then
 if t3.1=true then
 if inb t0 t3.2.2.1 then
 (hM Ac (t0,stt t1 t0 t8,t2,t3,t4,(),t8,true,gd t3.2.2.1 t0 [],((gd t3.2.2.1 t0 []).length:Int),0)).bind λs2=>
 if s2.2.2.2.2.2.2.2 then
 (rec (w64 (s2.1+1),s2.2.1,s2.2.2.1,s2.2.2.2.1,s2.2.2.2.2.1,())).bind λr3=>
 if !r3.2.2.2.2 then
 some (.inr (r3.1,r3.2.1,r3.2.2.1,r3.2.2.2.1,(),false))
 else
 hL rec n (s2.1,r3.1,r3.2.1,r3.2.2.1,r3.2.2.2.1,(),w64 (s2.2.2.2.2.2.2.1+1))
 else
 hL rec n (s2.1,s2.2.1,s2.2.2.1,s2.2.2.2.1,s2.2.2.2.2.1,(),w64 (s2.2.2.2.2.2.2.1+1))
 else none
 else none
 else none
 else none
 else
 if inb t0 t1 then
 if t3.1=true then
 if inb t0 t3.2.2.1 then
 (hM Ac (t0,stt t1 t0 t8,t2,t3,t4,(),t8,true,gd t3.2.2.1 t0 [],((gd t3.2.2.1 t0 []).length:Int),0)).bind λs4=>
 if s4.2.2.2.2.2.2.2 then
 (rec (w64 (s4.1+1),s4.2.1,s4.2.2.1,s4.2.2.2.1,s4.2.2.2.2.1,())).bind λr5=>
 if !r5.2.2.2.2 then
 some (.inr (r5.1,r5.2.1,r5.2.2.1,r5.2.2.2.1,(),false))
 else
 hL rec n (s4.1,r5.1,r5.2.1,r5.2.2.1,r5.2.2.2.1,(),w64 (s4.2.2.2.2.2.2.1+1))
 else
 hL rec n (s4.1,s4.2.1,s4.2.2.1,s4.2.2.2.1,s4.2.2.2.2.1,(),w64 (s4.2.2.2.2.2.2.1+1))
 else none
 else none
 else none
 else none
 else
 some (.inl (t1,t2,t3,t4,()))
 else none
def ER {σ:Type} (cb:List Int->σ->Option (σ×Bool)) (rec:NIn σ->Option (Fh σ)) (x:NIn σ):Option (Fh σ):=
 if x.1==(x.2.1.length:Int)then
  (cb x.2.1 x.2.2.1).bind λr1=>some (x.2.1,r1.1,x.2.2.2.1,x.2.2.2.2.1,r1.2)
 else
  (hL rec Ac (x.1,x.2.1,x.2.2.1,x.2.2.2.1,x.2.2.2.2.1,(),0)).bind λs2=>
   match s2 with
   | .inl s3=>some (s3.1,s3.2.1,s3.2.2.1,s3.2.2.2.1,true)
   | .inr s4=>some (s4.1,s4.2.1,s4.2.2.1,s4.2.2.2.1,s4.2.2.2.2.2)
def hF {σ:Type} (cb:List Int->σ->Option (σ×Bool)):Nat->NIn σ->Option (Fh σ)
 |0,_=>none
 |d+1,x=>ER cb (hF cb d) x
def AL (c:Con):Nat:=c.1.foldl (λm v=>max m v.toNat) 0
def Al (cs:List Con) (v:Nat):List Con:=cs.filter λc=>AL c==v
def Aq (cs:List Con) (V:Nat):List (List (List Int)):=(List.range V).map λv=>(Al cs v).map (·.1)
def Bi (cs:List Con) (V:Nat):List (List (List ByteArray)):=(List.range V).map λv=>(Al cs v).map λc=>BR c.2.2
def okN (cs:List Con) (pre:List Int):Bool:=(Al cs (pre.length-1)).all (CI pre)
theorem Et: ∀(l:List Int) (m:Nat),m<=l.foldl (λm v=>max m v.toNat) m/\(∀v∈l,v.toNat<=l.foldl (λm v=>max m v.toNat) m)/\ ∀B,m<=B->(∀v∈l,v.toNat<=B)->l.foldl (λm v=>max m v.toNat) m<=B
 | [],m=>⟨Nat.le_refl _,by simp,λB h _=>h⟩
 |v::l,m=>by
  obtain⟨h1,h2,h3⟩:=Et l (max m v.toNat)
  simp only[List.foldl_cons]
  refine⟨by omega,λw hw=>?_,λB h h'=>h3 B (by have:=h' v (List.mem_cons_self ..);omega) λw hw=>h' w (List.mem_cons_of_mem _ hw)⟩
  rcases List.mem_cons.1 hw with rfl|hw
  ·omega
  ·exact h2 w hw
section
variable {V n:Nat} {cs:List Con} {given:List Int}
structure SrchOk (V n:Nat) (cs:List Con):Prop where
 hv:V<=9
 hn:1<=n/\n<=4
 hc:cs.length<=40
 con: ∀c∈cs,ConOk (V:Int) (n:Int) c
theorem Dg {c:Con} {v:Nat}:c∈Al cs v↔c∈cs/\AL c=v:=by simp[Al]
theorem CH (h:SrchOk V n cs) {v:Nat} {c:Con} (hc:c∈Al cs v):ConOk ((v+1:Nat):Int) (n:Int) c/\v<V:=by
 obtain⟨h1,h2⟩:=Dg.1 hc
 have hk:=h.con c h1
 obtain⟨_,g2,g3⟩:=Et c.1 0
 have hv:v<V:=by
  have hm:=hk.ar
  have hsl:=hk.sl
  have h0:=hk.sv 0 (by omega)
  have:=g3 (V-1) (by omega) λw hw=>by
   obtain⟨i,hi,rfl⟩:=List.mem_iff_getElem.1 hw
   have:=hk.sv i hi
   omega
  have:AL c<=V-1:=this
  omega
 refine⟨⟨hk.ar,hk.sl,λi hi=>?_,hk.tl,hk.tv,hk.inc,hk.many⟩,hv⟩
 have h3:=hk.sv i hi
 have h4:=g2 _ (List.getElem_mem hi)
 have h4:(c.1[i]).toNat<=AL c:=h4
 omega
theorem DX (h:SrchOk V n cs) {v:Nat} {c:Con} (hc:c∈Al cs v) (tab:List Int):CI (tab.take (v+1)) c=CI tab c:=by
 have hk:=(CH h hc).1
 unfold CI
 have:c.1.map (BL (tab.take (v+1)))=c.1.map (BL tab):=List.map_congr_left λx hx=>by
  obtain⟨i,hi,rfl⟩:=List.mem_iff_getElem.1 hx
  have:=hk.sv i hi
  unfold BL
  rw[List.getD_eq_getElem?_getD,List.getD_eq_getElem?_getD,List.getElem?_take,if_pos (by omega)]
 rw[this]
theorem FG (h:SrchOk V n cs) {v:Nat} {tab:List Int} (hv:v<tab.length):okN cs (tab.take (v+1))=(Al cs v).all (CI tab):=by
 unfold okN
 rw[List.length_take,show min (v+1) tab.length-1=v by omega,Bool.eq_iff_iff,List.all_eq_true,List.all_eq_true]
 exact⟨λg c hc=>by rw[←DX h hc];exact g c hc,λg c hc=>by rw[DX h hc];exact g c hc⟩
theorem CM {v:Nat} (hv:v<V):(Aq cs V).length=V/\(Aq cs V).getD v []=(Al cs v).map (·.1):=by
 refine⟨by simp[Aq],?_⟩
 rw[Ax (by simp[Aq];exact hv)];simp[Aq]
theorem D6 {v:Nat} (hv:v<V):(Bi cs V).length=V/\(Bi cs V).getD v []=(Al cs v).map λc=>BR c.2.2:=by
 refine⟨by simp[Bi],?_⟩
 rw[Ax (by simp[Bi];exact hv)];simp[Bi]
theorem GD (h:SrchOk V n cs) {v:Nat} (hv:v<V) {tab:List Int} (ht:tab.length=V) (htv: ∀x∈tab,0<=x/\x<256) {σ:Type} (s:σ) (x:Int):
  hM Ac ((v:Int),tab,s,(true,((n:Int),(Aq cs V,Bi cs V))),given,(),x,true,gd (Aq cs V) (v:Int) [],((gd (Aq cs V) (v:Int) []).length:Int),0)=
   some ((v:Int),tab,s,(true,((n:Int),(Aq cs V,Bi cs V))),given,(),x,okN cs (tab.take (v+1))):=by
 obtain⟨l1,e1⟩:=CM (cs:=cs) hv
 obtain⟨l2,e2⟩:=D6 (cs:=cs) hv
 have hn:=h.hn
 have hg1:gd (Aq cs V) (v:Int) []=(Al cs v).map (·.1):=e1
 have hg2:gd (Bi cs V) (v:Int) []=(Al cs v).map λc=>BR c.2.2:=e2
 rw[FG h (by omega),hg1]
 have hlen:(Al cs v).length<=40:=Nat.le_trans (List.length_filter_le _ _) h.hc
 have:=C5 (Al cs v).length (λf (o:Bool) i=>hM f ((v:Int),tab,s,(true,((n:Int),(Aq cs V,Bi cs V))),given,(),x,o,(Al cs v).map (·.1),(((Al cs v).map (·.1)).length:Int),i)) (λk=>((Al cs v).take k).all (CI tab)) (r:=some ((v:Int),tab,s,(true,((n:Int),(Aq cs V,Bi cs V))),given,(),x,(Al cs v).all (CI tab))) (λf k hk=>?_) (λf=>?_) (n:=Ac) (by unfold Ac;omega)
 ·exact this
 ·have hmem:=List.getElem_mem hk
  have hcon:=(CH h hmem).1
  have hsl:=hcon.sl
  have har:=hcon.ar
  have hmany:=hcon.many
  have hin:inb (k:Int) ((Al cs v).map (·.1)):=by unfold inb;rw[List.length_map];omega
  have hgk:gd ((Al cs v).map (·.1)) (k:Int) []=(Al cs v)[k].1:=by
   have:=Ai (xs:=(Al cs v).map (·.1)) (d:= []) (k:=k) (by simpa using hk)
   rw[this];simp
  have hin2:inb (k:Int) ((Al cs v).map λc=>BR c.2.2):=by unfold inb;rw[List.length_map];omega
  have hgk2:gd ((Al cs v).map λc=>BR c.2.2) (k:Int) []=BR (Al cs v)[k].2.2:=by
   have:=Ai (xs:=(Al cs v).map λc=>BR c.2.2) (d:= []) (k:=k) (by simpa using hk)
   rw[this];simp
  have hsc: ∀y∈(Al cs v)[k].1,0<=y/\y<tab.length:=λy hy=>by
   obtain⟨i,hi,rfl⟩:=List.mem_iff_getElem.1 hy
   have:=hcon.sv i hi
   omega
  have hc:=CD (f:=(Al cs v)[k].1) (g:=tab) (by omega) hsc
  have hval: ∀y∈(Al cs v)[k].1.map (BL tab),0<=y/\y<256:=λy hy=>by
   obtain⟨z,hz,rfl⟩:=List.mem_map.1 hy
   have:=hsc z hz
   exact htv _ (DB (by omega))
  have hk2:=Co (l:=(Al cs v)[k].1.map (BL tab)) (by rw[List.length_map];omega) hval
  have hmk:=D4 (l:=(Al cs v)[k].2.2) (t:=(Al cs v)[k].1.map (BL tab)) (λt ht y hy=>by
   obtain⟨i,hi,rfl⟩:=List.mem_iff_getElem.1 hy
   have:=hcon.tv t ht i hi
   omega) hval
  have hiv:inb (v:Int) (Bi cs V):=by unfold inb;omega
  have htk:((Al cs v).take (k+1)).all (CI tab)=(((Al cs v).take k).all (CI tab)&&CI tab (Al cs v)[k]):=by
   rw[List.take_succ_eq_append_getElem hk,List.all_append];simp
  simp only[hM,hin,hgk,hc,hk2,hiv,hg2,hin2,hgk2,hmk,Option.bind_some,Ae (show k<4611686018427387904 by omega),htk,if_true]
  rw[if_pos (by simp;omega)]
  cases ((Al cs v).take k).all (CI tab)with
  |false=>simp
  |true=>simp[CI]
 ·simp only[hM,List.take_length]
  rw[if_neg (by simp)]
end
end T
open Go Go.Va
namespace T
section
variable {V n:Nat} {cs:List Con} {given:List Int}
abbrev Dl (V n:Nat) (cs:List Con):NS:=(true,((n:Int),(Aq cs V,Bi cs V)))
theorem GC (h:SrchOk V n cs) (hg:given.length=V) {σ:Type} (cb:List Int->σ->Option (σ×Bool)): ∀(m d at':Nat) (tab:List Int) (s:σ),at'+m=V->m<d->tab.length=V->(∀x∈tab,0<=x/\x<256)->
    ∀s' b,AZ cb (BY n given (okN cs) m (tab.take at')) s=some (s',b)->
    ∃tab':List Int,tab'.length=V/\(∀x∈tab',0<=x/\x<256)/\tab'.take at'=tab.take at'/\hF cb d ((at':Int),tab,s,Dl V n cs,given,())=some (tab',s',Dl V n cs,given,b):=by
  have hn:=h.hn
  have hV:=h.hv
  intro m
  induction m with
  |zero=>
    intro d a tab s ha hd ht hv s' b hf
    obtain⟨d,rfl⟩: ∃z,d=z+1:=⟨d-1,by omega⟩
    have e:tab.take a=tab:=List.take_of_length_le (by omega)
    rw[e]at hf
    simp only[BY,AZ]at hf
    refine⟨tab,ht,hv,rfl,?_⟩
    simp only[hF,ER]
    rw[if_pos (by simp;omega)]
    cases hc:cb tab s with
    |none=>rw[hc]at hf;exact absurd hf (by simp)
    |some q=>
      obtain⟨s1,b1⟩:=q
      rw[hc]at hf
      have:s1=s'/\b1=b:=by cases b1<;>simpa using hf
      obtain⟨rfl,rfl⟩:=this
      rfl
  |succ m ih=>
    intro d a tab s ha hd ht hv s' b hf
    obtain⟨d,rfl⟩: ∃z,d=z+1:=⟨d-1,by omega⟩
    have hat:a<V:=by omega
    have key: ∀(c x f:Nat) (tab1:List Int) (s1:σ),x+c=n->c<f->tab1.length=V->(∀x∈tab1,0<=x/\x<256)->tab1.take a=tab.take a-> ∀s' b,
        AZ cb ((List.range' x c).flatMap λx=>if Ck given (tab.take a).length x&&okN cs (tab.take a++ [(x:Int)])then BY n given (okN cs) m (tab.take a++ [(x:Int)])else []) s1=some (s',b)->
        ∃tab':List Int,tab'.length=V/\(∀x∈tab',0<=x/\x<256)/\tab'.take a=tab.take a/\hL (hF cb d) f ((a:Int),tab1,s1,Dl V n cs,given,(),(x:Int))=some (if b then .inl (tab',s',Dl V n cs,given,())else .inr (tab',s',Dl V n cs,given,(),false)):=by
      intro c
      induction c with
      |zero=>
        intro x f tab1 s1 hx hf1 ht1 hv1 htk s' b hf2
        obtain⟨f,rfl⟩: ∃z,f=z+1:=⟨f-1,by omega⟩
        have:s1=s'/\true=b:=by simpa[AZ]using hf2
        obtain⟨rfl,rfl⟩:=this
        refine⟨tab1,ht1,hv1,htk,?_⟩
        simp only[hL]
        rw[if_pos trivial,if_neg (by simp;omega)];rfl
      |succ c ihc=>
        intro x f tab1 s1 hx hf1 ht1 hv1 htk s' b hf2
        obtain⟨f,rfl⟩: ∃z,f=z+1:=⟨f-1,by omega⟩
        have hlen:(tab.take a).length=a:=by rw[List.length_take];omega
        have hag:a<given.length:=by omega
        have hat1:a<tab1.length:=by omega
        have hsc:a<(Aq cs V).length:=by rw[(CM (cs:=cs) hat).1];exact hat
        rw[List.range'_succ,List.flatMap_cons,Cs,hlen]at hf2
        rw[hlen]at ihc
        have hset:(tab1.set a (x:Int)).take (a+1)=tab.take a++ [(x:Int)]:=by
          rw[List.take_succ_eq_append_getElem (by simp;omega),List.take_set_of_le (Nat.le_refl _),List.getElem_set_self,htk]
        have hsl:(tab1.set a (x:Int)).length=V:=by simp[ht1]
        have hsv: ∀y∈tab1.set a (x:Int),0<=y/\y<256:=λy hy=>by
          rcases List.mem_or_eq_of_mem_set hy with h1|h1
          · exact hv1 y h1
          · subst h1;omega
        have hst:(tab1.set a (x:Int)).take a=tab.take a:=by rw[List.take_set_of_le (Nat.le_refl _),htk]
        have hfit:=GD (given:=given) h hat hsl hsv s1 (x:Int)
        rw[hset]at hfit
        have hw:w64 ((x:Int)+1)=((x+1:Nat):Int):=Ae (by omega)
        have hwa:w64 ((a:Int)+1)=((a+1:Nat):Int):=Ae (by omega)
        have step : Ck given a x = true → ∀ R, R = (hM Ac ((a : Int), tab1.set a (x : Int), s1, Dl V n cs, given, (), (x : Int), true, gd (Aq cs V) (a : Int) [], ((gd (Aq cs V) (a : Int) []).length : Int), 0)).bind (fun s4 =>
                if s4.2.2.2.2.2.2.2 then
                  (hF cb d (w64 (s4.1+1),s4.2.1,s4.2.2.1,s4.2.2.2.1,s4.2.2.2.2.1,())).bind λr5=>
                    if !r5.2.2.2.2 then
                      some (.inr (r5.1,r5.2.1,r5.2.2.1,r5.2.2.2.1,(),false))
                    else
                      hL (hF cb d) f (s4.1,r5.1,r5.2.1,r5.2.2.1,r5.2.2.2.1,(),w64 (s4.2.2.2.2.2.2.1+1))
                else
                  hL (hF cb d) f (s4.1,s4.2.1,s4.2.2.1,s4.2.2.2.1,s4.2.2.2.2.1,(),w64 (s4.2.2.2.2.2.2.1+1)))->
            ∃tab':List Int,tab'.length=V/\(∀x∈tab',0<=x/\x<256)/\tab'.take a=tab.take a/\R=some (if b then .inl (tab',s',Dl V n cs,given,())else .inr (tab',s',Dl V n cs,given,(),false)):=by
          intro hm R hR
          rw[hfit]at hR
          simp only[Option.bind_some]at hR
          rw[hm]at hf2
          cases hfi:okN cs (tab.take a++ [(x:Int)])with
          |false=>
            rw[hfi]at hf2 hR
            simp only[Bool.and_false,Bool.false_eq_true,if_false,AZ]at hf2 hR
            rw[hw]at hR
            rw[hR]
            exact ihc (x+1) f _ s1 (by omega) (by omega) hsl hsv hst s' b hf2
          |true=>
            rw[hfi]at hf2 hR
            simp only[Bool.and_true,if_true]at hf2 hR
            rw[hwa]at hR
            cases hq:AZ cb (BY n given (okN cs) m (tab.take a++ [(x:Int)])) s1 with
            |none=>rw[hq]at hf2;exact absurd hf2 (by simp)
            |some q=>
              obtain⟨s2,b2⟩:=q
              rw[hq]at hf2
              rw[←hset]at hq
              obtain⟨tab2,h1,h2,h3,h4⟩:=ih d (a+1) _ s1 (by omega) (by omega) hsl hsv s2 b2 hq
              have h3':tab2.take a=tab.take a:=by
                have:=congrArg (List.take a) h3
                rw[List.take_take,List.take_take,Nat.min_eq_left (by omega)]at this
                rw[this,hst]
              rw[h4]at hR
              simp only[Option.bind_some]at hR
              cases b2 with
              |false=>
                have:s2=s'/\false=b:=by simpa using hf2
                obtain⟨rfl,rfl⟩:=this
                refine⟨tab2,h1,h2,h3',?_⟩
                rw[hR];rfl
              |true=>
                simp only[Bool.not_true,Bool.false_eq_true,if_false,hw]at hR
                rw[hR]
                exact ihc (x+1) f tab2 s2 (by omega) (by omega) h1 h2 h3' s' b hf2
        simp only[hL,BE,Af,hag,hat1,hsc,if_true]
        rw[if_pos (by simp;omega)]
        by_cases hc1:gd given (a:Int) 0≥0
        · rw[if_pos (decide_eq_true hc1)]
          by_cases hc2:gd given (a:Int) 0=(x:Int)
          · rw[if_neg (by simpa using hc2)]
            exact step (by unfold Ck;rw[show given.getD a 0=(x:Int) from hc2];simp) _ rfl
          · rw[if_pos (by simpa using hc2),hw]
            have hm:Ck given a x=false:=by
              unfold Ck
              rw[decide_eq_true (show given.getD a 0≥0 from hc1)]
              simp only[Bool.true_and,Bool.not_eq_false',bne_iff_ne];exact hc2
            rw[hm]at hf2
            simp only[Bool.false_and,Bool.false_eq_true,if_false,AZ]at hf2
            exact ihc (x+1) f tab1 s1 (by omega) (by omega) ht1 hv1 htk s' b hf2
        · rw[if_neg (by simpa using hc1)]
          exact step (by unfold Ck;rw[decide_eq_false (show¬given.getD a 0≥0 from hc1)];rfl) _ rfl
    simp only[BY]at hf
    rw[List.range_eq_range']at hf
    obtain⟨tab',h1,h2,h3,h4⟩:=key n 0 Ac tab s (by omega) (by unfold Ac;omega) ht hv rfl s' b hf
    refine⟨tab',h1,h2,h3,?_⟩
    simp only[hF,ER]
    rw[if_neg (by simp;omega)]
    have h4:hL (hF cb d) Ac ((a:Int),tab,s,Dl V n cs,given,(),0)=_:=h4
    rw[h4]
    cases b<;>rfl
def BU (V n:Nat) (cs:List Con) (given:List Int):List (List Int):=BY n given (okN cs) V []
theorem F6 {a b:Nat} {x:Int} (hx:x=(b:Int)):Yiv (a:Int) x=((max a b:Nat):Int):=by
 subst hx;unfold Yiv;split<;>omega
theorem Fa (h:SrchOk V n cs):BP ((V:Int),((n:Int),cs))=some (Dl V n cs):=by
 have hV:=h.hv
 have hc:=h.hc
 unfold BP
 have h3:=C5 cs.length (λf (o:Int×(List (List (List Int))×List (List (List ByteArray)))) i=>Au f (o,cs,(cs.length:Int),i)) (λk=>((n:Int),(Aq (cs.take k) V,Bi (cs.take k) V))) (r:=some ((n:Int),(Aq cs V,Bi cs V))) (λf k hk=>?_) (λf=>?_) (n:=Ac) (by unfold Ac;omega)
 ·have e1:Aq (cs.take 0) V=List.replicate V []:=by
   unfold Aq Al;simp[List.map_const']
  have e2:Bi (cs.take 0) V=List.replicate V []:=by
   unfold Bi Al;simp[List.map_const']
  rw[e1,e2]at h3
  have h3:Au Ac (((n:Int),(List.replicate (Int.toNat (V:Int)) ([]:List (List Int)),List.replicate (Int.toNat (V:Int)) ([]:List (List ByteArray)))),cs,(cs.length:Int),0)=_:=h3
  rw[if_pos (by unfold lim;omega),if_pos (by unfold lim;omega),h3];rfl
 ·have hcon:=h.con _ (List.getElem_mem hk)
  have hsl:=hcon.sl
  have har:=hcon.ar
  have hmany:=hcon.many
  have h7:=C5 cs[k].1.length (λf (o:Int) i=>Av f (((n:Int),(Aq (cs.take k) V,Bi (cs.take k) V)),cs[k],o,cs,(cs.length:Int),(k:Int),cs[k].1,(cs[k].1.length:Int),i)) (λj=>(((cs[k].1.take j).foldl (λm v=>max m v.toNat) 0:Nat):Int)) (r:=some (((n:Int),(Aq (cs.take k) V,Bi (cs.take k) V)),cs[k],(AL cs[k]:Int),cs,(cs.length:Int),(k:Int))) (λf j hj=>?_) (λf=>?_) (n:=Ac) (by unfold Ac;omega)
  ·have hm:AL cs[k]<V:=(CH h (Dg.2 ⟨List.getElem_mem hk,rfl⟩)).2
   have h7:Av Ac (((n:Int),(Aq (cs.take k) V,Bi (cs.take k) V)),(cs[k].1,(cs[k].2.1,cs[k].2.2)),0,cs,(cs.length:Int),(k:Int),cs[k].1,(cs[k].1.length:Int),0)=_:=h7
   obtain⟨l1,e1⟩:=CM (cs:=cs.take k) hm
   obtain⟨l2,e2⟩:=D6 (cs:=cs.take k) hm
   have hi1:inb (AL cs[k]:Int) (Aq (cs.take k) V):=by unfold inb;omega
   have hi2:inb (AL cs[k]:Int) (Bi (cs.take k) V):=by unfold inb;omega
   have g1:gd (Aq (cs.take k) V) (AL cs[k]:Int) []=(Al (cs.take k) (AL cs[k])).map (·.1):=e1
   have g2:gd (Bi (cs.take k) V) (AL cs[k]:Int) []=(Al (cs.take k) (AL cs[k])).map λc=>BR c.2.2:=e2
   have hts:=De (r:=(cs[k].2.1,cs[k].2.2)) (show cs[k].2.2.length<=1048576 by omega) (λt ht=>⟨by have:=hcon.tl t ht;omega,λy hy=>by
    obtain⟨i,hi,rfl⟩:=List.mem_iff_getElem.1 hy
    have:=hcon.tv t ht i hi
    have:=h.hn
    omega⟩)
   have hcl:(Al (cs.take k) (AL cs[k])).length<=40:=Nat.le_trans (List.length_filter_le _ _) (by rw[List.length_take];omega)
   have hca: ∀v,Al (cs.take (k+1)) v=Al (cs.take k) v++(if AL cs[k]=v then [cs[k]]else []):=λv=>by
    unfold Al
    rw[List.take_succ_eq_append_getElem hk,List.filter_append]
    congr 1
    by_cases e:AL cs[k]=v<;>simp[e]
   have s1:(Aq (cs.take k) V).set (AL cs[k]) ((Al (cs.take k) (AL cs[k])).map (·.1)++ [cs[k].1])=Aq (cs.take (k+1)) V:=by
    apply List.ext_getElem
    ·simp[Aq]
    ·intro v h1 h2
     rw[List.getElem_set]
     simp only[Aq,List.getElem_map,List.getElem_range,hca,List.map_append]
     by_cases e:AL cs[k]=v
     ·rw[if_pos e,if_pos e,←e];rfl
     ·rw[if_neg e,if_neg e];simp
   have s2:(Bi (cs.take k) V).set (AL cs[k]) ((Al (cs.take k) (AL cs[k])).map (λc=>BR c.2.2)++ [BR cs[k].2.2])=Bi (cs.take (k+1)) V:=by
    apply List.ext_getElem
    ·simp[Bi]
    ·intro v h1 h2
     rw[List.getElem_set]
     simp only[Bi,List.getElem_map,List.getElem_range,hca,List.map_append]
     by_cases e:AL cs[k]=v
     ·rw[if_pos e,if_pos e,←e];rfl
     ·rw[if_neg e,if_neg e];simp
   simp only[Au,Af,hk,Ai hk,h7,Option.bind_some,if_true,Af.1 hi1,Af.1 hi2,g1,g2,hts,BE,s1,s2,Ae (show k<4611686018427387904 by omega)]
   rw[if_pos (by simp;omega),if_pos (by simp;unfold lim;omega),if_pos (by simp;unfold lim;omega)]
  ·have hj':=hcon.sv j hj
   have e:=F6 (a:=(cs[k].1.take j).foldl (λm v=>max m v.toNat) 0) (b:=(cs[k].1[j]).toNat) (x:=cs[k].1[j]) (by omega)
   have e2:(cs[k].1.take (j+1)).foldl (λm v=>max m v.toNat) 0=max ((cs[k].1.take j).foldl (λm v=>max m v.toNat) 0) (cs[k].1[j]).toNat:=by
    rw[List.take_succ_eq_append_getElem hj,List.foldl_append];rfl
   simp only[Av,Af,hj,Ai hj,e,e2,if_true,Ae (show j<4611686018427387904 by omega)]
   rw[if_pos (by simp;omega)]
  ·simp only[Av,List.take_length]
   rw[if_neg (by simp)];rfl
 ·simp only[Au,List.take_length]
  rw[if_neg (by simp)]
end
end T
open Go Go.Va
namespace T
abbrev S19:=List (List Int)×Int×Int×Bool
def Cr (s:S19):Bool:=s.2.2.2&&decide (s.2.1>0)
def Ez (t:List Int) (s:S19):Option (S19×Bool):=
 let s':S19:=(if decide ((s.1.length:Int)<s.2.2.1)then s.1++ [t]else s.1,s.2.1+1,s.2.2.1,s.2.2.2)
 some (s',!Cr s')
theorem D0: ∀(l:List (List Int)) (s s':S19) (b:Bool),AZ Ez l s=some (s',b)->s.2.1<=s'.2.1/\s'.2.1<=s.2.1+l.length/\s'.1.length<=s.1.length+l.length/\s'.2.2=s.2.2/\(Cr s=false->b=!Cr s')
 | [],s,s',b,h=>by
  have:s=s'/\true=b:=by simpa[AZ]using h
  obtain⟨rfl,rfl⟩:=this
  exact⟨by omega,by simp,by simp,rfl,λh=>by simp[h]⟩
 |t::l,s,s',b,h=>by
  simp only[AZ,Ez]at h
  generalize hs1:((if decide ((s.1.length:Int)<s.2.2.1)then s.1++ [t]else s.1,s.2.1+1,s.2.2.1,s.2.2.2):S19)=s1 at h
  have h1:s1.2.1=s.2.1+1:=by rw[←hs1]
  have h2:s1.1.length<=s.1.length+1:=by
   rw[←hs1]
   show(if decide ((s.1.length:Int)<s.2.2.1)then s.1++ [t]else s.1).length<=_
   split<;>simp
  have h3:s1.2.2=s.2.2:=by rw[←hs1]
  cases hb:Cr s1 with
  |true=>
   rw[hb]at h
   have:s1=s'/\false=b:=by simpa using h
   obtain⟨rfl,rfl⟩:=this
   rw[List.length_cons]
   exact⟨by omega,by omega,by omega,h3,λ_=>by rw[hb];rfl⟩
  |false=>
   rw[hb]at h
   obtain⟨g1,g2,g3,g4,g5⟩:=D0 l s1 s' b h
   rw[List.length_cons]
   exact⟨by omega,by push_cast;omega,by omega,g4.trans h3,λ_=>g5 hb⟩
theorem D1: ∀(l:List (List Int)) (s:S19),∃q,AZ Ez l s=some q
 | [],s=>⟨_,rfl⟩
 |t::l,s=>by
  simp only[AZ,Ez]
  generalize ((if decide ((s.1.length:Int)<s.2.2.1)then s.1++ [t]else s.1,s.2.1+1,s.2.2.1,s.2.2.2):S19)=s1
  cases hb:Cr s1 with
  |true=>exact⟨_,rfl⟩
  |false=>exact D1 l s1
section
variable {V n:Nat} {cs:List Con} {given:List Int}
def atN (cs:List Con) (V:Nat):List (List Con):=(List.range V).map (Al cs)
theorem EN {v:Nat} (hv:v<V):(atN cs V).length=V/\(atN cs V).getD v []=Al cs v:=by
 refine⟨by simp[atN],?_⟩
 rw[Ax (by simp[atN];exact hv)];simp[atN]
theorem F8 (h:SrchOk V n cs):CB (V:Int) cs=some (atN cs V):=by
 have hV:=h.hv
 have hc:=h.hc
 unfold CB
 rw[if_pos (by unfold lim;omega)]
 have h3:=C5 cs.length (λf (o:List (List Con)) i=>AS f (cs,o,i)) (λk=>atN (cs.take k) V) (r:=some (atN cs V)) (λf k hk=>?_) (λf=>?_) (n:=Ac) (by unfold Ac;omega)
 ·have e1:atN (cs.take 0) V=List.replicate V []:=by
   unfold atN
   have:Al (cs.take 0)=λ_=> []:=by funext v;simp[Al]
   rw[this];simp[List.map_const']
  rw[e1]at h3
  have h3:AS Ac (cs,List.replicate (Int.toNat (V:Int)) ([]:List Con),0)=_:=h3
  rw[h3];rfl
 ·have hcon:=h.con _ (List.getElem_mem hk)
  have hsl:=hcon.sl
  have har:=hcon.ar
  have h7:=C5 cs[k].1.length (λf (o:Int) i=>AT f (cs,atN (cs.take k) V,(k:Int),o,i)) (λj=>(((cs[k].1.take j).foldl (λm v=>max m v.toNat) 0:Nat):Int)) (r:=some (cs,atN (cs.take k) V,(k:Int),(AL cs[k]:Int))) (λf j hj=>?_) (λf=>?_) (n:=Ac) (by unfold Ac;omega)
  ·have hm:AL cs[k]<V:=(CH h (Dg.2 ⟨List.getElem_mem hk,rfl⟩)).2
   have h7:AT Ac (cs,atN (cs.take k) V,(k:Int),0,0)=_:=h7
   obtain⟨l1,e1⟩:=EN (cs:=cs.take k) hm
   have hi1:inb (AL cs[k]:Int) (atN (cs.take k) V):=by unfold inb;omega
   have g1:gd (atN (cs.take k) V) (AL cs[k]:Int) []=Al (cs.take k) (AL cs[k]):=e1
   have hcl:(Al (cs.take k) (AL cs[k])).length<=40:=Nat.le_trans (List.length_filter_le _ _) (by rw[List.length_take];omega)
   have hca: ∀v,Al (cs.take (k+1)) v=Al (cs.take k) v++(if AL cs[k]=v then [cs[k]]else []):=λv=>by
    unfold Al
    rw[List.take_succ_eq_append_getElem hk,List.filter_append]
    congr 1
    by_cases e:AL cs[k]=v<;>simp[e]
   have s1:(atN (cs.take k) V).set (AL cs[k]) (Al (cs.take k) (AL cs[k])++ [cs[k]])=atN (cs.take (k+1)) V:=by
    apply List.ext_getElem
    ·simp[atN]
    ·intro v h1 h2
     rw[List.getElem_set]
     simp only[atN,List.getElem_map,List.getElem_range,hca]
     by_cases e:AL cs[k]=v
     ·rw[if_pos e,if_pos e,←e]
     ·rw[if_neg e,if_neg e];simp
   simp only[AS,Af,hk,Ai hk,h7,Option.bind_some,if_true,Af.1 hi1,g1,BE,s1,Ae (show k<4611686018427387904 by omega)]
   rw[if_pos (by simp;omega),if_pos (by simp;unfold lim;omega)]
  ·have hj':=hcon.sv j hj
   have hjx:cs[k].1[j]=(((cs[k].1[j]).toNat:Nat):Int):=by omega
   have e2:(cs[k].1.take (j+1)).foldl (λm v=>max m v.toNat) 0=max ((cs[k].1.take j).foldl (λm v=>max m v.toNat) 0) (cs[k].1[j]).toNat:=by
    rw[List.take_succ_eq_append_getElem hj,List.foldl_append];rfl
   have e:Cn (((cs[k].1.take j).foldl (λm v=>max m v.toNat) 0:Nat):Int) cs[k].1[j]=some ((max ((cs[k].1.take j).foldl (λm v=>max m v.toNat) 0) (cs[k].1[j]).toNat:Nat):Int):=by
    rw[hjx];exact Dp _ _
   simp only[AT,Af,hk,Ai hk,hj,Ai hj,e,e2,if_true,Option.bind_some,Ae (show j<4611686018427387904 by omega)]
   rw[if_pos (by simp;omega)]
  ·simp only[AT,Af,hk,Ai hk,List.take_length,if_true]
   rw[if_neg (by simp)];rfl
 ·simp only[AS,List.take_length]
  rw[if_neg (by simp)]
theorem F5 (h:SrchOk V n cs) (rec:Int×List (List Con)×List Int×List Int×S19->Option S19) {v:Nat} (hv:v<V) {next:List Int} (hl:next.length=v+1) {pre:List Int} {s s0:S19} {x:Int}:
  Am rec Ac ((n:Int),atN cs V,given,pre,s,s0,(v:Int),x,next,true,0)=some ((n:Int),atN cs V,given,pre,s,s0,(v:Int),x,next,okN cs next):=by
 obtain⟨l1,e1⟩:=EN (cs:=cs) hv
 have hiv:inb (v:Int) (atN cs V):=by unfold inb;omega
 have hg:gd (atN cs V) (v:Int) []=Al cs v:=e1
 have hcl:(Al cs v).length<=40:=Nat.le_trans (List.length_filter_le _ _) h.hc
 have key: ∀(d k f:Nat) (g:Bool),k+d=(Al cs v).length->d<f->Am rec f ((n:Int),atN cs V,given,pre,s,s0,(v:Int),x,next,g,(k:Int))=some ((n:Int),atN cs V,given,pre,s,s0,(v:Int),x,next,g&&((Al cs v).drop k).all (CI next)):=by
  intro d
  induction d with
  |zero=>
   intro k f g hk hf
   obtain⟨f,rfl⟩: ∃z,f=z+1:=⟨f-1,by omega⟩
   have:k=(Al cs v).length:=by omega
   subst this
   simp only[Am,hiv,hg,if_true,List.drop_length]
   rw[if_neg (by simp)];simp
  |succ d ih=>
   intro k f g hk hf
   obtain⟨f,rfl⟩: ∃z,f=z+1:=⟨f-1,by omega⟩
   have hkl:k<(Al cs v).length:=by omega
   simp only[Am,hiv,hg,if_true]
   rw[if_pos (by simp;omega)]
   cases g with
   |false=>simp
   |true=>
    have hcon:=(CH h (List.getElem_mem hkl)).1
    have hs:=CO hcon (vs:=next) (by omega)
    rw[List.drop_eq_getElem_cons hkl,List.all_cons]
    simp only[if_true,Af,hkl,Ai hkl,hs,Option.bind_some,Ae (show k<4611686018427387904 by omega)]
    rw[ih (k+1) f _ (by omega) (by omega),Bool.true_and]
 have:=key (Al cs v).length 0 Ac true (by omega) (by unfold Ac;omega)
 have e2:okN cs next=(Al cs v).all (CI next):=by unfold okN;rw[hl];rfl
 rw[e2]
 simpa using this
theorem F4 (h:SrchOk V n cs) (hg:given.length=V): ∀(m d:Nat) (pre:List Int) (s:S19),pre.length+m=V->m<d->Cr s=false->0<=s.2.1->s.2.2.1<=1000000->s.2.1+(BY n given (okN cs) m pre).length<=4611686018427387904->
    ∀s' b,AZ Ez (BY n given (okN cs) m pre) s=some (s',b)->Aj d ((n:Int),atN cs V,given,pre,s)=some s':=by
  have hn:=h.hn
  have hV:=h.hv
  intro m
  induction m with
  |zero=>
    intro d pre s hpre hd hst h0 hr1 hr2 s' b hf
    obtain⟨d,rfl⟩: ∃z,d=z+1:=⟨d-1,by omega⟩
    have hlN:(atN cs V).length=V:=by simp[atN]
    simp only[BY,AZ,Ez]at hf
    simp only[Aj,B5]
    simp only[BY,List.length_singleton]at hr2
    have hs':s'=(if decide ((s.1.length:Int)<s.2.2.1)then s.1++ [pre]else s.1,s.2.1+1,s.2.2.1,s.2.2.2):=by
      cases hb:Cr ((if decide ((s.1.length:Int)<s.2.2.1)then s.1++ [pre]else s.1,s.2.1+1,s.2.2.1,s.2.2.2):S19)<;>rw[hb]at hf<;>simp at hf<;>rw[←hf.1]<;>simp
    have hw:w64 (s.2.1+1)=s.2.1+1:=AO (by omega) (by omega)
    rw[if_pos (by simp;omega),hs',hw,CY (by omega)]
    by_cases hc:(s.1.length:Int)<s.2.2.1
    · rw[if_pos (decide_eq_true hc),if_pos (decide_eq_true hc)]
      simp only[Option.bind_some]
      rw[if_pos (by rw[List.length_singleton];unfold lim;omega)]
    · rw[if_neg (by simpa using hc),if_neg (by simpa using hc)]
  |succ m ih=>
    intro d pre s hpre hd hst h0 hr1 hr2 s' b hf
    obtain⟨d,rfl⟩: ∃z,d=z+1:=⟨d-1,by omega⟩
    have hat:pre.length<V:=by omega
    have key: ∀(c x f:Nat) (s1:S19),x+c=n->c<f->Cr s1=false->0<=s1.2.1->
        s1.2.2.1<=1000000->
        s1.2.1+((List.range' x c).flatMap λx=>if Ck given pre.length x&&okN cs (pre++ [(x:Int)])then BY n given (okN cs) m (pre++ [(x:Int)])else []).length<=4611686018427387904-> ∀s' b,
        AZ Ez ((List.range' x c).flatMap λx=>if Ck given pre.length x&&okN cs (pre++ [(x:Int)])then BY n given (okN cs) m (pre++ [(x:Int)])else []) s1=some (s',b)->
        Ad (Aj d) f ((n:Int),atN cs V,given,pre,s1,([],(0,(0,false))),(pre.length:Int),(x:Int))=some (s',([],(0,(0,false)))):=by
      intro c
      induction c with
      |zero=>
        intro x f s1 hx hf1 hst1 h01 hr1 hr2 s' b hf2
        obtain⟨f,rfl⟩: ∃z,f=z+1:=⟨f-1,by omega⟩
        have:s1=s'/\true=b:=by simpa[AZ]using hf2
        obtain⟨rfl,rfl⟩:=this
        simp only[Ad]
        rw[if_neg (by simp;omega)]
      |succ c ihc=>
        intro x f s1 hx hf1 hst1 h01 hr1 hr2 s' b hf2
        obtain⟨f,rfl⟩: ∃z,f=z+1:=⟨f-1,by omega⟩
        have hag:pre.length<given.length:=by omega
        rw[List.range'_succ,List.flatMap_cons,Cs]at hf2
        rw[List.range'_succ,List.flatMap_cons,List.length_append]at hr2
        have hol:=F5 (given:=given) (pre:=pre) (s:=s1) (s0:=([],(0,(0,false)))) (x:=(x:Int)) h (Aj d) hat (next:=pre++ [(x:Int)]) (by simp)
        have hw:w64 ((x:Int)+1)=((x+1:Nat):Int):=Ae (by omega)
        have hover: ∀(z:S19) (f' y:Nat),0<f'->Cr z=true->Ad (Aj d) f' ((n:Int),atN cs V,given,pre,z,([],(0,(0,false))),(pre.length:Int),(y:Int))=some (z,([],(0,(0,false)))):=λz f' y hf' hz=>by
          obtain⟨f',rfl⟩: ∃q,f'=q+1:=⟨f'-1,by omega⟩
          unfold Cr at hz
          rw[Bool.and_eq_true]at hz
          simp only[Ad,hz.1,hz.2,if_true,Bool.not_true,Bool.false_eq_true,if_false]
          split<;>(obtain⟨z1,z2,z3,z4⟩:=z;dsimp only at hz⊢;rw[hz.1])
        have step : Ck given pre.length x = true → ∀ R, R = (Am (Aj d) Ac ((n : Int), atN cs V, given, pre, (s1.1, (s1.2.1, (s1.2.2.1, s1.2.2.2))), ([], (0, (0, false))), (pre.length : Int), (x : Int), pre ++ [(x : Int)], true, 0)).bind (fun s6 =>
                  if s6.2.2.2.2.2.2.2.2.2 then
                    (Aj d (s6.1,s6.2.1,s6.2.2.1,s6.2.2.2.2.2.2.2.2.1,(s6.2.2.2.2.1.1,(s6.2.2.2.2.1.2.1,(s6.2.2.2.2.1.2.2.1,s6.2.2.2.2.1.2.2.2))))).bind λr7=>
                      Ad (Aj d) f (s6.1,s6.2.1,s6.2.2.1,s6.2.2.2.1,(r7.1,(r7.2.1,(r7.2.2.1,r7.2.2.2))),(s6.2.2.2.2.2.1.1,(s6.2.2.2.2.2.1.2.1,(s6.2.2.2.2.2.1.2.2.1,s6.2.2.2.2.2.1.2.2.2))),s6.2.2.2.2.2.2.1,w64 (s6.2.2.2.2.2.2.2.1+1))
                  else
                    Ad (Aj d) f (s6.1,s6.2.1,s6.2.2.1,s6.2.2.2.1,(s6.2.2.2.2.1.1,(s6.2.2.2.2.1.2.1,(s6.2.2.2.2.1.2.2.1,s6.2.2.2.2.1.2.2.2))),(s6.2.2.2.2.2.1.1,(s6.2.2.2.2.2.1.2.1,(s6.2.2.2.2.2.1.2.2.1,s6.2.2.2.2.2.1.2.2.2))),s6.2.2.2.2.2.2.1,w64 (s6.2.2.2.2.2.2.2.1+1)))->
            R=some (s',([],(0,(0,false)))):=by
          intro hm R hR
          have hol:Am (Aj d) Ac ((n:Int),atN cs V,given,pre,(s1.1,(s1.2.1,(s1.2.2.1,s1.2.2.2))),([],(0,(0,false))),(pre.length:Int),(x:Int),pre++ [(x:Int)],true,0)=_:=hol
          rw[hol]at hR
          simp only[Option.bind_some,hw]at hR
          rw[hm]at hf2 hr2
          cases hfi:okN cs (pre++ [(x:Int)])with
          |false=>
            rw[hfi]at hf2 hr2 hR
            simp only[Bool.and_false,Bool.false_eq_true,if_false,AZ,List.length_nil,Nat.zero_add]at hf2 hr2 hR
            rw[hR]
            exact ihc (x+1) f s1 (by omega) (by omega) hst1 h01 hr1 hr2 s' b hf2
          |true=>
            rw[hfi]at hf2 hr2 hR
            simp only[Bool.and_true,if_true]at hf2 hr2 hR
            obtain⟨⟨s2,b2⟩,hq⟩:=D1 (BY n given (okN cs) m (pre++ [(x:Int)])) s1
            obtain⟨g1,g2,g3,g4,g5⟩:=D0 _ _ _ _ hq
            have g5:=g5 hst1
            rw[hq]at hf2
            have hrec:=ih d (pre++ [(x:Int)]) s1 (by simp;omega) (by omega) hst1 h01 (by omega) (by push_cast at hr2;omega) s2 b2 hq
            have hrec:Aj d ((n:Int),atN cs V,given,pre++ [(x:Int)],(s1.1,(s1.2.1,(s1.2.2.1,s1.2.2.2))))=some s2:=hrec
            rw[hrec]at hR
            simp only[Option.bind_some]at hR
            cases hb2:Cr s2 with
            |true=>
              rw[hb2]at g5
              subst g5
              have:s2=s'/\false=b:=by simpa using hf2
              obtain⟨rfl,rfl⟩:=this
              rw[hR]
              exact hover s2 f (x+1) (by omega) hb2
            |false=>
              rw[hb2]at g5
              subst g5
              rw[hR]
              exact ihc (x+1) f s2 (by omega) (by omega) hb2 (by omega) (by rw[g4];exact hr1) (by push_cast at hr2;omega) s' b hf2
        have hlim:pre.length+ [(x:Int)].length<=lim:=by rw[List.length_singleton];unfold lim;omega
        have body: ∀R,R=(if inb (pre.length:Int) given then
            if decide ((gd given (pre.length:Int) 0)≥0)then
              if inb (pre.length:Int) given then
                if(gd given (pre.length:Int) 0) !=(x:Int)then
                  Ad (Aj d) f ((n:Int),atN cs V,given,pre,(s1.1,(s1.2.1,(s1.2.2.1,s1.2.2.2))),([],(0,(0,false))),(pre.length:Int),w64 ((x:Int)+1))
                else
                  (Bc pre).bind λr2=>
                    if r2.length+ [(x:Int)].length<=lim then
                      (Am (Aj d) Ac ((n:Int),atN cs V,given,pre,(s1.1,(s1.2.1,(s1.2.2.1,s1.2.2.2))),([],(0,(0,false))),(pre.length:Int),(x:Int),r2++ [(x:Int)],true,0)).bind (λs6=>
                        if s6.2.2.2.2.2.2.2.2.2 then
                          (Aj d (s6.1,s6.2.1,s6.2.2.1,s6.2.2.2.2.2.2.2.2.1,(s6.2.2.2.2.1.1,(s6.2.2.2.2.1.2.1,(s6.2.2.2.2.1.2.2.1,s6.2.2.2.2.1.2.2.2))))).bind λr7=>
                            Ad (Aj d) f (s6.1,s6.2.1,s6.2.2.1,s6.2.2.2.1,(r7.1,(r7.2.1,(r7.2.2.1,r7.2.2.2))),(s6.2.2.2.2.2.1.1,(s6.2.2.2.2.2.1.2.1,(s6.2.2.2.2.2.1.2.2.1,s6.2.2.2.2.2.1.2.2.2))),s6.2.2.2.2.2.2.1,w64 (s6.2.2.2.2.2.2.2.1+1))
                        else
                          Ad (Aj d) f (s6.1,s6.2.1,s6.2.2.1,s6.2.2.2.1,(s6.2.2.2.2.1.1,(s6.2.2.2.2.1.2.1,(s6.2.2.2.2.1.2.2.1,s6.2.2.2.2.1.2.2.2))),(s6.2.2.2.2.2.1.1,(s6.2.2.2.2.2.1.2.1,(s6.2.2.2.2.2.1.2.2.1,s6.2.2.2.2.2.1.2.2.2))),s6.2.2.2.2.2.2.1,w64 (s6.2.2.2.2.2.2.2.1+1)))
                    else none
              else none
            else
              (Bc pre).bind λr2=>
                if r2.length+ [(x:Int)].length<=lim then
                  (Am (Aj d) Ac ((n:Int),atN cs V,given,pre,(s1.1,(s1.2.1,(s1.2.2.1,s1.2.2.2))),([],(0,(0,false))),(pre.length:Int),(x:Int),r2++ [(x:Int)],true,0)).bind (λs6=>
                    if s6.2.2.2.2.2.2.2.2.2 then
                      (Aj d (s6.1,s6.2.1,s6.2.2.1,s6.2.2.2.2.2.2.2.2.1,(s6.2.2.2.2.1.1,(s6.2.2.2.2.1.2.1,(s6.2.2.2.2.1.2.2.1,s6.2.2.2.2.1.2.2.2))))).bind λr7=>
                        Ad (Aj d) f (s6.1,s6.2.1,s6.2.2.1,s6.2.2.2.1,(r7.1,(r7.2.1,(r7.2.2.1,r7.2.2.2))),(s6.2.2.2.2.2.1.1,(s6.2.2.2.2.2.1.2.1,(s6.2.2.2.2.2.1.2.2.1,s6.2.2.2.2.2.1.2.2.2))),s6.2.2.2.2.2.2.1,w64 (s6.2.2.2.2.2.2.2.1+1))
                    else
                      Ad (Aj d) f (s6.1,s6.2.1,s6.2.2.1,s6.2.2.2.1,(s6.2.2.2.2.1.1,(s6.2.2.2.2.1.2.1,(s6.2.2.2.2.1.2.2.1,s6.2.2.2.2.1.2.2.2))),(s6.2.2.2.2.2.1.1,(s6.2.2.2.2.2.1.2.1,(s6.2.2.2.2.2.1.2.2.1,s6.2.2.2.2.2.1.2.2.2))),s6.2.2.2.2.2.2.1,w64 (s6.2.2.2.2.2.2.2.1+1)))
                else none
          else none)->R=some (s',([],(0,(0,false)))):=by
          intro R hR
          rw[CY (show pre.length<=1099511627775 by omega)]at hR
          simp only[Af,hag,if_true,Option.bind_some]at hR
          rw[if_pos hlim]at hR
          by_cases hc1:gd given (pre.length:Int) 0≥0
          · rw[if_pos (decide_eq_true hc1)]at hR
            by_cases hc2:gd given (pre.length:Int) 0=(x:Int)
            · rw[if_neg (by simpa using hc2)]at hR
              exact step (by unfold Ck;rw[show given.getD pre.length 0=(x:Int) from hc2];simp) R hR
            · rw[if_pos (by simpa using hc2),hw]at hR
              have hm:Ck given pre.length x=false:=by
                unfold Ck
                rw[decide_eq_true (show given.getD pre.length 0≥0 from hc1)]
                simp only[Bool.true_and,Bool.not_eq_false',bne_iff_ne];exact hc2
              rw[hm]at hf2 hr2
              simp only[Bool.false_and,Bool.false_eq_true,if_false,AZ,List.length_nil,Nat.zero_add]at hf2 hr2
              rw[hR]
              exact ihc (x+1) f s1 (by omega) (by omega) hst1 h01 hr1 hr2 s' b hf2
          · rw[if_neg (by simpa using hc1)]at hR
            exact step (by unfold Ck;rw[decide_eq_false (show¬given.getD pre.length 0≥0 from hc1)];rfl) R hR
        simp only[Ad]
        rw[if_pos (by simp;omega)]
        cases hone:s1.2.2.2 with
        |true=>
          have hcnt:decide (s1.2.1>0)=false:=by unfold Cr at hst1;rw[hone]at hst1;simpa using hst1
          rw[hcnt]
          simp only[if_true,Bool.not_false]
          refine body _ ?_
          rw[hone]
        |false=>
          simp only[Bool.false_eq_true,if_false,Bool.not_false,if_true]
          refine body _ ?_
          rw[hone]
    simp only[BY]at hf hr2
    rw[List.range_eq_range']at hf hr2
    have h4:=key n 0 Ac s (by omega) (by unfold Ac;omega) hst h0 hr1 hr2 s' b hf
    have hlN:(atN cs V).length=V:=by simp[atN]
    simp only[Aj,B5]
    rw[if_neg (by simp;omega)]
    have h4:Ad (Aj d) Ac ((n:Int),atN cs V,given,pre,(s.1,(s.2.1,(s.2.2.1,s.2.2.2))),([],(0,(0,false))),(pre.length:Int),0)=_:=h4
    rw[h4];rfl
theorem DZ (h:SrchOk V n cs) (hg:given.length=V) {cs0:List Con} {most:Int} {one:Bool} (hm:most<=1000000) {s':S19} {b:Bool} (hf:AZ Ez (BU V n cs given) ([],0,most,one)=some (s',b)):
  B7 ((V:Int),((n:Int),cs0)) cs given most one=some s':=by
 have hV:=h.hv
 have hn:=h.hn
 unfold B7
 have hl:(BU V n cs given).length<=4^9:=by
  refine Nat.le_trans (Ec (n:=n) (given:=given) V []) ?_
  exact Nat.le_trans (Nat.pow_le_pow_left hn.2 V) (Nat.pow_le_pow_right (by omega) hV)
 have:=F4 h hg V Ac [] ([],0,most,one) (by simp) (by unfold Ac;omega) (by simp[Cr]) (by simp) hm (by
  have:(4:Nat)^9=262144:=by decide
  rw[this]at hl
  have:(BY n given (okN cs) V []).length=(BU V n cs given).length:=rfl
  dsimp only;omega) s' b hf
 simp only[F8 h,Option.bind_some,this]
end
end T
open Go Go.Va
namespace T
def Zn (cmp:List Int->List Int->Int) (rows:List (List Int)):List (List Int):=rows.mergeSort (λx y=>!decide (cmp y x<0))
def cmpT (s t:List Int):Int:=if s.length<t.length then-1 else if t.length<s.length then 1 else cmpL s t
theorem cmpT_refl (s:List Int):cmpT s s=0:=by unfold cmpT;rw[if_neg (by omega),if_neg (by omega),cmpL_refl]
theorem cmpT_symm (s t:List Int):cmpT t s= -cmpT s t:=by
 unfold cmpT
 by_cases h1:s.length<t.length
 ·rw[if_neg (by omega),if_pos h1,if_pos h1];rfl
 ·by_cases h2:t.length<s.length
  ·rw[if_pos h2,if_neg h1,if_pos h2]
  ·rw[if_neg h2,if_neg h1,if_neg h1,if_neg h2,cmpL_symm]
theorem cmpT_eq {s t:List Int} (h:cmpT s t=0):s=t:=by
 unfold cmpT at h
 by_cases h1:s.length<t.length
 ·rw[if_pos h1]at h;exact absurd h (by decide)
 ·rw[if_neg h1]at h
  by_cases h2:t.length<s.length
  ·rw[if_pos h2]at h;exact absurd h (by decide)
  ·rw[if_neg h2]at h;exact cmpL_eq.1 h
theorem cmpT_trans {s t u:List Int} (h1:cmpT s t<0) (h2:cmpT t u<0):cmpT s u<0:=by
 unfold cmpT at*
 by_cases a1:s.length<u.length
 ·rw[if_pos a1];decide
 ·rw[if_neg a1]
  by_cases b1:s.length<t.length
  ·have b2:u.length<t.length:=by omega
   rw[if_neg (by omega),if_pos b2]at h2;exact absurd h2 (by decide)
  ·rw[if_neg b1]at h1
   by_cases b3:t.length<s.length
   ·rw[if_pos b3]at h1;exact absurd h1 (by decide)
   ·rw[if_neg b3]at h1
    by_cases c1:t.length<u.length
    ·omega
    ·rw[if_neg c1]at h2
     by_cases c2:u.length<t.length
     ·rw[if_pos c2]at h2;exact absurd h2 (by decide)
     ·rw[if_neg c2]at h2
      rw[if_neg (by omega)]
      exact cmpL_trans h1 h2
end T
open Go Go.Va
namespace T
theorem BK {l:List (List Int)}:BX l=true↔l.Pairwise (λa b=>cmpL a b<0):=by
 constructor
 ·intro h
  rw[List.pairwise_iff_getElem]
  exact λi j hi hj hij=>Ct h i j hij hj
 ·intro h
  rw[Es]
  rw[List.pairwise_iff_getElem]at h
  exact λi hi=>h i (i+1) (by omega) hi (by omega)
theorem E2 {x y:List Int} (h1: ¬cmpL y x<0) (h2: ¬cmpL x y<0):x=y:=by
 have:=cmpL_symm x y
 exact cmpL_eq.1 (by omega)
theorem CN {out l:List (List Int)} (hi:BX out=true) (hp:out.Perm l):Zn cmpL l=out:=by
 have hs:(Zn cmpL l).Pairwise λx y=>(!decide (cmpL y x<0))=true:=by
  unfold Zn
  refine List.pairwise_mergeSort (λa b c h1 h2=>?_) (λa b=>?_) l
  ·simp only[Bool.not_eq_true',decide_eq_false_iff_not]at*
   intro h3
   have q1:=cmpL_symm a b
   have q2:=cmpL_symm b c
   by_cases e:cmpL a b=0
   ·rw[cmpL_eq.1 e]at h3;exact h2 h3
   ·exact h2 (cmpL_trans h3 (by omega))
  ·simp only[Bool.or_eq_true,Bool.not_eq_true',decide_eq_false_iff_not]
   have q1:=cmpL_symm a b
   omega
 have ho:out.Pairwise λx y=>(!decide (cmpL y x<0))=true:=by
  refine(BK.1 hi).imp ?_
  intro a b h
  simp only[Bool.not_eq_true',decide_eq_false_iff_not]
  have q1:=cmpL_symm a b
  omega
 have hpp:(Zn cmpL l).Perm out:=(List.mergeSort_perm l _).trans hp.symm
 refine List.Perm.eq_of_pairwise (λa b _ _ h1 h2=>?_) hs ho hpp
 simp only[Bool.not_eq_true',decide_eq_false_iff_not]at h1 h2
 exact E2 h1 h2
end T
set_option linter.unusedVariables false
open Go Go.Va
namespace T
def AA (a0:List (List Int)) (a1:Unit):Option (List (List Int)):=
 if List.length a0<=lim/\List.all a0 (λx=>decide (List.length x<=lim))=true then some (Zn cmpL a0)else none
end T
open Go Go.Va
namespace T
section
variable {p:Int} {W N V:Nat}
def coG (p:Int) (s:ES) (u:Nat) (f:Int):Int:=if Dm s.2.1 u<0 then(if f=(u:Int)then 1 else 0)else p-(s.1.getD (Dm s.2.1 u).toNat []).getD f.toNat 0
def Gt (p:Int) (V:Nat) (s:ES) (F x:List Int) (u:Nat):Nat->Int
 |0=>FN V s u
 |k+1=>Gt p V s F x u k+coG p s u (F.getD k 0)*x.getD k 0
def GQ (p:Int) (V:Nat) (s:ES) (F x:List Int) (k:Nat):List Int:=(List.range V).map λu=>Gt p V s F x u k%p
structure GenOk (p:Int) (W N V:Nat) (s:ES) (F x:List Int):Prop where
 hp:pr4 p
 hs:ESok p W N V s
 hV:V<W
 hW:W<=1000
 hN:N<=100000
 hF:F=Gz V s.2.1
 hx:x.length=F.length
 xb: ∀v∈x,0<=v/\v<p
variable {s:ES} {F x:List Int}
theorem GenOk.pb (g:GenOk p W N V s F x):2<=p/\p<=7:=by have:=g.hp;unfold pr4 at this;omega
theorem GenOk.row (g:GenOk p W N V s F x) {u:Nat} (hu: ¬Dm s.2.1 u<0):(Dm s.2.1 u).toNat<s.1.length/\ET p W (s.1.getD (Dm s.2.1 u).toNat []):=by
 have hm:(u:Int)∈s.2.1:=by
  rcases Decidable.em ((u:Int)∈s.2.1)with h|h
  ·exact h
  ·exact absurd (FJ.2 h) hu
 obtain⟨i,hi,g1,_⟩:=EU hm
 rw[g1,Int.toNat_natCast]
 have:=g.hs.bl
 exact⟨by omega,by rw[Ax (by omega)];exact g.hs.t _ (List.getElem_mem _)⟩
theorem GenOk.base (g:GenOk p W N V s F x) (u:Nat):0<=FN V s u/\FN V s u<p:=by
 have:=g.pb
 unfold FN
 split
 ·omega
 ·rename_i h
  exact Gq (g.row h).2 g.hV
end
end T
open Go Go.Va
namespace T
section
variable {p:Int} {W N V:Nat} {s:ES} {F x:List Int}
theorem GenOk.zero (g:GenOk p W N V s F x):GQ p V s F x 0=GM V s:=by
 unfold GQ GM
 refine List.map_congr_left λu _=>?_
 have:=g.base u
 simp only[Gt]
 exact Int.emod_eq_of_lt this.1 this.2
end
end T
open Go Go.Va
namespace T
section
variable {a:Lin} {p:Int} {W N V:Nat} {s:ES} {F:List Int}
theorem DJ (l:List (List Int)):(Zn cmpL l).Perm l:=List.mergeSort_perm l _
theorem EH {l:List (List Int)} (hn:l.Nodup):BX (Zn cmpL l)=true:=by
 rw[BK]
 have hs:(Zn cmpL l).Pairwise λx y=>(!decide (cmpL y x<0))=true:=by
  unfold Zn
  refine List.pairwise_mergeSort (λa b c h1 h2=>?_) (λa b=>?_) l
  ·simp only[Bool.not_eq_true',decide_eq_false_iff_not]at*
   intro h3
   have q1:=cmpL_symm a b
   have q2:=cmpL_symm b c
   by_cases e:cmpL a b=0
   ·rw[cmpL_eq.1 e]at h3;exact h2 h3
   ·exact h2 (cmpL_trans h3 (by omega))
  ·simp only[Bool.or_eq_true,Bool.not_eq_true',decide_eq_false_iff_not]
   have q1:=cmpL_symm a b
   omega
 have hn':(Zn cmpL l).Nodup:=(DJ l).nodup_iff.2 hn
 refine(hs.and hn').imp ?_
 intro x y h
 obtain⟨h1,h2⟩:=h
 simp only[Bool.not_eq_true',decide_eq_false_iff_not]at h1
 have q1:=cmpL_symm x y
 have q2:cmpL x y≠0:=λe=>h2 (cmpL_eq.1 e)
 omega
end
end T
open Go Go.Va
namespace T
def Zm (xs:List (List Int)):List Nat:=(List.range xs.length).filter λi=>i==0||xs.getD (i-1) [] !=xs.getD i []
def Zx (xs:List (List Int)):List (List Int):=(Zm xs).map λi=>xs.getD i []
def dgP:List Int->List (List Int)->List (List Int)
 |_,[]=> []
 |p,x::l=>if p=x then dgP x l else x::dgP x l
theorem DY: ∀(l pre:List (List Int)) (p:List Int),((List.range' (pre++ [p]).length l.length).filter λi=>i==0||(pre++ [p]++l).getD (i-1) [] !=(pre++ [p]++l).getD i []).map (λi=>(pre++ [p]++l).getD i [])=dgP p l
 | [],_,_=>rfl
 |x::l,pre,p=>by
  have ih:=DY l (pre++ [p]) x
  have e:pre++ [p]++ [x]++l=pre++ [p]++(x::l):=by simp
  rw[e]at ih
  have e2:(pre++ [p]++ [x]).length=(pre++ [p]).length+1:=by simp
  rw[e2]at ih
  have g1:(pre++ [p]++(x::l)).getD ((pre++ [p]).length-1) []=p:=by
   rw[List.getD_eq_getElem?_getD,List.getElem?_append_left (by simp),List.length_append,List.length_singleton,Nat.add_sub_cancel,List.getElem?_append_right (Nat.le_refl _),Nat.sub_self];rfl
  have g2:(pre++ [p]++(x::l)).getD (pre++ [p]).length []=x:=by
   rw[List.getD_eq_getElem?_getD,List.getElem?_append_right (Nat.le_refl _),Nat.sub_self];rfl
  have g3:((pre++ [p]).length==0)=false:=by simp
  rw[List.length_cons,List.range'_succ,List.filter_cons,g1,g2,g3,dgP]
  by_cases h:p=x
  ·rw[if_neg (by simp[h]),if_pos h];exact ih
  ·rw[if_pos (by simp[h]),if_neg h,List.map_cons,g2];exact congrArg _ ih
theorem Dy {x:List Int} {l:List (List Int)}:Zx (x::l)=x::dgP x l:=by
 have h:=DY l [] x
 unfold Zx Zm
 rw[List.range_eq_range',List.length_cons,List.range'_succ,List.filter_cons,if_pos (by simp),List.map_cons]
 exact congrArg _ h
theorem EP: ∀ {l:List (List Int)} {p u:List Int},(u∈dgP p l∨u=p)↔(u∈l∨u=p)
 | [],_,_=>Iff.rfl
 |x::l,p,u=>by
  have ih:=EP (l:=l) (p:=x) (u:=u)
  unfold dgP
  by_cases h:p=x
  ·subst h
   rw[if_pos rfl,ih,List.mem_cons]
   exact⟨λh=>h.elim (λh=>Or.inl (Or.inr h)) Or.inr,λh=>h.elim (λh=>h.elim Or.inr Or.inl) Or.inr⟩
  ·rw[if_neg h,List.mem_cons,List.mem_cons]
   constructor
   ·rintro ((h|h)|h)
    ·exact Or.inl (Or.inl h)
    ·exact Or.inl ((ih.1 (Or.inl h)).elim Or.inr Or.inl)
    ·exact Or.inr h
   ·rintro ((h|h)|h)
    ·exact Or.inl (Or.inl h)
    ·exact Or.inl ((ih.2 (Or.inl h)).elim Or.inr Or.inl)
    ·exact Or.inr h
theorem E4 {l:List (List Int)} {u:List Int}:u∈Zx l↔u∈l:=by
 cases l with
 |nil=>exact Iff.rfl
 |cons x l=>
  rw[Dy,List.mem_cons,List.mem_cons]
  have:=EP (l:=l) (p:=x) (u:=u)
  exact⟨λh=>(this.1 h.symm).symm,λh=>(this.2 h.symm).symm⟩
theorem EO: ∀ {l:List (List Int)} {p:List Int},(p::l).Pairwise (λa b=> ¬cmpL b a<0)->(p::dgP p l).Pairwise λa b=>cmpL a b<0
 | [],_,_=>List.pairwise_singleton _ _
 |x::l,p,h=>by
  have h1:=List.pairwise_cons.1 h
  have ih:=EO (l:=l) (p:=x) h1.2
  unfold dgP
  by_cases e:p=x
  ·subst e;rw[if_pos rfl];exact ih
  ·rw[if_neg e]
   refine List.pairwise_cons.2 ⟨λb hb=>?_,ih⟩
   have hlt:cmpL p x<0:=by
    have h2:=h1.1 x (List.mem_cons_self ..)
    have h3:=cmpL_symm p x
    have h4:cmpL p x≠0:=λh=>e (cmpL_eq.1 h)
    omega
   rcases List.mem_cons.1 hb with rfl|hb
   ·exact hlt
   ·exact cmpL_trans hlt ((List.pairwise_cons.1 ih).1 b hb)
theorem FO (l:List (List Int)):(Zn cmpL l).Pairwise λa b=> ¬cmpL b a<0:=by
 have hs:(Zn cmpL l).Pairwise λx y=>(!decide (cmpL y x<0))=true:=by
  unfold Zn
  refine List.pairwise_mergeSort (λa b c h1 h2=>?_) (λa b=>?_) l
  ·simp only[Bool.not_eq_true',decide_eq_false_iff_not]at*
   intro h3
   have q1:=cmpL_symm a b
   have q2:=cmpL_symm b c
   by_cases e:cmpL a b=0
   ·rw[cmpL_eq.1 e]at h3;exact h2 h3
   ·exact h2 (cmpL_trans h3 (by omega))
  ·simp only[Bool.or_eq_true,Bool.not_eq_true',decide_eq_false_iff_not]
   have q1:=cmpL_symm a b
   omega
 exact hs.imp fun {a b} h=>by simpa using h
def C9 (l:List (List Int)):List (List Int):=Zx (Zn cmpL l)
theorem setL_mem {l:List (List Int)} {u:List Int}:u∈C9 l↔u∈l:=by
 unfold C9;rw[E4];exact(List.mergeSort_perm l _).mem_iff
theorem EA (l:List (List Int)):BX (C9 l)=true:=by
 rw[BK]
 unfold C9
 have h:=FO l
 generalize Zn cmpL l=s at h
 cases s with
 |nil=>exact List.Pairwise.nil
 |cons x s=>rw[Dy];exact EO h
theorem Fv: ∀ {a b:List (List Int)},BX a=true->BX b=true->(∀u,u∈a↔u∈b)->a=b:=by
 intro a b ha hb h
 have pa:=BK.1 ha
 have pb:=BK.1 hb
 have na:a.Nodup:=pa.imp fun {x y} h e=>by rw[e,cmpL_refl]at h;omega
 have nb:b.Nodup:=pb.imp fun {x y} h e=>by rw[e,cmpL_refl]at h;omega
 have hp:a.Perm b:=(List.perm_ext_iff_of_nodup na nb).2 h
 rw[←CN ha (List.Perm.refl _),←CN hb (List.Perm.refl _)]
 have h1:=CN ha hp
 have h2:=CN hb (List.Perm.refl b)
 have h3:=CN ha (List.Perm.refl a)
 rw[h2,h3,←h1,h2]
theorem EY {out l:List (List Int)} (hi:BX out=true) (hm: ∀u,u∈out↔u∈l):C9 l=out:=
 Fv (EA l) hi λu=>setL_mem.trans (hm u).symm
theorem Fo (l:List (List Int)):(Zx l).length<=l.length:=by
 unfold Zx Zm
 rw[List.length_map]
 exact Nat.le_trans (List.length_filter_le _ _) (by rw[List.length_range];exact Nat.le_refl _)
theorem Gb (l:List (List Int)):(C9 l).length<=l.length:=by
 unfold C9
 have:=Fo (Zn cmpL l)
 rwa [show(Zn cmpL l).length=l.length from(List.mergeSort_perm l _).length_eq]at this
end T
set_option linter.unusedVariables false
open Go Go.Va
namespace T
def Cb (a0:List (List Int)):Option (List (List Int)):=
 if List.length a0<=lim/\List.all a0 (λx=>decide (List.length x<=lim))=true then some (Zx a0)else none
end T
open Go Go.Va
namespace T
section
variable {n:Int} {k:Nat} {ts:List (List Int)}
def Ga (ts:List (List Int)) (i j:Nat):List Int:=(ts.getD j []).take i
def Ge (ts:List (List Int)) (i j:Nat):Int:=(ts.getD j []).getD i 0
end
end T
open Go Go.Va
namespace T
section
variable {n:Int} {k:Nat} {ts:List (List Int)}
def Gg (ts:List (List Int)) (i:Nat) (x y:Int) (a b:Nat):Bool:=Ge ts i a==x&&(Ge ts i b==y&&decide (Ga ts i a=Ga ts i b))
def bO (ts:List (List Int)) (i:Nat) (x y:Int) (a:Nat):Option Nat:=(List.range ts.length).find? (Gg ts i x y a)
def FH (ts:List (List Int)) (i:Nat) (x y:Int):Option (Nat×Nat):=(List.range ts.length).findSome? λa=>(bO ts i x y a).map λb=>(a,b)
theorem EJ {i:Nat} {x y:Int} {a b:Nat} (h:FH ts i x y=some (a,b)):a<ts.length/\b<ts.length/\Ge ts i a=x/\Ge ts i b=y/\Ga ts i a=Ga ts i b:=by
 unfold FH at h
 obtain⟨a',ha,h⟩:=List.exists_of_findSome?_eq_some h
 obtain⟨b',hb,h⟩:=Option.map_eq_some_iff.1 h
 obtain⟨rfl,rfl⟩:=Prod.mk.inj h
 have h1:=List.find?_some hb
 have h2:=List.mem_of_find?_eq_some hb
 unfold Gg at h1
 simp only[Bool.and_eq_true,beq_iff_eq,decide_eq_true_eq]at h1
 exact⟨List.mem_range.1 ha,List.mem_range.1 h2,h1.1,h1.2.1,h1.2.2⟩
end
end T
set_option linter.unusedVariables false
open Go Go.Va
namespace T
def BQ (list:List (List Int)):Option ((List (List Int))):=
 (Ca list).bind λr1=>
 (AA r1 ()).bind λr2=>
 some r2
def BO (arity:Int) (tuples:List (List Int)):Option ((Int×(List (List Int)))):=
 (BQ tuples).bind λr1=>
 (Cb r1).bind λr2=>
 some (arity,r2)
end T
open Go Go.Va
namespace T
theorem Fg {l:List (List Int)} (hl:l.length<=100000) (hr: ∀r∈l,r.length<=100000):BQ l=some (Zn cmpL l):=by
 unfold BQ
 rw[D9 hl hr]
 have:AA l ()=some (Zn cmpL l):=by
  unfold AA
  rw[if_pos]
  refine⟨by unfold lim;omega,?_⟩
  rw[List.all_eq_true]
  intro r h
  rw[decide_eq_true_iff]
  have:=hr r h;unfold lim;omega
 simp only[Option.bind_some,this]
theorem Ea {l:List (List Int)} (hl:l.length<=100000) (hr: ∀r∈l,r.length<=100000):Cb l=some (Zx l):=by
 unfold Cb
 rw[if_pos]
 refine⟨by unfold lim;omega,?_⟩
 rw[List.all_eq_true]
 intro r h
 rw[decide_eq_true_iff]
 have:=hr r h;unfold lim;omega
theorem EI {ar:Int} {l:List (List Int)} (hl:l.length<=100000) (hr: ∀r∈l,r.length<=100000):BO ar l=some (ar,C9 l):=by
 have hp:=DJ l
 unfold BO
 rw[Fg hl hr]
 simp only[Option.bind_some]
 rw[Ea (by rw[hp.length_eq];exact hl) λr h=>hr r (hp.mem_iff.1 h)]
 rfl
end T
open Go Go.Va
namespace T
section
variable {a:Net} {f:Opn} {n:Int}
theorem EG {b:Net} (h:Ew b):Bu b b=some true:=by rw[Eb h];simp
end
end T
open Go Go.Va
namespace T
section
variable {n k m:Nat} {r:Dj} {rels:List Dj} {given t:List Int}
theorem CU {ok:List Int->Bool}: ∀(m:Nat) (pre t:List Int),t∈BY n given ok m pre↔t.length=pre.length+m/\t.take pre.length=pre/\
  ∀q,pre.length<=q->q<t.length->(0<=t.getD q 0/\t.getD q 0<(n:Int))/\Ck given q (t.getD q 0).toNat=true/\ok (t.take (q+1))=true
 |0,pre,t=>by
  simp only[BY,List.mem_singleton,Nat.add_zero]
  constructor
  ·rintro rfl
   exact⟨rfl,by simp,λq h1 h2=>by omega⟩
  ·rintro ⟨h1,h2,_⟩
   rw[←h2,List.take_of_length_le (by omega)]
 |m+1,pre,t=>by
  simp only[BY,List.mem_flatMap,List.mem_range]
  constructor
  ·rintro ⟨x,hx,h⟩
   by_cases hc:(Ck given pre.length x&&ok (pre++ [(x:Int)]))=true
   ·rw[if_pos hc]at h
    obtain⟨h1,h2,h3⟩:=(CU m (pre++ [(x:Int)]) t).1 h
    rw[Bool.and_eq_true]at hc
    rw[List.length_append,List.length_singleton]at h1 h2 h3
    have hv:t.getD pre.length 0=(x:Int):=by
     have hl:pre.length<t.length:=by omega
     have e:(t.take (pre.length+1)).getD pre.length 0=t.getD pre.length 0:=by simp[List.getD_eq_getElem?_getD,List.getElem?_take]
     rw[←e,h2];simp[List.getD_eq_getElem?_getD]
    refine⟨by omega,?_,λq h4 h5=>?_⟩
    ·have:(t.take (pre.length+1)).take pre.length=pre:=by rw[h2];simp
     rw[List.take_take]at this
     rwa [Nat.min_eq_left (by omega)]at this
    ·by_cases e:q=pre.length
     ·subst e
      rw[hv,h2]
      exact⟨by omega,by rw[Int.toNat_natCast];exact hc.1,hc.2⟩
     ·exact h3 q (by omega) h5
   ·rw[if_neg hc]at h;simp at h
  ·rintro ⟨h1,h2,h3⟩
   have hl:pre.length<t.length:=by omega
   obtain⟨a1,a2,a3⟩:=h3 pre.length (Nat.le_refl _) hl
   have hx:(((t.getD pre.length 0).toNat:Nat):Int)=t.getD pre.length 0:=Int.toNat_of_nonneg a1.1
   have ht:t.take (pre.length+1)=pre++ [(((t.getD pre.length 0).toNat:Nat):Int)]:=by
    rw[hx,List.take_succ_eq_append_getElem hl,h2,Ax hl]
   refine⟨(t.getD pre.length 0).toNat,by omega,?_⟩
   rw[if_pos (by rw[Bool.and_eq_true];exact⟨a2,by rw[←ht];exact a3⟩)]
   refine(CU m _ t).2 ⟨by simp;omega,by rw[List.length_append,List.length_singleton];exact ht,λq h4 h5=>h3 q (by rw[List.length_append,List.length_singleton]at h4;omega) h5⟩
theorem FF {N q x:Nat} (hq:q<N):Ck (List.replicate N (-1)) q x=true:=by
 unfold Ck
 rw[Ax (by simpa using hq)];simp
theorem FY {b:Nat}: ∀(k:Nat) (ys:List Nat),ys.length=k->(∀y∈ys,y<b)-> ∃i,i<b^k/\dg b k i=ys:=by
 intro k
 induction k with
 |zero=>intro ys hl _;exact⟨0,by simp,by rw[List.eq_nil_of_length_eq_zero hl];rfl⟩
 |succ k ih=>
  intro ys hl hy
  obtain⟨z,y,rfl⟩: ∃z y,ys=z++ [y]:=⟨ys.dropLast,ys.getLast (by intro e;rw[e]at hl;simp at hl),(List.dropLast_concat_getLast _).symm⟩
  have hyb:=hy y (by simp)
  obtain⟨i,h1,h2⟩:=ih z (by simpa using hl) λx hx=>hy x (by simp[hx])
  refine⟨i*b+y,?_,?_⟩
  ·rw[Nat.pow_succ]
   calc i*b+y<i*b+b:=by omega
    _=(i+1)*b:=by rw[Nat.succ_mul]
    _<=b^k*b:=Nat.mul_le_mul_right _ h1
  ·simp only[dg]
   have e1:(i*b+y)/b=i:=by rw[Nat.mul_comm,Nat.mul_add_div (by omega),Nat.div_eq_of_lt hyb];omega
   have e2:(i*b+y)%b=y:=by rw[Nat.mul_comm,Nat.mul_add_mod,Nat.mod_eq_of_lt hyb]
   rw[e1,e2,h2]
end
end T
open Go Go.Va
namespace T
section
variable {a:Net}
theorem E9 (hN:NetOk a):SrchOk a.1.toNat a.2.1.toNat a.2.2/\a=((a.1.toNat:Int),((a.2.1.toNat:Int),a.2.2)):=by
 have hv:=hN.hv
 have hn:=hN.hn
 refine⟨⟨by omega,by omega,hN.hc,λc hc=>?_⟩,?_⟩
 ·rw[Int.toNat_of_nonneg hv.1,Int.toNat_of_nonneg (by omega)];exact hN.con c hc
 ·rw[Int.toNat_of_nonneg hv.1,Int.toNat_of_nonneg (by omega)]
end
end T
set_option linter.unusedVariables false
open Go Go.Va
namespace T
def Ah:Nat->((List Int)×(Int×Int×(List ((List Int)×Int×(List (List Int)))))×(Int×(List (List Int)))×(Int×(List (List Int)))×Int×(List Int)×(List Int)×Bool×Int)->Option ((List Int)×(Int×Int×(List ((List Int)×Int×(List (List Int)))))×(Int×(List (List Int)))×(Int×(List (List Int)))×Int×(List Int)×(List Int)×Bool)
 |0,_=>none
 |n+1,(t1,t2,t4,t6,t7,t8,t9,t10,t11)=>
 if decide (t11<(t1.length:Int))then
 if t10 then
 if inb t11 t1 then
 if inb (gd t1 t11 0) t9 then
 if decide ((gd t9 (gd t1 t11 0) 0)<0)then
 if inb t11 t1 then
 if inb t11 t8 then
 if inb (gd t1 t11 0) t9 then
 Ah n (t1,(t2.1,(t2.2.1,t2.2.2)),(t4.1,t4.2),(t6.1,t6.2),t7,t8,stt t9 (gd t1 t11 0) (gd t8 t11 0),true,w64 (t11+1))
 else none
 else none
 else none
 else
 if inb t11 t1 then
 if inb (gd t1 t11 0) t9 then
 if inb t11 t8 then
 if inb t11 t1 then
 if inb t11 t8 then
 if inb (gd t1 t11 0) t9 then
 Ah n (t1,(t2.1,(t2.2.1,t2.2.2)),(t4.1,t4.2),(t6.1,t6.2),t7,t8,stt t9 (gd t1 t11 0) (gd t8 t11 0),(gd t9 (gd t1 t11 0) 0)==(gd t8 t11 0),w64 (t11+1))
 else none
 else none
 else none
 else none
 else none
 else none
 else none
 else none
 else
 if inb t11 t1 then
 if inb t11 t8 then
 if inb (gd t1 t11 0) t9 then
 Ah n (t1,(t2.1,(t2.2.1,t2.2.2)),(t4.1,t4.2),(t6.1,t6.2),t7,t8,stt t9 (gd t1 t11 0) (gd t8 t11 0),false,w64 (t11+1))
 else none
 else none
 else none
 else
 some (t1,(t2.1,(t2.2.1,t2.2.2)),(t4.1,t4.2),(t6.1,t6.2),t7,t8,t9,t10)
def Ak:Nat->((List Int)×(Int×Int×(List ((List Int)×Int×(List (List Int)))))×(Int×(List (List Int)))×(Int×(List (List Int)))×Int)->Option ((Int×(List (List Int)))×(Int×(List (List Int))))
 |0,_=>none
 |n+1,(t1,t2,t4,t6,t7)=>
 (B0 t2.2.1 (t1.length:Int)).bind λr4=>
 if decide (t7<r4)then
 (CQ t2.2.1 (t1.length:Int) t7).bind λr5=>
 (Cz t2.1).bind λr6=>
 (Ah Ac (t1,(t2.1,(t2.2.1,t2.2.2)),(t4.1,t4.2),(t6.1,t6.2),t7,r5,r6,true,0)).bind λs7=>
 if s7.2.2.2.2.2.2.2 then
 (B7 (s7.2.1.1,(s7.2.1.2.1,s7.2.1.2.2)) s7.2.1.2.2 s7.2.2.2.2.2.2.1 1 true).bind λr8=>
 if decide (r8.2.1>0)then
 if s7.2.2.2.1.2.length+ [s7.2.2.2.2.2.1].length<=lim then
 Ak n (s7.1,(s7.2.1.1,(s7.2.1.2.1,s7.2.1.2.2)),(s7.2.2.1.1,s7.2.2.1.2),(s7.2.2.2.1.1,s7.2.2.2.1.2++ [s7.2.2.2.2.2.1]),w64 (s7.2.2.2.2.1+1))
 else none
 else
 Ak n (s7.1,(s7.2.1.1,(s7.2.1.2.1,s7.2.1.2.2)),(s7.2.2.1.1,s7.2.2.1.2),(s7.2.2.2.1.1,s7.2.2.2.1.2),w64 (s7.2.2.2.2.1+1))
 else
 Ak n (s7.1,(s7.2.1.1,(s7.2.1.2.1,s7.2.1.2.2)),(s7.2.2.1.1,s7.2.2.1.2),(s7.2.2.2.1.1,s7.2.2.2.1.2),w64 (s7.2.2.2.2.1+1))
 else
 some ((t4.1,t4.2),(t6.1,t6.2))
def AP (t0:Int×Int×(List ((List Int)×Int×(List (List Int))))) (t1:List Int):Option ((Int×(List (List Int)))×Bool):=
 (CA (t0.1,(t0.2.1,t0.2.2))).bind λr1=>
 if !r1 then
 some ((0,[]),false)
 else
 (BZ (t1.length:Int) 1 3).bind λr2=>
 if !r2 then
 some ((0,[]),false)
 else
 (Bk t0.1 t1).bind λr3=>
 if !r3 then
 some ((0,[]),false)
 else
 (Ak Ac (t1,(t0.1,(t0.2.1,t0.2.2)),(0,[]),((t1.length:Int),[]),0)).bind λs4=>
 some ((s4.2.1,s4.2.2),true)
def AH (values:List Int) (t1:List Int) (t2:List ByteArray) (t3:List (List Int)):Option ((List ByteArray)×(List (List Int))×Bool):=
 (BC t1 values).bind λr1=>
 (BI r1).bind λr2=>
 if !(Xs t2 r2)then
 if t3.length+ [r1].length<=lim then
 some (YhI t2 r2,t3++ [r1],true)
 else none
 else
 some (t2,t3,true)
def Ab (rec:(Int×(List Int)×((List Int)×((List ByteArray)×(List (List Int))))×(Bool×Int×(List (List (List Int)))×(List (List (List ByteArray))))×(List Int)×Unit)->Option ((List Int)×(Unit×((List ByteArray)×(List (List Int))))×(Bool×Int×(List (List (List Int)))×(List (List (List ByteArray))))×(List Int)×Bool)):Nat->(Int×(List Int)×((List Int)×((List ByteArray)×(List (List Int))))×(Bool×Int×(List (List (List Int)))×(List (List (List ByteArray))))×(List Int)×Unit×Int×Bool×(List (List Int))×Int×Int)->Option (Int×(List Int)×((List Int)×((List ByteArray)×(List (List Int))))×(Bool×Int×(List (List (List Int)))×(List (List (List ByteArray))))×(List Int)×Unit×Int×Bool)
 |0,_=>none
 |n+1,(t0,t1,t2,t3,t4,t5,t8,t9,t50,t51,t52)=>
 if decide (t52<t51)then
 if inb t52 t50 then
 if t9 then
 if t3.1=true then
 if inb t0 t3.2.2.2 then
 if inb t52 (gd t3.2.2.2 t0 [])then
 (BC (gd t50 t52 []) t1).bind λr2=>
 (BI r2).bind λr3=>
 Ab rec n (t0,t1,(t2.1,(t2.2.1,t2.2.2)),t3,t4,(),t8,Xs (gd (gd t3.2.2.2 t0 []) t52 []) r3,t50,t51,w64 (t52+1))
 else none
 else none
 else none
 else
 Ab rec n (t0,t1,(t2.1,(t2.2.1,t2.2.2)),t3,t4,(),t8,false,t50,t51,w64 (t52+1))
 else none
 else
 some (t0,t1,(t2.1,(t2.2.1,t2.2.2)),t3,t4,(),t8,t9)
def Aa (rec:(Int×(List Int)×((List Int)×((List ByteArray)×(List (List Int))))×(Bool×Int×(List (List (List Int)))×(List (List (List ByteArray))))×(List Int)×Unit)->Option ((List Int)×(Unit×((List ByteArray)×(List (List Int))))×(Bool×Int×(List (List (List Int)))×(List (List (List ByteArray))))×(List Int)×Bool)):Nat->(Int×(List Int)×((List Int)×((List ByteArray)×(List (List Int))))×(Bool×Int×(List (List (List Int)))×(List (List (List ByteArray))))×(List Int)×Unit×Int)->Option (((List Int)×((List Int)×((List ByteArray)×(List (List Int))))×(Bool×Int×(List (List (List Int)))×(List (List (List ByteArray))))×(List Int)×Unit)⊕((List Int)×((List Int)×((List ByteArray)×(List (List Int))))×(Bool×Int×(List (List (List Int)))×(List (List (List ByteArray))))×(List Int)×Unit×Bool))
 |0,_=>none
 |n+1,(t0,t1,t2,t3,t4,t5,t8)=>
 if t3.1=true then
 if decide (t8<t3.2.1)then
 if inb t0 t4 then
 if decide ((gd t4 t0 0)≥0)then
 if inb t0 t4 then
 if(gd t4 t0 0) !=t8 then
 Aa rec n (t0,t1,(t2.1,(t2.2.1,t2.2.2)),t3,t4,(),w64 (t8+1))
 else
 if inb t0 t1 then
 if t3.1=true then
 if inb t0 t3.2.2.1 then
 (Ab rec Ac (t0,stt t1 t0 t8,(t2.1,(t2.2.1,t2.2.2)),t3,t4,(),t8,true,gd t3.2.2.1 t0 [],((gd t3.2.2.1 t0 []).length:Int),0)).bind λs2=>
 if s2.2.2.2.2.2.2.2 then
 (rec (w64 (s2.1+1),s2.2.1,(s2.2.2.1.1,(s2.2.2.1.2.1,s2.2.2.1.2.2)),s2.2.2.2.1,s2.2.2.2.2.1,())).bind λr3=>
 if !r3.2.2.2.2 then
 some (.inr (r3.1,(s2.2.2.1.1,(r3.2.1.2.1,r3.2.1.2.2)),r3.2.2.1,r3.2.2.2.1,(),false))
 else
 Aa rec n (s2.1,r3.1,(s2.2.2.1.1,(r3.2.1.2.1,r3.2.1.2.2)),r3.2.2.1,r3.2.2.2.1,(),w64 (s2.2.2.2.2.2.2.1+1))
 else
 Aa rec n (s2.1,s2.2.1,(s2.2.2.1.1,(s2.2.2.1.2.1,s2.2.2.1.2.2)),s2.2.2.2.1,s2.2.2.2.2.1,(),w64 (s2.2.2.2.2.2.2.1+1))
 else none
 else none
 else none
 else none
 else
 if inb t0 t1 then
 if t3.1=true then
 if inb t0 t3.2.2.1 then
 (Ab rec Ac (t0,stt t1 t0 t8,(t2.1,(t2.2.1,t2.2.2)),t3,t4,(),t8,true,gd t3.2.2.1 t0 [],((gd t3.2.2.1 t0 []).length:Int),0)).bind λs4=>
 if s4.2.2.2.2.2.2.2 then
 (rec (w64 (s4.1+1),s4.2.1,(s4.2.2.1.1,(s4.2.2.1.2.1,s4.2.2.1.2.2)),s4.2.2.2.1,s4.2.2.2.2.1,())).bind λr5=>
 if !r5.2.2.2.2 then
 some (.inr (r5.1,(s4.2.2.1.1,(r5.2.1.2.1,r5.2.1.2.2)),r5.2.2.1,r5.2.2.2.1,(),false))
 else
 Aa rec n (s4.1,r5.1,(s4.2.2.1.1,(r5.2.1.2.1,r5.2.1.2.2)),r5.2.2.1,r5.2.2.2.1,(),w64 (s4.2.2.2.2.2.2.1+1))
 else
 Aa rec n (s4.1,s4.2.1,(s4.2.2.1.1,(s4.2.2.1.2.1,s4.2.2.1.2.2)),s4.2.2.2.1,s4.2.2.2.2.1,(),w64 (s4.2.2.2.2.2.2.1+1))
 else none
 else none
 else none
 else none
 else
 some (.inl (t1,(t2.1,(t2.2.1,t2.2.2)),t3,t4,()))
 else none
def Ap (rec:(Int×(List Int)×((List Int)×((List ByteArray)×(List (List Int))))×(Bool×Int×(List (List (List Int)))×(List (List (List ByteArray))))×(List Int)×Unit)->Option ((List Int)×(Unit×((List ByteArray)×(List (List Int))))×(Bool×Int×(List (List (List Int)))×(List (List (List ByteArray))))×(List Int)×Bool)) (t0:Int) (t1:List Int) (t2:(List Int)×((List ByteArray)×(List (List Int)))) (t3:Bool×Int×(List (List (List Int)))×(List (List (List ByteArray)))) (t4:List Int) (t5:Unit):Option ((List Int)×(Unit×((List ByteArray)×(List (List Int))))×(Bool×Int×(List (List (List Int)))×(List (List (List ByteArray))))×(List Int)×Bool):=
 if t0==(t1.length:Int)then
  (AH t1 t2.1 t2.2.1 t2.2.2).bind λr1=>
   some (t1,((),(r1.1,r1.2.1)),t3,t4,r1.2.2)
 else
  (Aa rec Ac (t0,t1,(t2.1,(t2.2.1,t2.2.2)),t3,t4,(),0)).bind λs2=>
   match s2 with
   | .inl s3=>
    some (s3.1,((),(s3.2.1.2.1,s3.2.1.2.2)),s3.2.2.1,s3.2.2.2.1,true)
   | .inr s4=>
    some (s4.1,((),(s4.2.1.2.1,s4.2.1.2.2)),s4.2.2.1,s4.2.2.2.1,s4.2.2.2.2.2)
def Ag:Nat->(Int×(List Int)×((List Int)×((List ByteArray)×(List (List Int))))×(Bool×Int×(List (List (List Int)))×(List (List (List ByteArray))))×(List Int)×Unit)->Option ((List Int)×(Unit×((List ByteArray)×(List (List Int))))×(Bool×Int×(List (List (List Int)))×(List (List (List ByteArray))))×(List Int)×Bool)
 |0,_=>none
 |d+1,x=>Ap (Ag d) x.1 x.2.1 x.2.2.1 x.2.2.2.1 x.2.2.2.2.1 x.2.2.2.2.2
def As (s:Bool×Int×(List (List (List Int)))×(List (List (List ByteArray)))) (partial_:List Int) (found:(List Int)×((List ByteArray)×(List (List Int)))):Option ((Unit×((List ByteArray)×(List (List Int))))):=
 if 0<=(partial_.length:Int)/\(partial_.length:Int)<=(partial_.length:Int)/\(partial_.length:Int)<=lim then
 (Ag Ac (0,List.replicate (Int.toNat (partial_.length:Int)) (0:Int),(found.1,(found.2.1,found.2.2)),s,partial_,())).bind λr1=>
 some ((),(r1.2.1.2.1,r1.2.1.2.2))
 else none
def An (net:Int×Int×(List ((List Int)×Int×(List (List Int))))) (found:(List Int)×((List ByteArray)×(List (List Int)))):Option ((Unit×((List ByteArray)×(List (List Int))))):=
 (BP (net.1,(net.2.1,net.2.2))).bind λr1=>
 (Cc net.1).bind λr2=>
 (As r1 r2 (found.1,(found.2.1,found.2.2))).bind λr3=>
 some ((),(r3.2.1,r3.2.2))
def AB (net:Int×Int×(List ((List Int)×Int×(List (List Int))))) (vars:List Int):Option ((Int×(List (List Int)))×Bool):=
 (B9 (net.1,(net.2.1,net.2.2))).bind λr1=>
 if !r1 then
 some ((0,[]),false)
 else
 if decide ((vars.length:Int)<1)then
 some ((0,[]),false)
 else
 if decide ((vars.length:Int)>3)then
 some ((0,[]),false)
 else
 (B2 vars net.1).bind λr2=>
 if !r2 then
 some ((0,[]),false)
 else
 (An (net.1,(net.2.1,net.2.2)) (vars,([],[]))).bind λr3=>
 (BO (vars.length:Int) r3.2.2).bind λr4=>
 some ((r4.1,r4.2),true)
def Be (t0:Int×Int×(List ((List Int)×Int×(List (List Int))))) (t1:List Int):Option (Bool):=
 if decide ((t1.length:Int)>1048576)then
 some true
 else
 (Ch (t0.1,(t0.2.1,t0.2.2)) 1048576).bind λr1=>
 if decide (r1<0)then
 some true
 else
 (AM (t0.1,(t0.2.1,t0.2.2))).bind λr2=>
 (Bb t1).bind λr3=>
 (AP (r2.1,(r2.2.1,r2.2.2)) r3).bind λr4=>
 (AM (t0.1,(t0.2.1,t0.2.2))).bind λr5=>
 (Bb t1).bind λr6=>
 (AB (r5.1,(r5.2.1,r5.2.2)) r6).bind λr7=>
 (Az (r7.1.1,r7.1.2) (r4.1.1,r4.1.2)).bind λr8=>
 if !r8 then
 some false
 else
 if r7.2 !=r4.2 then
 some false
 else
 (AM (t0.1,(t0.2.1,t0.2.2))).bind λr9=>
 (Bu (r5.1,(r5.2.1,r5.2.2)) (r9.1,(r9.2.1,r9.2.2))).bind λr10=>
 if !r10 then
 some false
 else
 (Bb t1).bind λr11=>
 (B3 r6 r11).bind λr12=>
 if !r12 then
 some false
 else
 (BD (r5.1,(r5.2.1,r5.2.2)) 1).bind λr13=>
 (BG r6 r13.2).bind λr14=>
 if decide (r14.2<0)then
 some false
 else
 (Az (r7.1.1,r7.1.2) (r4.1.1,r4.1.2)).bind λr15=>
 if !r15 then
 some false
 else
 if r7.2 !=r4.2 then
 some false
 else
 (BT (r7.1.1,r7.1.2) 1).bind λr16=>
 (Bn (r7.1.1,r16.1.2) 1).bind λr17=>
 if decide (r17<0)then
 some false
 else
 if r17 !=r16.2 then
 some false
 else
 (AM (t0.1,(t0.2.1,t0.2.2))).bind λr18=>
 (Bb t1).bind λr19=>
 (AB (r18.1,(r18.2.1,r18.2.2)) r19).bind λr20=>
 (Az (r20.1.1,r20.1.2) (r4.1.1,r4.1.2)).bind λr21=>
 if !r21 then
 some false
 else
 if r20.2 !=r4.2 then
 some false
 else
 (Bn (r7.1.1,r16.1.2) 1).bind λr22=>
 if decide (r22<0)then
 some false
 else
 if r22 !=r16.2 then
 some false
 else
 some true
end T
open Go Go.Va
namespace T
abbrev SRs:=List ByteArray×List (List Int)
def DU (vars:List Int) (t:List Int) (s:SRs):Option (SRs×Bool):=(AH t vars s.1 s.2).bind λr=>some ((r.1,r.2.1),r.2.2)
theorem BH {c:Prop} [Decidable c] {α β:Type} {g:α->β} {a b:Option β} {a' b':Option α} (h1:a=a'.map g) (h2:b=b'.map g):(if c then a else b)=(if c then a' else b').map g:=by
 by_cases h:c
 ·rw[if_pos h,if_pos h,h1]
 ·rw[if_neg h,if_neg h,h2]
section
variable {vars:List Int}
theorem Dz (rec): ∀f t0 t1 (s:SRs) t3 t4 t5 t8 t9 t50 t51 t52,Ab rec f (t0,t1,(vars,s),t3,t4,t5,t8,t9,t50,t51,t52)=(hM f (t0,t1,s,t3,t4,t5,t8,t9,t50,t51,t52)).map λy=>(y.1,y.2.1,(vars,y.2.2.1),y.2.2.2)
 |0,_,_,_,_,_,_,_,_,_,_,_=>rfl
 |f+1,t0,t1,s,t3,t4,t5,t8,t9,t50,t51,t52=>by
  simp only[Ab,hM]
  split
  ·split
   ·split
    ·split
     ·split
      ·split
       ·cases BC (gd t50 t52 []) t1 with
        |none=>rfl
        |some r2=>
         simp only[Option.bind_some]
         cases BI r2 with
         |none=>rfl
         |some r3=>simp only[Option.bind_some];exact Dz rec f ..
       ·rfl
      ·rfl
     ·rfl
    ·exact Dz rec f ..
   ·rfl
  ·rfl
abbrev GR:=Int×List Int×(List Int×SRs)×NS×List Int×Unit
abbrev Gw:=List Int×(Unit×SRs)×NS×List Int×Bool
theorem Ep (rec:GR->Option Gw) (rec0:NIn SRs->Option (Fh SRs)) (hrec: ∀a t (s:SRs) n g u,rec (a,t,(vars,s),n,g,u)=(rec0 (a,t,s,n,g,u)).map λy=>(y.1,((),y.2.1),y.2.2)):
    ∀f t0 t1 (s:SRs) t3 t4 t5 t8,Aa rec f (t0,t1,(vars,s),t3,t4,t5,t8)=(hL rec0 f (t0,t1,s,t3,t4,t5,t8)).map λy=>match y with
      | .inl y=> .inl (y.1,(vars,y.2.1),y.2.2)
      | .inr y=> .inr (y.1,(vars,y.2.1),y.2.2)
  |0,_,_,_,_,_,_,_=>rfl
  |f+1,t0,t1,(p,q),t3,t4,t5,t8=>by
    have ih:=Ep rec rec0 hrec f
    have key : (Ab rec Ac (t0, stt t1 t0 t8, (vars, (p, q)), t3, t4, (), t8, true, gd t3.2.2.1 t0 [], ((gd t3.2.2.1 t0 []).length : Int), 0)).bind (fun s2 =>
                        if s2.2.2.2.2.2.2.2 then
                          (rec (w64 (s2.1+1),s2.2.1,(s2.2.2.1.1,(s2.2.2.1.2.1,s2.2.2.1.2.2)),s2.2.2.2.1,s2.2.2.2.2.1,())).bind λr3=>
                            if !r3.2.2.2.2 then
                              some (.inr (r3.1,(s2.2.2.1.1,(r3.2.1.2.1,r3.2.1.2.2)),r3.2.2.1,r3.2.2.2.1,(),false))
                            else
                              Aa rec f (s2.1,r3.1,(s2.2.2.1.1,(r3.2.1.2.1,r3.2.1.2.2)),r3.2.2.1,r3.2.2.2.1,(),w64 (s2.2.2.2.2.2.2.1+1))
                        else
                          Aa rec f (s2.1,s2.2.1,(s2.2.2.1.1,(s2.2.2.1.2.1,s2.2.2.1.2.2)),s2.2.2.2.1,s2.2.2.2.2.1,(),w64 (s2.2.2.2.2.2.2.1+1)))
        = ((hM Ac (t0, stt t1 t0 t8, (p, q), t3, t4, (), t8, true, gd t3.2.2.1 t0 [], ((gd t3.2.2.1 t0 []).length : Int), 0)).bind fun s2 =>
                        if s2.2.2.2.2.2.2.2 then
                          (rec0 (w64 (s2.1+1),s2.2.1,s2.2.2.1,s2.2.2.2.1,s2.2.2.2.2.1,())).bind λr3=>
                            if !r3.2.2.2.2 then
                              some (.inr (r3.1,r3.2.1,r3.2.2.1,r3.2.2.2.1,(),false))
                            else
                              hL rec0 f (s2.1,r3.1,r3.2.1,r3.2.2.1,r3.2.2.2.1,(),w64 (s2.2.2.2.2.2.2.1+1))
                        else
                          hL rec0 f (s2.1,s2.2.1,s2.2.2.1,s2.2.2.2.1,s2.2.2.2.2.1,(),w64 (s2.2.2.2.2.2.2.1+1))).map λy=>match y with
      | .inl y=> .inl (y.1,(vars,y.2.1),y.2.2)
      | .inr y=> .inr (y.1,(vars,y.2.1),y.2.2):=by
      rw[Dz]
      generalize hM Ac (t0,stt t1 t0 t8,(p,q),t3,t4,(),t8,true,gd t3.2.2.1 t0 [],((gd t3.2.2.1 t0 []).length:Int),0)=o
      cases o with
      |none=>rfl
      |some y=>
        obtain⟨y0,y1,⟨y2,y3⟩,y4,y5,y6,y7,y8⟩:=y
        rw[Option.map_some,Option.bind_some,Option.bind_some]
        dsimp only
        cases y8 with
        |false=>exact ih ..
        |true=>
          rw[if_pos rfl,if_pos rfl,hrec]
          generalize rec0 (w64 (y0+1),y1,(y2,y3),y4,y5,())=o
          cases o with
          |none=>rfl
          |some z=>
            obtain⟨z0,⟨z1,z2⟩,z3,z4,z5⟩:=z
            rw[Option.map_some,Option.bind_some,Option.bind_some]
            dsimp only
            cases z5 with
            |false=>rfl
            |true=>exact ih ..
    rw[Aa,hL]
    dsimp only
    rw[key]
    exact BH (BH (BH (BH (BH (BH (ih ..) (BH (BH (BH rfl rfl) rfl) rfl)) rfl) (BH (BH (BH rfl rfl) rfl) rfl)) rfl) rfl) rfl
theorem Fq: ∀d a t (s:SRs) n g u,Ag d (a,t,(vars,s),n,g,u)=(hF (DU vars) d (a,t,s,n,g,u)).map λy=>(y.1,((),y.2.1),y.2.2)
 |0,_,_,_,_,_,_=>rfl
 |d+1,a,t,s,n,g,u=>by
  have ih:=Fq d
  rw[Ag,hF]
  unfold ER Ap
  dsimp only
  split
  ·unfold DU
   cases AH t vars s.1 s.2<;>rfl
  ·have:=Ep _ (hF (DU vars) d) ih Ac a t s n g () 0
   rw[this]
   cases hL (hF (DU vars) d) Ac (a,t,s,n,g,(),0)with
   |none=>rfl
   |some z=>cases z<;>rfl
def C4 (vars:List Int) (acc:List (List Int)) (t:List Int):List (List Int):=if vars.map (BL t)∈acc then acc else acc++ [vars.map (BL t)]
theorem Em {u:List Int}: ∀(l acc:List (List Int)),u∈l.foldl (C4 vars) acc↔u∈acc∨ ∃t∈l,u=vars.map (BL t)
 | [],acc=>by simp
 |t::l,acc=>by
  rw[List.foldl_cons,Em l]
  unfold C4
  split
  ·rename_i h
   constructor
   ·rintro (h1|⟨s,h1,h2⟩)
    ·exact .inl h1
    ·exact .inr ⟨s,List.mem_cons_of_mem _ h1,h2⟩
   ·rintro (h1|⟨s,h1,h2⟩)
    ·exact .inl h1
    ·rcases List.mem_cons.1 h1 with rfl|h1
     ·exact .inl (h2▸h)
     ·exact .inr ⟨s,h1,h2⟩
  ·constructor
   ·rintro (h1|⟨s,h1,h2⟩)
    ·rcases List.mem_append.1 h1 with h1|h1
     ·exact .inl h1
     ·rw[List.mem_singleton]at h1;exact .inr ⟨t,List.mem_cons_self ..,h1⟩
    ·exact .inr ⟨s,List.mem_cons_of_mem _ h1,h2⟩
   ·rintro (h1|⟨s,h1,h2⟩)
    ·exact .inl (List.mem_append_left _ h1)
    ·rcases List.mem_cons.1 h1 with rfl|h1
     ·exact .inl (List.mem_append_right _ (by simp[h2]))
     ·exact .inr ⟨s,h1,h2⟩
theorem E6 {l:List (List Int)} {t:List Int}:BR (l++ [t])=YhI (BR l) (DE t):=by unfold BR;rw[List.foldl_append];rfl
variable {V n:Nat}
theorem EQ (hn:n<=4) (hvl:vars.length<=3) (hv: ∀v∈vars,0<=v/\v<(V:Int)): ∀(l acc:List (List Int)),(∀t∈l,t.length=V/\ ∀u,u<V->0<=t.getD u 0/\t.getD u 0<(n:Int))->(∀r∈acc,∀x∈r,0<=x/\x<256)->acc.length+l.length<=1000000->
  AZ (DU vars) l (BR acc,acc)=some ((BR (l.foldl (C4 vars) acc),l.foldl (C4 vars) acc),true)
 | [],acc,_,_,_=>by simp[AZ]
 |t::l,acc,h,ha,hb=>by
  obtain⟨h1,h2⟩:=h t (List.mem_cons_self ..)
  simp only[List.length_cons]at hb
  have hx: ∀x∈vars.map (BL t),0<=x/\x<256:=λx hx=>by
   obtain⟨v,hv',rfl⟩:=List.mem_map.1 hx
   have hv':=hv v hv'
   have:=h2 v.toNat (by omega)
   unfold BL;omega
  have e1:=CD (f:=vars) (g:=t) (by omega) (λv hv'=>by have:=hv v hv';omega)
  have e2:=Co (l:=vars.map (BL t)) (by simp;omega) hx
  have e3:=D4 (l:=acc) (t:=vars.map (BL t)) ha hx
  have e:DU vars t (BR acc,acc)=some ((BR (C4 vars acc t),C4 vars acc t),true):=by
   unfold DU AH C4
   simp only[e1,e2,e3,Option.bind_some]
   by_cases hm:vars.map (BL t)∈acc
   ·rw[decide_eq_true hm,if_pos hm];rfl
   ·rw[decide_eq_false hm,if_neg hm,E6]
    rw[if_pos (show(!false)=true from rfl),if_pos (by unfold lim;simp only[List.length_singleton];omega)];rfl
  simp only[AZ,e,List.foldl_cons]
  refine EQ hn hvl hv l _ (λt ht=>h t (List.mem_cons_of_mem _ ht)) (λr hr=>?_) ?_
  ·unfold C4 at hr
   split at hr
   ·exact ha r hr
   ·rcases List.mem_append.1 hr with hr|hr
    ·exact ha r hr
    ·rw[List.mem_singleton]at hr;subst hr;exact hx
  ·have:(C4 vars acc t).length<=acc.length+1:=by unfold C4;split<;>simp
   omega
end
end T
open Go Go.Va
namespace T
def FP (n k:Nat):List (List Int):=(List.range (n^k)).map λi=>cI (dg n k i)
theorem Ef {n:Nat}: ∀(k i:Nat),i<n^k->C6 (n:Int) 0 (cI (dg n k i))=(i:Int)
 |0,i,h=>by
  have:i=0:=by simpa using h
  subst this;rfl
 |k+1,i,h=>by
  have hn:0<n:=by
   rcases Nat.eq_zero_or_pos n with h0|h0
   ·subst h0;simp at h
   ·exact h0
  have hi:i/n<n^k:=by rw[Nat.div_lt_iff_lt_mul hn];rw[Nat.pow_succ]at h;exact h
  simp only[dg,E1]
  rw[show cI [i%n]= [((i%n:Nat):Int)] from rfl,D2,Ef k _ hi]
  have:=Nat.div_add_mod i n
  have e:((i/n:Nat):Int)*(n:Int)=((n*(i/n):Nat):Int):=by rw[Nat.mul_comm];simp
  rw[e];omega
theorem Db {n k i:Nat}:(cI (dg n k i)).length=k:=by rw[Fj,Fm]
theorem Eo {n k i:Nat} (hn:0<n): ∀x∈cI (dg n k i),0<=x/\x<(n:Int):=λx hx=>by
 unfold cI at hx
 obtain⟨y,hy,rfl⟩:=List.mem_map.1 hx
 have:=Gh hn y hy
 omega
theorem En {n k i:Nat} (hn:0<n):Ay (n:Int) (cI (dg n k i))=true:=by
 unfold Ay
 rw[List.all_eq_true]
 exact λx hx=>by simpa using Eo hn x hx
theorem FQ {n k:Nat} (hn:0<n):BX (FP n k)=true:=by
 rw[BK]
 unfold FP
 rw[List.pairwise_map]
 refine List.Pairwise.imp_of_mem ?_ (List.pairwise_lt_range (n:=n^k))
 intro i j hi hj hij
 have hi:=List.mem_range.1 hi
 have hj:=List.mem_range.1 hj
 refine(Eh (En hn) (En hn) (by rw[Db,Db])).1.2 ?_
 unfold idx
 rw[Ef k i hi,Ef k j hj];omega
theorem FR {n k:Nat} {u:List Int} (hl:u.length=k) (hv: ∀x∈u,0<=x/\x<(n:Int)):u∈FP n k:=by
 obtain⟨i,h1,h2⟩:=FY (b:=n) k (u.map Int.toNat) (by simpa using hl) (λy hy=>by
  obtain⟨x,hx,rfl⟩:=List.mem_map.1 hy
  have:=hv x hx;omega)
 refine List.mem_map.2 ⟨i,List.mem_range.2 h1,?_⟩
 rw[h2]
 unfold cI
 rw[List.map_map]
 have:u.map ((λx:Nat=>(x:Int)) ∘ Int.toNat)=u.map id:=List.map_congr_left λx hx=>by
  have:=hv x hx
  simp;omega
 rw[this,List.map_id]
section
variable {V n:Nat} {cs:List Con} {P s:List Int} {g:Bool}
def pgS (q:List Int×Bool) (z:Int×Int):List Int×Bool:=(q.1.set z.1.toNat z.2,q.2&&(decide (q.1.getD z.1.toNat 0<0)||q.1.getD z.1.toNat 0==z.2))
def agr (V:Nat) (P s:List Int):Prop:= ∀q,q<V->P.getD q 0<0∨s.getD q 0=P.getD q 0
theorem Ei: ∀(l:List (Int×Int)) (q:List Int×Bool),(l.foldl pgS q).1.length=q.1.length
 | [],_=>rfl
 |z::l,q=>by rw[List.foldl_cons,Ei l];simp[pgS]
theorem EK: ∀(l:List (Int×Int)) (P:List Int) (g:Bool),P.length=V->(∀z∈l,0<=z.1/\z.1<(V:Int)/\0<=z.2)->
  ((l.foldl pgS (P,g)).2=true/\agr V (l.foldl pgS (P,g)).1 s↔g=true/\agr V P s/\ ∀z∈l,s.getD z.1.toNat 0=z.2)
 | [],P,g,_,_=>by simp
 |z::l,P,g,hP,hz=>by
  obtain⟨z1,z2,z3⟩:=hz z (List.mem_cons_self ..)
  rw[List.foldl_cons]
  have:=EK l (pgS (P,g) z).1 (pgS (P,g) z).2 (by simp[pgS,hP]) λy hy=>hz y (List.mem_cons_of_mem _ hy)
  rw[this]
  have hset: ∀q,q<V->(P.set z.1.toNat z.2).getD q 0=if z.1.toNat=q then z.2 else P.getD q 0:=λq hq=>by
   rw[Ax (by simpa[hP]using hq),List.getElem_set]
   split
   ·rfl
   ·rw[Ax (by rw[hP];exact hq)]
  simp only[pgS,List.forall_mem_cons,Bool.and_eq_true,Bool.or_eq_true,decide_eq_true_eq,beq_iff_eq]
  constructor
  ·rintro ⟨⟨h1,h2⟩,h3,h4⟩
   have hs:s.getD z.1.toNat 0=z.2:=by
    rcases h3 z.1.toNat (by omega)with h|h
    ·rw[hset _ (by omega),if_pos rfl]at h;omega
    ·rw[hset _ (by omega),if_pos rfl]at h;exact h
   refine⟨h1,λq hq=>?_,hs,h4⟩
   by_cases e:z.1.toNat=q
   ·subst e
    rcases h2 with h2|h2
    ·exact .inl h2
    ·exact .inr (by rw[hs,h2])
   ·have:=h3 q hq
    rw[hset q hq,if_neg e]at this;exact this
  ·rintro ⟨h1,h2,h3,h4⟩
   refine⟨⟨h1,?_⟩,λq hq=>?_,h4⟩
   ·rcases h2 z.1.toNat (by omega)with h|h
    ·exact .inl h
    ·exact .inr (by rw[←h,h3])
   ·rw[hset q hq]
    by_cases e:z.1.toNat=q
    ·rw[if_pos e];subst e;exact .inr h3
    ·rw[if_neg e];exact h2 q hq
theorem EC (hP:P.length=V) {t:List Int}:t∈BU V n cs P↔t∈BU V n cs (List.replicate V (-1))/\agr V P t:=by
 unfold BU
 rw[CU,CU]
 simp only[List.length_nil,Nat.zero_add,List.take_zero,true_and,Nat.zero_le,true_implies]
 have hm: ∀q,q<V->0<=t.getD q 0->(Ck P q (t.getD q 0).toNat=true↔(P.getD q 0<0∨t.getD q 0=P.getD q 0)):=λq hq h0=>by
  unfold Ck
  simp only[Bool.not_eq_true',Bool.and_eq_false_iff,decide_eq_false_iff_not,bne_eq_false_iff_eq]
  have e:(((t.getD q 0).toNat:Nat):Int)=t.getD q 0:=Int.toNat_of_nonneg h0
  rw[e]
  constructor
  ·rintro (h|h)
   ·exact .inl (by omega)
   ·exact .inr h.symm
  ·rintro (h|h)
   ·exact .inl (by omega)
   ·exact .inr h.symm
 constructor
 ·rintro ⟨h1,h2⟩
  exact⟨⟨h1,λq hq=>⟨(h2 q hq).1,FF (by omega),(h2 q hq).2.2⟩⟩,λq hq=>(hm q hq (h2 q (by omega)).1.1).1 (h2 q (by omega)).2.1⟩
 ·rintro ⟨⟨h1,h2⟩,h3⟩
  exact⟨h1,λq hq=>⟨(h2 q hq).1,(hm q (by omega) (h2 q hq).1.1).2 (h3 q (by omega)),(h2 q hq).2.2⟩⟩
theorem Fr (h:SrchOk V n cs) (hP:P.length=V): ∃s:S19,B7 ((V:Int),((n:Int),cs)) cs P 1 true=some s/\decide (s.2.1>0)=!(BU V n cs P).isEmpty:=by
 cases hs:BU V n cs P with
 |nil=>
  have:=DZ (cs0:=cs) (given:=P) (most:=1) (one:=true) h hP (by omega) (s':=([],0,1,true)) (b:=true) (by rw[hs];rfl)
  exact⟨_,this,rfl⟩
 |cons t l=>
  have:=DZ (cs0:=cs) (given:=P) (most:=1) (one:=true) h hP (by omega) (s':=([t],1,1,true)) (b:=false) (by rw[hs];rfl)
  exact⟨_,this,rfl⟩
variable {vars t:List Int}
def Cj (V n:Nat) (cs:List Con) (vars:List Int):List (List Int):=(BU V n cs (List.replicate V (-1))).map λt=>vars.map (BL t)
theorem FI (hvl:vars.length=t.length) (hv: ∀v∈vars,0<=v/\v<(V:Int)) (ht: ∀x∈t,0<=x):
  (((vars.zip t).foldl pgS (List.replicate V (-1),true)).2&&!(BU V n cs ((vars.zip t).foldl pgS (List.replicate V (-1),true)).1).isEmpty)=decide (t∈Cj V n cs vars):=by
 have hlen:((vars.zip t).foldl pgS (List.replicate V (-1),true)).1.length=V:=by rw[Ei];simp
 have hz: ∀z∈vars.zip t,0<=z.1/\z.1<(V:Int)/\0<=z.2:=λz hz=>by
  obtain⟨h1,h2⟩:=List.of_mem_zip (show(z.1,z.2)∈vars.zip t from hz)
  exact⟨(hv _ h1).1,(hv _ h1).2,ht _ h2⟩
 have hfr: ∀s,agr V (List.replicate V (-1)) s:=λs q hq=>by
  left;rw[Ax (by simpa using hq)];simp
 have hzip: ∀s:List Int,(∀z∈vars.zip t,s.getD z.1.toNat 0=z.2)↔t=vars.map (BL s):=λs=>by
  constructor
  ·intro h
   refine List.ext_getElem (by simp[hvl]) λi h1 h2=>?_
   have h3:i<vars.length:=by simpa using h2
   have:=h (vars[i],t[i]) (by
    have:(vars.zip t)[i]'(by simp;omega)=(vars[i],t[i]):=List.getElem_zip
    rw[←this];exact List.getElem_mem _)
   simp only[List.getElem_map,BL]
   exact this.symm
  ·intro h z hz
   obtain⟨i,hi,rfl⟩:=List.mem_iff_getElem.1 hz
   rw[List.getElem_zip]
   dsimp only
   have hi':i<vars.length/\i<t.length:=by simpa[Nat.lt_min]using hi
   have:t[i]=(vars.map (BL s))[i]'(by simp;omega):=by simp only[←h]
   rw[this,List.getElem_map];rfl
 rw[Bool.eq_iff_iff,Bool.and_eq_true,decide_eq_true_eq]
 unfold Cj
 rw[List.mem_map]
 constructor
 ·rintro ⟨h1,h2⟩
  cases hl:BU V n cs ((vars.zip t).foldl pgS (List.replicate V (-1),true)).1 with
  |nil=>rw[hl]at h2;simp at h2
  |cons s l=>
   obtain⟨h3,h4⟩:=(EC hlen).1 (show s∈_ by rw[hl];exact List.mem_cons_self ..)
   have:=(EK (s:=s) _ _ _ (by simp) hz).1 ⟨h1,h4⟩
   exact⟨s,h3,((hzip s).1 this.2.2).symm⟩
 ·rintro ⟨s,h1,h2⟩
  have:=(EK (s:=s) _ _ true (by simp) hz).2 ⟨rfl,hfr s,(hzip s).2 h2.symm⟩
  refine⟨this.1,?_⟩
  have hm:=(EC (n:=n) (cs:=cs) hlen).2 ⟨h1,this.2⟩
  cases hl:BU V n cs ((vars.zip t).foldl pgS (List.replicate V (-1),true)).1 with
  |nil=>rw[hl]at hm;simp at hm
  |cons=>rfl
theorem Gs (hvl:vars.length=t.length) (hl:vars.length<=3) (hv: ∀v∈vars,0<=v/\v<(V:Int)) (N:Net) (t4 t6:Int×List (List Int)) (t7:Int):
  Ah Ac (vars,N,t4,t6,t7,t,List.replicate V (-1),true,0)=some (vars,N,t4,t6,t7,t,((vars.zip t).foldl pgS (List.replicate V (-1),true)).1,((vars.zip t).foldl pgS (List.replicate V (-1),true)).2):=by
 have:=C5 vars.length (λf (q:List Int×Bool) i=>Ah f (vars,N,t4,t6,t7,t,q.1,q.2,i)) (λk=>((vars.zip t).take k).foldl pgS (List.replicate V (-1),true)) (r:=some (vars,N,t4,t6,t7,t,((vars.zip t).foldl pgS (List.replicate V (-1),true)).1,((vars.zip t).foldl pgS (List.replicate V (-1),true)).2)) (λf k hk=>?_) (λf=>?_) (n:=Ac) (by unfold Ac;omega)
 ·exact this
 ·have hkz:k<(vars.zip t).length:=by simp;omega
  have hkt:k<t.length:=by omega
  have e:(vars.zip t).take (k+1)=(vars.zip t).take k++ [(vars[k],t[k])]:=by
   rw[List.take_succ_eq_append_getElem hkz,List.getElem_zip]
  have hlen:(((vars.zip t).take k).foldl pgS (List.replicate V (-1),true)).1.length=V:=by rw[Ei];simp
  rw[e,List.foldl_append]
  generalize ((vars.zip t).take k).foldl pgS (List.replicate V (-1),true)=q at*
  obtain⟨P,g⟩:=q
  have hlen:P.length=V:=hlen
  have hvk:=hv vars[k] (List.getElem_mem hk)
  obtain⟨v,ev⟩: ∃v:Nat,vars[k]=(v:Int):=⟨vars[k].toNat,by omega⟩
  have hvP:v<P.length:=by omega
  simp only[Ah,List.foldl_cons,List.foldl_nil,pgS,Af,hk,hkt,Ai hk,Ai hkt,ev,hvP,if_true,Ai hvP,Int.toNat_natCast,BE,Ae (show k<4611686018427387904 by omega),Ax hvP]
  rw[if_pos (by rw[decide_eq_true_eq];omega)]
  cases g with
  |false=>simp
  |true=>
   rw[if_pos rfl]
   by_cases h:P[v]<0
   ·simp[h]
   ·simp[h]
 ·simp only[Ah]
  rw[if_neg (by simp),List.take_of_length_le (by simp;omega)]
theorem EB (_:SrchOk V n cs) (hv: ∀v∈vars,0<=v/\v<(V:Int)) {u:List Int} (hu:u∈Cj V n cs vars):u.length=vars.length/\ ∀x∈u,0<=x/\x<(n:Int):=by
 unfold Cj at hu
 obtain⟨s,hs,rfl⟩:=List.mem_map.1 hu
 obtain⟨h1,_,h2⟩:=(CU V [] s).1 (show s∈BY n (List.replicate V (-1)) (okN cs) V [] from hs)
 refine⟨by simp,λx hx=>?_⟩
 obtain⟨v,hv',rfl⟩:=List.mem_map.1 hx
 have:=hv v hv'
 simp only[List.length_nil,Nat.zero_add]at h1
 exact(h2 v.toNat (by simp) (by omega)).1
theorem Fe (hS:SrchOk V n cs) (hv: ∀v∈vars,0<=v/\v<(V:Int)):C9 (Cj V n cs vars)=(FP n vars.length).filter λt=>decide (t∈Cj V n cs vars):=by
 have hn:=hS.hn
 refine EY ?_ λu=>?_
 ·rw[BK]
  exact(BK.1 (FQ (by omega))).filter _
 ·rw[List.mem_filter,decide_eq_true_eq]
  refine⟨λh=>h.2,λh=>⟨?_,h⟩⟩
  obtain⟨h1,h2⟩:=EB hS hv h
  exact FR h1 h2
theorem Gd (hS:SrchOk V n cs) (h1:1<=vars.length) (hl:vars.length<=3) (hv: ∀v∈vars,0<=v/\v<(V:Int)):
  Ak Ac (vars,((V:Int),((n:Int),cs)),(0,[]),((vars.length:Int),[]),0)=some ((0,[]),((vars.length:Int),C9 (Cj V n cs vars))):=by
 have hn:=hS.hn
 have hV:=hS.hv
 rw[Fe hS hv]
 have hpow:n^vars.length<=64:=Nat.le_trans (Nat.pow_le_pow_left hn.2 _) (Nat.le_trans (Nat.pow_le_pow_right (by omega) hl) (by decide))
 have:=C5 (n^vars.length) (λf (q:List (List Int)) i=>Ak f (vars,((V:Int),((n:Int),cs)),(0,[]),((vars.length:Int),q),i)) (λk=>((List.range k).map λi=>cI (dg n vars.length i)).filter λt=>decide (t∈Cj V n cs vars)) (r:=some ((0,[]),((vars.length:Int),(FP n vars.length).filter λt=>decide (t∈Cj V n cs vars)))) (λf k hk=>?_) (λf=>?_) (n:=Ac) (by unfold Ac;omega)
 ·exact this
 ·have e1:=DN (b:=n) (k:=vars.length) (by omega) hl
  have e2:=DL (b:=n) (k:=vars.length) (i:=k) (by omega) (by omega) (by omega)
  have e3:=Ft (N:=V) (by omega)
  have hq:=Eo (n:=n) (k:=vars.length) (i:=k) (by omega)
  have hql:=Db (n:=n) (k:=vars.length) (i:=k)
  have e4:=λt6=>Gs (V:=V) (t:=cI (dg n vars.length k)) (vars:=vars) hql.symm hl hv ((V:Int),((n:Int),cs)) (0,[]) t6 (k:Int)
  have hpl:((vars.zip (cI (dg n vars.length k))).foldl pgS (List.replicate V (-1),true)).1.length=V:=by rw[Ei];simp
  obtain⟨s,e5,e6⟩:=Fr hS hpl
  have e7:=FI (V:=V) (n:=n) (cs:=cs) (t:=cI (dg n vars.length k)) hql.symm hv λx hx=>(hq x hx).1
  rw[List.range_succ,List.map_append,List.filter_append,List.map_singleton]
  simp only[Ak,e1,e2,e3,e4,e5,e6,Option.bind_some,Ae (show k<4611686018427387904 by omega)]
  rw[if_pos (by rw[decide_eq_true_eq];omega)]
  have hfl:((List.filter (λt=>decide (t∈Cj V n cs vars)) (List.map (λi=>cI (dg n vars.length i)) (List.range k))).length)<=k:=Nat.le_trans (List.length_filter_le _ _) (by simp)
  rw[List.filter_cons,List.filter_nil,←e7]
  clear e7 e6 e5 e4
  generalize ((vars.zip (cI (dg n vars.length k))).foldl pgS (List.replicate V (-1),true)).2=g at*
  generalize (BU V n cs ((vars.zip (cI (dg n vars.length k))).foldl pgS (List.replicate V (-1),true)).1).isEmpty=z at*
  cases g with
  |false=>simp
  |true=>
   cases z with
   |false=>
    simp only[Bool.not_false,Bool.and_self,if_true]
    rw[if_pos (by unfold lim;simp only[List.length_singleton];omega)]
   |true=>simp
 ·have e1:=DN (b:=n) (k:=vars.length) (by omega) hl
  simp only[Ak,e1,Option.bind_some]
  rw[if_neg (by simp)]
  rfl
end
end T
open Go Go.Va
namespace T
section
variable {a:Net} {vars:List Int}
theorem Dw: ∀(l acc:List (List Int)),acc.Nodup->(l.foldl (C4 vars) acc).Nodup
 | [],_,h=>h
 |t::l,acc,h=>by
  rw[List.foldl_cons]
  refine Dw l _ ?_
  unfold C4
  split
  ·exact h
  ·rename_i hn
   rw[List.nodup_append]
   refine⟨h,by simp,λx hx y hy=>?_⟩
   rw[List.mem_singleton]at hy;subst hy
   exact λe=>hn (e▸hx)
theorem Ff {l:List (List Int)} {u:List Int}:u∈Zn cmpL l↔u∈l:=(List.mergeSort_perm l _).mem_iff
theorem Gc {V n:Nat} {cs:List Con} (hS:SrchOk V n cs) (hl:vars.length<=3) (hv: ∀v∈vars,0<=v/\v<(V:Int)):
  ∃k L,An ((V:Int),((n:Int),cs)) (vars,([],[]))=some ((),(k,L))/\L.length<=64/\(∀r∈L,r.length<=3)/\C9 L=C9 (Cj V n cs vars):=by
 have hV:=hS.hv
 have hn:=hS.hn
 have e1:=Fa hS
 have hin: ∀t∈BU V n cs (List.replicate V (-1)),t.length=V/\ ∀u,u<V->0<=t.getD u 0/\t.getD u 0<(n:Int):=λt ht=>by
  obtain⟨h1,_,h2⟩:=(CU V [] t).1 (show t∈BY n (List.replicate V (-1)) (okN cs) V [] from ht)
  simp only[List.length_nil,Nat.zero_add]at h1
  exact⟨h1,λu hu=>(h2 u (by simp) (by omega)).1⟩
 have hlen:(BU V n cs (List.replicate V (-1))).length<=262144:=by
  refine Nat.le_trans (Ec (n:=n) (given:=List.replicate V (-1)) V []) ?_
  exact Nat.le_trans (Nat.pow_le_pow_left hn.2 V) (Nat.le_trans (Nat.pow_le_pow_right (by omega) hV) (by decide))
 have hfold:=EQ (vars:=vars) (V:=V) (n:=n) hn.2 hl hv (BU V n cs (List.replicate V (-1))) [] hin (by simp) (by simp;omega)
 have hfold:AZ (DU vars) (BY n (List.replicate V (-1)) (okN cs) V ((List.replicate V (0:Int)).take 0)) ([],[])=_:=hfold
 have hmem: ∀u,u∈(BU V n cs (List.replicate V (-1))).foldl (C4 vars) []↔u∈Cj V n cs vars:=λu=>by
  rw[Em]
  unfold Cj
  rw[List.mem_map]
  constructor
  ·rintro (h|⟨t,h1,h2⟩)
   ·simp at h
   ·exact⟨t,h1,h2.symm⟩
  ·rintro ⟨t,h1,h2⟩;exact .inr ⟨t,h1,h2.symm⟩
 have hnd:=Dw (vars:=vars) (BU V n cs (List.replicate V (-1))) [] List.nodup_nil
 generalize (BU V n cs (List.replicate V (-1))).foldl (C4 vars) []=L at*
 have hL: ∀u∈L,u.length=vars.length/\ ∀x∈u,0<=x/\x<(n:Int):=λu hu=>EB hS hv ((hmem u).1 hu)
 obtain⟨tab',_,_,_,h4⟩:=GC hS (given:=List.replicate V (-1)) (by simp) (DU vars) V Ac 0 (List.replicate V 0) ([],[]) (by omega) (by unfold Ac;omega) (by simp) (λx hx=>by rw[List.eq_of_mem_replicate hx];omega) _ _ hfold
 have h5:=Fq (vars:=vars) Ac 0 (List.replicate V 0) ([],[]) (Dl V n cs) (List.replicate V (-1)) ()
 have h4:hF (DU vars) Ac (0,List.replicate V 0,([],[]),Dl V n cs,List.replicate V (-1),())=_:=h4
 rw[h4]at h5
 refine⟨BR L,L,?_,?_,λr hr=>by rw[(hL r hr).1];omega,EY (EA _) λu=>setL_mem.trans (hmem u).symm⟩
 ·unfold An As
  have hr:List.replicate (Int.toNat ((List.replicate V (-1:Int)).length:Int)) (0:Int)=List.replicate V 0:=by simp
  have hlim:0<=((List.replicate V (-1:Int)).length:Int)/\((List.replicate V (-1:Int)).length:Int)<=((List.replicate V (-1:Int)).length:Int)/\((List.replicate V (-1:Int)).length:Int)<=lim:=by rw[List.length_replicate];unfold lim;omega
  simp only[e1,Fs (show V<=1000 by omega),Option.bind_some,hr,h5,Option.map_some]
  rw[if_pos hlim];rfl
 ·have hi:=EH hnd
  have:=Df (n:=(n:Int)) (k:=vars.length) hi λt ht=>by
   obtain⟨h1,h2⟩:=hL t (Ff.1 ht)
   refine⟨h1,?_⟩
   unfold Ay
   rw[List.all_eq_true]
   exact λx hx=>by simpa using h2 x hx
  have hp:(Zn cmpL L).length=L.length:=(List.mergeSort_perm L _).length_eq
  rcases this with h|h
  ·rw[hp]at h
   have hpow:n^vars.length<=64:=Nat.le_trans (Nat.pow_le_pow_left hn.2 _) (Nat.le_trans (Nat.pow_le_pow_right (by omega) hl) (by decide))
   have e:((n:Int)^vars.length)=((n^vars.length:Nat):Int):=by simp
   rw[e]at h;omega
  ·rw[h]at hp;rw[←hp];simp
def srR (a:Net) (vars:List Int):Dj×Bool:=if DQ a&&(decide (1<=vars.length/\vars.length<=3)&&Ay a.1 vars)then(((vars.length:Int),C9 (Cj a.1.toNat a.2.1.toNat a.2.2 vars)),true)else((0,[]),false)
theorem CX (h:Ew a) (hvs:vars.length<=1048576):AB a vars=some (srR a vars)/\AP a vars=some (srR a vars)/\(srR a vars).1.2.length<=64/\ ∀r∈(srR a vars).1.2,r.length<=3:=by
 unfold AB AP srR
 rw[C7 (a:=(a.1,(a.2.1,a.2.2))) h,Do (a:=(a.1,(a.2.1,a.2.2))) h,show DQ (a.1,(a.2.1,a.2.2))=DQ a from rfl]
 cases hb:DQ a with
 |false=>simp
 |true=>
  have hN:=Gn hb
  have hv:=hN.hv
  obtain⟨hS,ea⟩:=E9 hN
  have eV:((a.1.toNat:Nat):Int)=a.1:=Int.toNat_of_nonneg hv.1
  have ex:((a.1.toNat:Int),((a.2.1.toNat:Int),a.2.2))=(a.1,(a.2.1,a.2.2)):=ea.symm
  have i1:=Cd (l:=vars) a.1 (by omega)
  have i2:=BJ (l:=vars) (n:=a.1) (by omega) (by omega) (by omega)
  have i3:=BW (vars.length:Int) 1 3
  by_cases hk:1<=vars.length/\vars.length<=3
  ·have c1:decide ((vars.length:Int)<1)=false:=by simp;omega
   have c2:decide ((vars.length:Int)>3)=false:=by simp;omega
   have c3:decide ((1:Int)<=(vars.length:Int)/\(vars.length:Int)<=3)=true:=by simp;omega
   rw[c3]at i3
   cases hbl:Ay a.1 vars with
   |false=>
    rw[hbl]at i1 i2
    simp only[Option.bind_some,i1,i2,i3,c1,c2]
    simp
   |true=>
    rw[hbl]at i1 i2
    have hvv: ∀v∈vars,0<=v/\v<(a.1.toNat:Int):=λv hv'=>by
     unfold Ay at hbl
     have:=List.all_eq_true.1 hbl v hv'
     rw[eV];simpa using this
    obtain⟨K,L,g1,g2,g3,g4⟩:=Gc hS hk.2 hvv
    rw[ex]at g1
    have g5:=EI (ar:=(vars.length:Int)) (l:=L) (by omega) (λr hr=>by have:=g3 r hr;omega)
    have g6:=Gd hS hk.1 hk.2 hvv
    rw[ex]at g6
    have g7:(C9 (Cj a.1.toNat a.2.1.toNat a.2.2 vars)).length<=64:=by rw[←g4];exact Nat.le_trans (Gb L) g2
    rw[decide_eq_true hk]
    simp only[Option.bind_some,i1,i2,i3,c1,c2,g1,g5,g6,g4,Bool.not_true,Bool.false_eq_true,if_false,Bool.and_self,if_true]
    refine⟨trivial,trivial,g7,λr hr=>?_⟩
    rw[←g4]at hr
    exact g3 r (setL_mem.1 hr)
  ·have c3:decide ((1:Int)<=(vars.length:Int)/\(vars.length:Int)<=3)=false:=by simp;omega
   rw[c3]at i3
   rw[decide_eq_false hk]
   by_cases h1:(vars.length:Int)<1
   ·simp only[Option.bind_some,i3,decide_eq_true h1];simp
   ·have h2:(vars.length:Int)>3:=by omega
    simp only[Option.bind_some,i3,decide_eq_true h2];simp
theorem FnExactSolutionRelation_law (h:wfT GG a) (hv:wfT (.slice .int) vars):Be a vars=some true:=by
 unfold Be
 by_cases hbig:(vars.length:Int)>1048576
 ·rw[if_pos (decide_eq_true hbig)]
 rw[if_neg (by simpa using hbig)]
 have hvs:vars.length<=1048576:=by omega
 rw[Ek (a:=(a.1,(a.2.1,a.2.2))) h]
 simp only[Option.bind_some]
 rw[show Du (a.1,(a.2.1,a.2.2))=Du a from rfl]
 by_cases h:szR (Du a) 1048576<0
 ·rw[if_pos (by simpa using h)]
 ·obtain⟨hs,ht⟩:=Ds h
  rw[if_neg (by simpa using h)]
  obtain⟨b,k,hm,hk0,hk1⟩:=DI hs ht
  obtain⟨e1,e2,r1,r2⟩:=CX hs hvs
  generalize srR a vars=R at*
  have e1:AB (a.1,(a.2.1,a.2.2)) vars=_:=e1
  have e2:AP (a.1,(a.2.1,a.2.2)) vars=_:=e2
  have hm:BD (a.1,(a.2.1,a.2.2)) 1=_:=hm
  have q2:Bu (a.1,(a.2.1,a.2.2)) (a.1,(a.2.1,a.2.2))=_:=EG hs
  have q4:AM (a.1,(a.2.1,a.2.2))=_:=El hs
  have hR3: ∀r∈R.1.2,r.length<=1048576:=λr hr=>by have:=r2 r hr;omega
  have hq:Az (R.1.1,R.1.2) (R.1.1,R.1.2)=some true:=by
   have:=DP (a:=R.1) (b:=R.1) ⟨by omega,hR3⟩
   rw[decide_eq_true rfl]at this
   exact this
  have hsum:=ED (l:=R.1.2) λr hr=>by have:=r2 r hr;omega
  have e3:=DH R.1.2 1
  have e4: ¬(BF R.1.2 1).2<0:=by omega
  have hmR:BT (R.1.1,R.1.2) 1=some (((),(BF R.1.2 1).1),(BF R.1.2 1).2):=by
   unfold BT
   rw[C8 (k:=1) (by omega) hR3 (by omega) (by unfold BM;omega)];rfl
  have hhR:Bn (R.1.1,(BF R.1.2 1).1) 1=some (BF R.1.2 1).2:=by
   unfold Bn
   rw[Ee (k:=1) (by omega) hR3 (by omega) (by unfold BM;omega)]
   simp only[Option.bind_some]
   rw[if_neg (by simpa using e4)]
  have hmv:=CL (l:=vars) (k:=k) hvs hk0 (by unfold BM;omega)
  have hmf:=B8 vars k
  simp only[q4,e1,e2,q2,hm,hmv,hq,hmR,hhR,Dh (show vars.length<=1099511627775 by omega),Dd (show vars.length<=1099511627775 by omega),Option.bind_some]
  simp[e4,show¬(By vars k).2<0 by omega]
end
end T
open Go Go.Va
namespace T
section
variable {n:Nat} {t:List Int}
def FW (n:Nat) (t:List Int) (x y:Nat):Nat:=(t.getD (x*n+y) 0).toNat
structure TabOk (n:Nat) (t:List Int):Prop where
 hn:1<=n/\n<=4
 len:t.length=n*n
 val: ∀x∈t,0<=x/\x<(n:Int)
theorem ix2 (hn:n<=4) {x y:Nat} (hx:x<n) (hy:y<n):w64 (w64 ((x:Int)*(n:Int))+(y:Int))=((x*n+y:Nat):Int)/\x*n+y<n*n:=by
 have h1:x*n+y<n*n:=by
  calc x*n+y<x*n+n:=by omega
   _=(x+1)*n:=by rw[Nat.succ_mul]
   _<=n*n:=Nat.mul_le_mul_right _ hx
 have h2:n*n<=4*4:=Nat.mul_le_mul hn hn
 have e:(x:Int)*(n:Int)=((x*n:Nat):Int):=by simp
 have a1:w64 ((x*n:Nat):Int)=((x*n:Nat):Int):=AO (by omega) (by omega)
 rw[e,a1,AO (by omega) (by omega)]
 exact⟨by omega,h1⟩
theorem TabOk.at (h:TabOk n t) {x y:Nat} (hx:x<n) (hy:y<n):w64 (w64 ((x:Int)*(n:Int))+(y:Int))=((x*n+y:Nat):Int)/\inb ((x*n+y:Nat):Int) t/\gd t ((x*n+y:Nat):Int) 0=((FW n t x y:Nat):Int)/\FW n t x y<n:=by
 obtain⟨h1,h2⟩:=ix2 h.hn.2 hx hy
 have hl:x*n+y<t.length:=by rw[h.len];exact h2
 have hv:=h.val _ (List.getElem_mem hl)
 refine⟨h1,by rw[Af];exact hl,?_,?_⟩
 ·rw[Ai hl];unfold FW;rw[Ax hl];omega
 ·unfold FW;rw[Ax hl];omega
end
end T
open Go Go.Va
namespace T
section
variable {a:Net} {K:Nat} {c:Con} {i p n:Nat} {st:ASt}
def FT (d:Dom) (V:Nat) (t:List Int):Prop:= ∀u,u<V->d2 d u (t.getD u 0).toNat=true
end
end T
open Go Go.Va
namespace T
section
variable {a:Net} {n s:Nat} {t:T4} {u:T3}
def Gx (a:Net) (i j k x y z:Nat):Prop:= ∀c∈a.2.2,(∀v∈c.1,v=(i:Int)∨v=(j:Int)∨v=(k:Int))-> ∀vs:List Int,BL vs (i:Int)=(x:Int)->BL vs (j:Int)=(y:Int)->BL vs (k:Int)=(z:Int)->CI vs c=true
structure Fam (a:Net) (n s:Nat) (S:Nat->Nat->Nat->Nat->Prop):Prop where
 sym: ∀i j x y,S i j x y->S j i y x
 first: ∀i j x y,i<j->j<n->x<s->y<s->S i j x y->fB a n i j x y=true
 path: ∀i j k x y,i<n->j<n->k<n->i≠j->k≠i->k≠j->x<s->y<s->S i j x y-> ∃z,z<s/\S i k x z/\S j k y z/\Gx a i j k x y z
structure MinP (a:Net) (n s:Nat) (t:T4) (u:T3):Prop where
 rel:Rel34 n s t u
 sym: ∀i j x y,i<n->j<n->i≠j->x<s->y<s->r4 t i j x y=r4 t j i y x
 first: ∀i j x y,i<n->j<n->i≠j->x<s->y<s->r4 t i j x y=true->fB a n i j x y=true
 path: ∀i j k x y,i<n->j<n->k<n->i≠j->k≠i->k≠j->x<s->y<s->r4 t i j x y=true-> ∃z,z<s/\r4 t i k x z=true/\r4 t j k y z=true/\Gx a i j k x y z
 all: ∀S,Fam a n s S-> ∀i j x y,i<n->j<n->i≠j->x<s->y<s->S i j x y->r4 t i j x y=true
end
end T
open Go Go.Va
namespace T
section
variable {a:Net} {n s:Nat} {t:T4} {u:T3} {F:Nat->Nat->Nat->Nat}
theorem Gi (hM:MinP a n s t u) {w w' v x y:Nat} (hw:w<n) (hw':w'<n) (hv:v<n) (h1:w≠w') (h2:w≠v) (h3:w'≠v) (hx:x<s) (hy:y<s) (h:r4 t w' v y x=true): ∃z,z<s/\r4 t w v z x=true:=by
 obtain⟨z,hz,_,q,_⟩:=hM.path w' v w y x hw' hv hw h3 h1 h2 hy hx h
 exact⟨z,hz,by rw[hM.sym w v z x hw hv h2 hz hx];exact q⟩
theorem GO (p q:Nat): ∃w,w<3/\w≠p/\w≠q:=by
 by_cases h0:0≠p/\0≠q
 ·exact⟨0,by omega,h0.1,h0.2⟩
 ·by_cases h1:1≠p/\1≠q
  ·exact⟨1,by omega,h1.1,h1.2⟩
  ·exact⟨2,by omega,by omega,by omega⟩
end
end T
open Go Go.Va
namespace T
section
variable {n:Int} {k:Nat} {ts W:List (List Int)}
def WitOf (ts:List (List Int)) (k:Nat) (W:List (List Int)):Prop:= ∀w,w∈W↔ ∃(i:Nat) (x y:Int) (p q:Nat),i<k/\FH ts i x y=some (p,q)/\(w=ts.getD p []∨w=ts.getD q [])
theorem WitOf.sub (h:WitOf ts k W) {w:List Int} (hw:w∈W):w∈ts:=by
 obtain⟨i,x,y,p,q,_,h2,h3⟩:=(h w).1 hw
 obtain⟨g1,g2,_⟩:=EJ h2
 rcases h3 with rfl|rfl
 ·exact DB g1
 ·exact DB g2
theorem WitOf.set {N:Int} {kk:Int} (h:WitOf ts kk.toNat W) (hs:Gr N kk ts=true) (hi:BX W=true):Gr N kk W=true:=by
 unfold Gr at hs⊢
 simp only[Bool.and_eq_true,List.all_eq_true]at hs⊢
 exact⟨⟨hs.1.1,λw hw=>hs.1.2 w (h.sub hw)⟩,hi⟩
end
end T
