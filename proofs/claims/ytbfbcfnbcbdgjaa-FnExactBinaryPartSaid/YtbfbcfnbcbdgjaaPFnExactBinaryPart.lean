/- Plain lemmas on the typed functions of the program, and the plain law of FnExactBinaryPart; no conditions. -/
import Derived.Test.YtbfbcfnbcbdgjaaV1
import Derived.Test.YtbfbcfnbcbdgjaaV5
import Derived.KernelRfl
set_option linter.all false
namespace Go.Va
theorem Cs (x:Int):w64 x=(x+9223372036854775808)%18446744073709551616-9223372036854775808:=by
 simp[w64,IntKind.wrap,IntKind.bits,IntKind.signed]
 split<;>omega
theorem Bf {x:Int} (h1: -9223372036854775808<=x) (h2:x<=9223372036854775807):w64 x=x:=by
 rw[Cs];omega
theorem Ab {k:Nat} (h:k<4611686018427387904):w64 ((k:Int)+1)=((k+1:Nat):Int):=by
 rw[Bf (by omega) (by omega)];rfl
theorem Ac {α:Type} {k:Nat} {xs:List α}:inb (k:Int) xs↔k<xs.length:=by
 unfold inb;omega
theorem Ad {α:Type} {k:Nat} {xs:List α} {d:α} (h:k<xs.length):gd xs (k:Int) d=xs[k]:=by
 unfold gd;simp[h]
theorem Cr {α:Type} {k:Nat} {xs:List α} {x:α}:stt xs (k:Int) x=xs.set k x:=by
 unfold stt;simp
def Dx {α σ β:Type} (step:σ->α->Option (σ⊕β)) (fin:σ->Option β):List α->σ->Option β
 | [],s=>fin s
 |a::l,s=>match step s a with|some (.inl s')=>Dx step fin l s'|some (.inr r)=>some r|none=>none
theorem Fk {α σ β:Type} (xs:List α) (L:Nat->σ->Int->Option β) (step:σ->α->Option (σ⊕β)) (fin:σ->Option β)
  (hs: ∀n s (k:Nat) (hk:k<xs.length),L (n+1) s k=match step s xs[k]with|some (.inl s')=>L n s' ((k+1:Nat):Int)|some (.inr r)=>some r|none=>none)
  (he: ∀n s,L (n+1) s (xs.length:Nat)=fin s): ∀(n k:Nat) (s:σ),k<=xs.length->xs.length-k<n->L n s k=Dx step fin (xs.drop k) s:=by
 intro n
 induction n with
 |zero=>intro k s _ h;omega
 |succ n ih=>
  intro k s hk hn
  rcases Nat.lt_or_ge k xs.length with hlt|hge
  ·rw[hs n s k hlt,List.drop_eq_getElem_cons hlt]
   simp only[Dx]
   cases step s xs[k]with
   |none=>rfl
   |some q=>
    cases q with
    |inl s'=>exact ih (k+1) s' hlt (by omega)
    |inr r=>rfl
  ·have:k=xs.length:=by omega
   subst this
   rw[he,List.drop_length];rfl
theorem Es {α σ β:Type} (xs:List α) (L:Nat->σ->Int->Option β) (step:σ->α->Option (σ⊕β)) (fin:σ->Option β)
  (hs: ∀n s (k:Nat) (hk:k<xs.length),L (n+1) s k=match step s xs[k]with|some (.inl s')=>L n s' ((k+1:Nat):Int)|some (.inr r)=>some r|none=>none)
  (he: ∀n s,L (n+1) s (xs.length:Nat)=fin s) {n:Nat} (hn:xs.length<n) (s:σ):L n s 0=Dx step fin xs s:=by
 have:=Fk xs L step fin hs he n 0 s (Nat.zero_le _) (by omega)
 simpa using this
theorem DG {α β:Type} {p:α->Bool} {step:Unit->α->Option (Unit⊕β)} {fin:Unit->Option β} {r:β}: ∀ {l:List α},(∀a∈l,step () a=if p a then some (.inl ())else some (.inr r))->Dx step fin l ()=if l.all p then fin ()else some r
 | [],_=>rfl
 |a::l,h=>by
  simp only[Dx]
  rw[h a (by simp)]
  cases hp:p a with
  |true=>simp only[if_true,List.all_cons,hp,Bool.true_and];exact DG λb hb=>h b (List.mem_cons_of_mem _ hb)
  |false=>simp[List.all_cons,hp]
theorem Fh {α β γ:Type} (xs:List α) (L:Nat->List β->Int->Option γ) (g:α->β) (fin:List β->Option γ)
  (hs: ∀n (out:List β) (k:Nat) (hk:k<xs.length),out.length=xs.length->L (n+1) out k=L n (out.set k (g xs[k])) ((k+1:Nat):Int))
  (he: ∀n out,out.length=xs.length->L (n+1) out (xs.length:Nat)=fin out): ∀(n k:Nat) (out:List β),out.length=xs.length->k<=xs.length->xs.length-k<n->L n out k=fin (out.take k++(xs.drop k).map g):=by
 intro n
 induction n with
 |zero=>intro k out _ _ h;omega
 |succ n ih=>
  intro k out hl hk hn
  rcases Nat.lt_or_ge k xs.length with hlt|hge
  ·have:(out.set k (g xs[k])).take (k+1)=out.take k++ [g xs[k]]:=by
    rw[List.take_succ_eq_append_getElem (by simp;omega),List.take_set_of_le (Nat.le_refl _),List.getElem_set_self]
   rw[hs n out k hlt hl,ih (k+1) _ (by simpa using hl) hlt (by omega),List.drop_eq_getElem_cons hlt,this,List.map_cons,List.append_assoc,List.singleton_append]
  ·have:k=xs.length:=by omega
   subst this
   rw[he _ _ hl,List.drop_length,List.take_of_length_le (by omega)];simp
theorem DN {α β γ:Type} (xs:List α) (L:Nat->List β->Int->Option γ) (g:α->β) (fin:List β->Option γ)
  (hs: ∀n (out:List β) (k:Nat) (hk:k<xs.length),out.length=xs.length->L (n+1) out k=L n (out.set k (g xs[k])) ((k+1:Nat):Int))
  (he: ∀n out,out.length=xs.length->L (n+1) out (xs.length:Nat)=fin out) {n:Nat} {out:List β} (hl:out.length=xs.length) (hn:xs.length<n):L n out 0=fin (xs.map g):=by
 have:=Fh xs L g fin hs he n 0 out hl (Nat.zero_le _) (by omega)
 simpa using this
theorem eqX {α:Type} [DecidableEq α] (a b:List α) (hl:a.length=b.length) (L:Nat->Int->Option (Unit⊕Bool))
  (hs: ∀n (k:Nat) (h1:k<a.length) (h2:k<b.length),L (n+1) k=if a[k]=b[k]then L n ((k+1:Nat):Int)else some (.inr false)) (he: ∀n,L (n+1) (a.length:Nat)=some (.inl ())) {n:Nat} (hn:a.length<n):
  L n 0=some (if a=b then .inl ()else .inr false):=by
 have key: ∀(n k:Nat),k<=a.length->a.length-k<n->L n k=some (if a.drop k=b.drop k then .inl ()else .inr false):=by
  intro n
  induction n with
  |zero=>intro k _ h;omega
  |succ n ih=>
   intro k hk hn
   rcases Nat.lt_or_ge k a.length with hlt|hge
   ·have h2:k<b.length:=by omega
    have e:(a.drop k=b.drop k)↔(a[k]=b[k]/\a.drop (k+1)=b.drop (k+1)):=by
     rw[List.drop_eq_getElem_cons hlt,List.drop_eq_getElem_cons h2];exact List.cons_eq_cons
    rw[hs n k hlt h2]
    by_cases h:a[k]=b[k]
    ·rw[if_pos h,ih (k+1) hlt (by omega)]
     by_cases h3:a.drop (k+1)=b.drop (k+1)
     ·rw[if_pos h3,if_pos (e.2 ⟨h,h3⟩)]
     ·rw[if_neg h3,if_neg λh'=>h3 (e.1 h').2]
    ·rw[if_neg h,if_neg λh'=>h (e.1 h').1]
   ·have:k=a.length:=by omega
    subst this
    rw[he,List.drop_length,hl,List.drop_length];rfl
 have:=key n 0 (Nat.zero_le _) (by omega)
 simpa using this
theorem EH {α β:Type} (xs:List α) (L:Nat->Int->Option β) (p:α->Bool) (r e:β)
  (hs: ∀n (k:Nat) (hk:k<xs.length),L (n+1) k=if p xs[k]then L n ((k+1:Nat):Int)else some r) (he: ∀n,L (n+1) (xs.length:Nat)=some e) {n:Nat} (hn:xs.length<n):
  L n 0=some (if xs.all p then e else r):=by
 have:=Es xs (λn (_:Unit) i=>L n i) (λ_ a=>if p a then some (.inl ())else some (.inr r)) (λ_=>some e) (λn s k hk=>by rw[hs n k hk];cases p xs[k]<;>simp) (λn s=>he n) hn ()
 rw[this,DG (p:=p) (r:=r) λa _=>by cases p a<;>simp]
 cases xs.all p<;>simp
theorem Da {σ β:Type} (N:Nat) (L:Nat->σ->Int->Option β) (S:Nat->σ) {r:Option β}
  (hs: ∀n (k:Nat),k<N->L (n+1) (S k) k=L n (S (k+1)) ((k+1:Nat):Int)) (he: ∀n,L (n+1) (S N) (N:Nat)=r) {n:Nat} (hn:N<n):L n (S 0) 0=r:=by
 have key: ∀(n k:Nat),k<=N->N-k<n->L n (S k) k=r:=by
  intro n
  induction n with
  |zero=>intro k _ h;omega
  |succ n ih=>
   intro k hk hn
   rcases Nat.lt_or_ge k N with hlt|hge
   ·rw[hs n k hlt];exact ih (k+1) hlt (by omega)
   ·have:k=N:=by omega
    subst this;exact he n
 exact key n 0 (Nat.zero_le _) (by omega)
theorem Fw {σ β:Type} (N:Nat) (L:Nat->σ->Int->Option β) (S:Nat->σ) (p:Nat->Bool) {r e:Option β}
  (hs: ∀n (k:Nat),k<N->L (n+1) (S k) k=if p k then L n (S (k+1)) ((k+1:Nat):Int)else r) (he: ∀n,L (n+1) (S N) (N:Nat)=e) {n:Nat} (hn:N<n):
  L n (S 0) 0=if(List.range N).all p then e else r:=by
 have key: ∀(n k:Nat),k<=N->N-k<n->L n (S k) k=if(List.range' k (N-k)).all p then e else r:=by
  intro n
  induction n with
  |zero=>intro k _ h;omega
  |succ n ih=>
   intro k hk hn
   rcases Nat.lt_or_ge k N with hlt|hge
   ·rw[hs n k hlt,show N-k=(N-(k+1))+1 by omega,List.range'_succ,List.all_cons]
    cases hp:p k with
    |false=>simp
    |true=>simp only[if_true,Bool.true_and];exact ih (k+1) hlt (by omega)
   ·have:k=N:=by omega
    subst this;rw[he];simp
 have:=key n 0 (Nat.zero_le _) (by omega)
 rw[List.range_eq_range']
 simpa using this
theorem Fy {σ β:Type} (N:Nat) (L:Nat->σ->Int->Option β) (S:Nat->σ) (p:Nat->Bool) {r e:Option β}
  (hs: ∀n (k:Nat),k<N->(∀j,j<k->p j=true)->L (n+1) (S k) k=if p k then L n (S (k+1)) ((k+1:Nat):Int)else r) (he: ∀n,(∀j,j<N->p j=true)->L (n+1) (S N) (N:Nat)=e) {n:Nat} (hn:N<n):
  L n (S 0) 0=if(List.range N).all p then e else r:=by
 have key: ∀(n k:Nat),k<=N->N-k<n->(∀j,j<k->p j=true)->L n (S k) k=if(List.range' k (N-k)).all p then e else r:=by
  intro n
  induction n with
  |zero=>intro k _ h;omega
  |succ n ih=>
   intro k hk hn hb
   rcases Nat.lt_or_ge k N with hlt|hge
   ·rw[hs n k hlt hb,show N-k=(N-(k+1))+1 by omega,List.range'_succ,List.all_cons]
    cases hp:p k with
    |false=>simp
    |true=>
     simp only[if_true,Bool.true_and]
     refine ih (k+1) hlt (by omega) λj hj=>?_
     rcases Nat.lt_or_ge j k with h|h
     ·exact hb j h
     ·have:j=k:=by omega
      rw[this];exact hp
   ·have:k=N:=by omega
    subst this;rw[he n hb];simp
 have:=key n 0 (Nat.zero_le _) (by omega) (λj h=>by omega)
 rw[List.range_eq_range']
 simpa using this
def szR (t:Nat) (left:Int):Int:=if(t:Int)<=left then left-t else-1
end Go.Va
set_option linter.unusedVariables false
open Go Go.Va
namespace T
def Aa:Nat:=1099511627776
def Bb (a:List Int) (left:Int):Option (Int):=
 if decide ((w64 (left-(a.length:Int)))<0)then
 some (-1)
 else
 some (w64 (left-(a.length:Int)))
def AS:Nat->((List (List Int))×Int×Int)->Option ((Int)⊕(Int))
 |0,_=>none
 |n+1,(a,left,i)=>
 if decide (i<(a.length:Int))then
 if inb i a then
 (Bb (gd a i []) left).bind λr1=>
 if decide (r1<0)then
 some (.inr (-1))
 else
 AS n (a,r1,w64 (i+1))
 else none
 else
 some (.inl left)
def B2 (a:List (List Int)) (left:Int):Option (Int):=
 if decide ((w64 (left-(a.length:Int)))<0)then
  some (-1)
 else
  (AS Aa (a,w64 (left-(a.length:Int)),0)).bind λs1=>
   match s1 with
   | .inl s2=>
    some s2
   | .inr s3=>
    some s3
def Bc:Nat->((List Int)×(List Int)×Int)->Option ((List Int))
 |0,_=>none
 |n+1,(a,out,i)=>
 if decide (i<(a.length:Int))then
 if inb i a then
 if inb i out then
 Bc n (a,stt out i (gd a i 0),w64 (i+1))
 else none
 else none
 else
 some out
def BW (a:List Int):Option ((List Int)):=
 if 0<=(a.length:Int)/\(a.length:Int)<=(a.length:Int)/\(a.length:Int)<=lim then
 (Bc Aa (a,List.replicate (Int.toNat (a.length:Int)) (0:Int),0)).bind λs1=>
 some s1
 else none
def AT:Nat->((List (List Int))×(List (List Int))×Int)->Option ((List (List Int)))
 |0,_=>none
 |n+1,(a,out,i)=>
 if decide (i<(a.length:Int))then
 if inb i a then
 (BW (gd a i [])).bind λr1=>
 if inb i out then
 AT n (a,stt out i r1,w64 (i+1))
 else none
 else none
 else
 some out
def B3 (a:List (List Int)):Option ((List (List Int))):=
 if 0<=(a.length:Int)/\(a.length:Int)<=(a.length:Int)/\(a.length:Int)<=lim then
 (AT Aa (a,List.replicate (Int.toNat (a.length:Int)) ([]:List Int),0)).bind λs1=>
 some s1
 else none
def BH (x:Int) (a:Int) (b:Int):Option (Bool):=
 if decide (x≥a)then
 some (decide (x<=b))
 else
 some false
def AC:Nat->(Int×(List Int)×Int)->Option ((Unit)⊕(Bool))
 |0,_=>none
 |n+1,(n_,list,i)=>
 if decide (i<(list.length:Int))then
 if inb i list then
 (BH (gd list i 0) 0 (w64 (n_-1))).bind λr1=>
 if !r1 then
 some (.inr false)
 else
 AC n (n_,list,w64 (i+1))
 else none
 else
 some (.inl ())
def Bk (n_:Int) (list:List Int):Option (Bool):=
 (AC Aa (n_,list,0)).bind λs1=>
  match s1 with
  | .inl s2=>
   some true
  | .inr s3=>
   some s3
def Ca (n_:Int) (k:Int) (t:List Int):Option (Bool):=
 if(t.length:Int)==k then
 (Bk n_ t).bind λr1=>
 some r1
 else
 some false
def AZ:Nat->(Int×(List Int)×Int×Int)->Option ((Unit)⊕(Bool))
 |0,_=>none
 |n+1,(n_,t7,t8,t9)=>
 if decide (t9<t8)then
 if inb t9 t7 then
 if decide ((gd t7 t9 0)<0)then
 some (.inr false)
 else
 if decide ((gd t7 t9 0)≥n_)then
 some (.inr false)
 else
 AZ n (n_,t7,t8,w64 (t9+1))
 else none
 else
 some (.inl ())
def BU (list:List Int) (n_:Int):Option (Bool):=
 (AZ Aa (n_,list,(list.length:Int),0)).bind λs1=>
  match s1 with
  | .inl s2=>
   some true
  | .inr s3=>
   some s3
def A7:Nat->((List Int)×(List Int)×Int)->Option ((Unit)⊕(Bool))
 |0,_=>none
 |n+1,(a,b,i)=>
 if decide (i<(a.length:Int))then
 if inb i a then
 if inb i b then
 if(gd a i 0) !=(gd b i 0)then
 some (.inr false)
 else
 A7 n (a,b,w64 (i+1))
 else none
 else none
 else
 some (.inl ())
def BV (a:List Int) (b:List Int):Option (Bool):=
 if(a.length:Int) !=(b.length:Int)then
  some false
 else
  (A7 Aa (a,b,0)).bind λs1=>
   match s1 with
   | .inl s2=>
    some true
   | .inr s3=>
    some s3
def AR:Nat->((List (List Int))×(List (List Int))×Int)->Option ((Unit)⊕(Bool))
 |0,_=>none
 |n+1,(a,b,i)=>
 if decide (i<(a.length:Int))then
 if inb i a then
 if inb i b then
 (BV (gd a i []) (gd b i [])).bind λr1=>
 if !r1 then
 some (.inr false)
 else
 AR n (a,b,w64 (i+1))
 else none
 else none
 else
 some (.inl ())
def B1 (a:List (List Int)) (b:List (List Int)):Option (Bool):=
 if(a.length:Int) !=(b.length:Int)then
  some false
 else
  (AR Aa (a,b,0)).bind λs1=>
   match s1 with
   | .inl s2=>
    some true
   | .inr s3=>
    some s3
def By:Nat->(Int×Int×Int)->Option (Int)
 |0,_=>none
 |n+1,(n_,k,out)=>
 if decide (k>0)then
 By n (n_,w64 (k-1),w64 (out*n_))
 else
 some out
def CB (n_:Int) (k:Int):Option (Int):=
 (By Aa (n_,k,1)).bind λs1=>
 some s1
def Be:Nat->((List Int)×(List Int)×Int)->Option ((Unit)⊕(Bool))
 |0,_=>none
 |n+1,(a,b,i)=>
 if decide (i<(a.length:Int))then
 if inb i a then
 if inb i b then
 if(gd a i 0) !=(gd b i 0)then
 if inb i a then
 if inb i b then
 some (.inr (decide ((gd a i 0)<(gd b i 0))))
 else none
 else none
 else
 Be n (a,b,w64 (i+1))
 else none
 else none
 else
 some (.inl ())
def Co (a:List Int) (b:List Int):Option (Bool):=
 (Be Aa (a,b,0)).bind λs1=>
  match s1 with
  | .inl s2=>
   some false
  | .inr s3=>
   some s3
def Bd:Nat->((List Int)×(List Int)×Int)->Option ((Unit)⊕(Bool))
 |0,_=>none
 |n+1,(a,b,i)=>
 if decide (i<(a.length:Int))then
 if inb i a then
 if inb i b then
 if(gd a i 0) !=(gd b i 0)then
 some (.inr false)
 else
 Bd n (a,b,w64 (i+1))
 else none
 else none
 else
 some (.inl ())
def Cn (a:List Int) (b:List Int):Option (Bool):=
 if(a.length:Int) !=(b.length:Int)then
  some false
 else
  (Bd Aa (a,b,0)).bind λs1=>
   match s1 with
   | .inl s2=>
    some true
   | .inr s3=>
    some s3
def AP:Nat->((List (List Int))×(List Int)×Int×Int)->Option ((List (List Int))×(List Int)×Int)
 |0,_=>none
 |n+1,(list,t,from_,to)=>
 if decide (from_<to)then
 if(2:Int)≠0 then
 if inb (w64 (Int.tdiv (w64 (from_+to)) 2)) list then
 (Co (gd list (w64 (Int.tdiv (w64 (from_+to)) 2)) []) t).bind λr1=>
 if r1 then
 AP n (list,t,w64 ((w64 (Int.tdiv (w64 (from_+to)) 2))+1),to)
 else
 AP n (list,t,from_,w64 (Int.tdiv (w64 (from_+to)) 2))
 else none
 else none
 else
 some (list,t,from_)
def Cq (list:List (List Int)) (t:List Int):Option (Int×Bool):=
 (AP Aa (list,t,0,(list.length:Int))).bind λs1=>
 if decide (s1.2.2<(s1.1.length:Int))then
 if inb s1.2.2 s1.1 then
 (Cn (gd s1.1 s1.2.2 []) s1.2.1).bind λr2=>
 some (s1.2.2,r2)
 else none
 else
 some (s1.2.2,false)
def Ak:Nat->((List Int)×(List Int)×Int)->Option (((List Int)×(List Int))⊕(Int))
 |0,_=>none
 |n+1,(s,t,i)=>
 if decide (i<(s.length:Int))then
 if decide (i<(t.length:Int))then
 if inb i s then
 if inb i t then
 if(gd s i 0) !=(gd t i 0)then
 if inb i s then
 if inb i t then
 if decide ((gd s i 0)<(gd t i 0))then
 some (.inr (-1))
 else
 some (.inr 1)
 else none
 else none
 else
 Ak n (s,t,w64 (i+1))
 else none
 else none
 else
 some (.inl (s,t))
 else
 some (.inl (s,t))
def BT (s:List Int) (t:List Int):Option (Int):=
 (Ak Aa (s,t,0)).bind λs1=>
  match s1 with
  | .inl s2=>
   if decide ((s2.1.length:Int)<(s2.2.length:Int))then
    some (-1)
   else
    if decide ((s2.1.length:Int)>(s2.2.length:Int))then
     some 1
    else
     some 0
  | .inr s3=>
   some s3
end T
open Go Go.Va
namespace T
theorem Dk {a:List Int} {left:Int} (h0:0<=left) (h1:left<=4611686018427387904) (ha:a.length<=9223372036854775807):Bb a left=some (szR a.length left):=by
 unfold Bb szR
 rw[Bf (by omega) (by omega)]
 by_cases h:(a.length:Int)<=left
 ·rw[if_neg (by simp;omega),if_pos h]
 ·rw[if_pos (by simp;omega),if_neg h]
def CG (a:List (List Int)):Nat:=a.length+(a.map List.length).sum
theorem DW {a:List (List Int)} {left:Int} (h0:0<=left) (h1:left<=1099511627775) (ha:a.length<=9223372036854775807) (hr: ∀r∈a,r.length<=9223372036854775807):B2 a left=some (szR (CG a) left):=by
 unfold B2
 rw[Bf (by omega) (by omega)]
 by_cases h:(a.length:Int)<=left
 ·rw[if_neg (by simp;omega)]
  have key:=Es a (λn s i=>AS n (a,s,i)) (λs r=>(Bb r s).bind λq=>if q<0 then some (.inr (.inr (-1)))else some (.inl q)) (λs=>some (.inl s)) ?_ ?_ (n:=Aa) (by unfold Aa;omega) (left-a.length)
  ·rw[key]
   have run: ∀(l:List (List Int)) (s:Int),0<=s->s<=1099511627775->(∀r∈l,r.length<=9223372036854775807)->
     Dx (λs r=>(Bb r s).bind λq=>if q<0 then some (.inr (.inr (-1)))else some (.inl q)) (λs=>some (.inl s)) l s=some (if((l.map List.length).sum:Int)<=s then(.inl (s-(l.map List.length).sum):Int⊕Int)else .inr (-1)):=by
    intro l
    induction l with
    |nil=>intro s h0 _ _;simp[Dx,h0]
    |cons r l ih=>
     intro s h0 h1 hr
     simp only[Dx]
     rw[Dk h0 (by omega) (hr r (by simp))]
     unfold szR
     by_cases h:(r.length:Int)<=s
     ·rw[if_pos h]
      simp only[Option.bind_some]
      rw[if_neg (by omega)]
      dsimp only
      rw[ih (s-r.length) (by omega) (by omega) λr hr'=>hr r (List.mem_cons_of_mem _ hr')]
      simp only[List.map_cons,List.sum_cons]
      congr 1
      by_cases h2:(((l.map List.length).sum:Nat):Int)<=s-r.length
      ·rw[if_pos h2,if_pos (by omega)];congr 1;omega
      ·rw[if_neg h2,if_neg (by omega)]
     ·rw[if_neg h]
      simp only[List.map_cons,List.sum_cons]
      rw[if_neg (by omega)]
      rfl
   rw[run a _ (by omega) (by omega) hr]
   unfold szR CG
   by_cases h2:(((a.map List.length).sum:Nat):Int)<=left-a.length
   ·rw[if_pos h2,if_pos (by omega)]
    simp only[Option.bind_some,Option.some.injEq];omega
   ·rw[if_neg h2,if_neg (by omega)];rfl
  ·intro n s k hk
   simp only[AS,Ac,Ad hk,Ab (show k<4611686018427387904 by omega)]
   simp[hk]
   cases Bb a[k] s with
   |none=>rfl
   |some q=>by_cases hq:q<0<;>simp[hq]
  ·intro n s
   simp[AS]
 ·rw[if_pos (by simp;omega)]
  unfold szR CG
  rw[if_neg (by omega)]
theorem Dl {a:List Int} (ha:a.length<=1099511627775):BW a=some a:=by
 unfold BW
 rw[if_pos (by unfold lim;omega)]
 have key:=DN a (λn out i=>Bc n (a,out,i)) id some ?_ ?_ (n:=Aa) (out:=List.replicate (Int.toNat (a.length:Int)) (0:Int)) (by simp) (by unfold Aa;omega)
 ·rw[key];simp
 ·intro n out k hk hl
  simp only[Bc,Ac,Ad hk,Cr,Ab (show k<4611686018427387904 by omega)]
  simp[hk,hl]
 ·intro n out hl
  simp[Bc]
theorem DX {a:List (List Int)} (ha:a.length<=1099511627775) (hr: ∀r∈a,r.length<=1099511627775):B3 a=some a:=by
 unfold B3
 rw[if_pos (by unfold lim;omega)]
 have key:=DN a (λn out i=>AT n (a,out,i)) id some ?_ ?_ (n:=Aa) (out:=List.replicate (Int.toNat (a.length:Int)) ([]:List Int)) (by simp) (by unfold Aa;omega)
 ·rw[key];simp
 ·intro n out k hk hl
  simp only[AT,Ac,Ad hk,Cr,Ab (show k<4611686018427387904 by omega)]
  simp[hk,hl,Dl (hr _ (List.getElem_mem hk))]
 ·intro n out hl
  simp[AT]
theorem Dg {a b:List Int} (ha:a.length<=1099511627775):BV a b=some (decide (a=b)):=by
 unfold BV
 by_cases hl:a.length=b.length
 ·rw[if_neg (by simp[hl]),eqX a b hl (λn i=>A7 n (a,b,i)) ?_ ?_ (by unfold Aa;omega)]
  ·by_cases h:a=b<;>simp[h]
  ·intro n k h1 h2
   simp only[A7,Ac,Ad h1,Ad h2,Ab (show k<4611686018427387904 by omega)]
   by_cases h:a[k]=b[k]<;>simp[h1,h2,h]
  ·intro n
   simp[A7]
 ·rw[if_pos (by simp;omega),decide_eq_false (λe=>hl (by rw[e]))]
theorem DM {a b:List (List Int)} (ha:a.length<=1099511627775) (hr: ∀r∈a,r.length<=1099511627775):B1 a b=some (decide (a=b)):=by
 unfold B1
 by_cases hl:a.length=b.length
 ·rw[if_neg (by simp[hl]),eqX a b hl (λn i=>AR n (a,b,i)) ?_ ?_ (by unfold Aa;omega)]
  ·by_cases h:a=b<;>simp[h]
  ·intro n k h1 h2
   simp only[AR,Ac,Ad h1,Ad h2,Ab (show k<4611686018427387904 by omega),Dg (hr _ (List.getElem_mem h1))]
   by_cases h:a[k]=b[k]<;>simp[h1,h2,h]
  ·intro n
   simp[AR]
 ·rw[if_pos (by simp;omega),decide_eq_false (λe=>hl (by rw[e]))]
abbrev Lin:=Int×Int×List (List Int)
theorem EQ {l:List (List Int)}: ∀ {r:List Int},r∈l->r.length<=(l.map List.length).sum:=by
 induction l with
 |nil=>intro r h;cases h
 |cons x l ih=>
  intro r h
  rw[List.map_cons,List.sum_cons]
  rcases List.mem_cons.1 h with rfl|h
  ·omega
  ·have:=ih h;omega
theorem BE (x a b:Int):BH x a b=some (decide (a<=x/\x<=b)):=by
 unfold BH
 by_cases h:a<=x<;>simp[h]
def Ax (n:Int) (l:List Int):Bool:=l.all λx=>decide (0<=x/\x<n)
theorem Cj {l:List Int} (n:Int) (hl:l.length<=1099511627775):BU l n=some (Ax n l):=by
 unfold BU
 rw[EH l (λm i=>AZ m (n,l,(l.length:Int),i)) (λx=>decide (0<=x/\x<n)) (.inr false) (.inl ()) ?_ ?_ (by unfold Aa;omega)]
 ·unfold Ax;cases l.all (λx=>decide (0<=x/\x<n))<;>simp
 ·intro m k hk
  simp only[AZ,Ac,Ad hk,Ab (show k<4611686018427387904 by omega)]
  by_cases h1:l[k]<0
  ·simp[hk,h1,show¬0<=l[k] by omega]
  ·by_cases h2:n<=l[k]
   ·simp[hk,h1,h2,show¬l[k]<n by omega]
   ·simp[hk,h1,h2,show 0<=l[k]/\l[k]<n by omega]
 ·intro m
  simp[AZ]
theorem BS {l:List Int} {n:Int} (hn: -9223372036854775808<n) (hn':n<=9223372036854775807) (hl:l.length<=1099511627775):Bk n l=some (Ax n l):=by
 unfold Bk
 rw[EH l (λm i=>AC m (n,l,i)) (λx=>decide (0<=x/\x<n)) (.inr false) (.inl ()) ?_ ?_ (by unfold Aa;omega)]
 ·unfold Ax;cases l.all (λx=>decide (0<=x/\x<n))<;>simp
 ·intro m k hk
  simp only[AC,Ac,Ad hk,Ab (show k<4611686018427387904 by omega),BE,Bf (show-9223372036854775808<=n-1 by omega) (show n-1<=9223372036854775807 by omega)]
  by_cases h1:0<=l[k]/\l[k]<n
  ·simp[hk,h1,show l[k]<=n-1 by omega]
  ·have: ¬(0<=l[k]/\l[k]<=n-1):=by omega
   simp[hk,h1,this]
 ·intro m
  simp[AC]
theorem CQ {l:List Int} {n:Int} (k:Int) (hn: -9223372036854775808<n) (hn':n<=9223372036854775807) (hl:l.length<=1099511627775):Ca n k l=some (decide ((l.length:Int)=k)&&Ax n l):=by
 unfold Ca
 rw[BS hn hn' hl]
 by_cases h:(l.length:Int)=k<;>simp[h]
end T
open Go Go.Va
namespace T
theorem CX {n:Int} {l:List Int} (h:Ax n l=true) (k:Nat) (hk:k<l.length):0<=l[k]/\l[k]<n:=by
 have:=(List.all_eq_true.1 h) l[k] (List.getElem_mem hk)
 simpa using this
section
variable {p v:Int} {rows:List (List Int)} {y:List Int}
end
end T
open Go Go.Va
namespace T
def cmpL:List Int->List Int->Int
 | [],[]=>0
 | [],_::_=> -1
 |_::_,[]=>1
 |a::s,b::t=>if a=b then cmpL s t else if a<b then-1 else 1
theorem DL {s t:List Int} (hs:s.length<=1099511627775): ∀(n k:Nat),k<=s.length->k<=t.length->s.length-k<n->
  (Ak n (s,t,(k:Int))).bind (λs1=>match s1 with
   | .inl s2=>if decide ((s2.1.length:Int)<(s2.2.length:Int))then some (-1)else if decide ((s2.1.length:Int)>(s2.2.length:Int))then some 1 else some 0
   | .inr s3=>some s3)=some (cmpL (s.drop k) (t.drop k)):=by
 intro n
 induction n with
 |zero=>intro k _ _ h;omega
 |succ n ih=>
  intro k h1 h2 hn
  by_cases k1:k<s.length
  ·by_cases k2:k<t.length
   ·rw[List.drop_eq_getElem_cons k1,List.drop_eq_getElem_cons k2]
    simp only[Ak,Ac,Ad k1,Ad k2,Ab (show k<4611686018427387904 by omega),cmpL]
    by_cases he:s[k]=t[k]
    ·have:=ih (k+1) k1 k2 (by omega)
     simp[k1,k2,he]
     simpa using this
    ·by_cases hl:s[k]<t[k]<;>simp[k1,k2,he,hl]
   ·rw[List.drop_eq_getElem_cons k1,List.drop_of_length_le (show t.length<=k by omega)]
    have e:k=t.length:=by omega
    simp only[Ak,cmpL]
    simp[k1,k2,show¬s.length<t.length by omega,show t.length<s.length by omega]
  ·rw[List.drop_of_length_le (show s.length<=k by omega)]
   simp only[Ak]
   by_cases k2:k<t.length
   ·rw[List.drop_eq_getElem_cons k2]
    simp[k1,cmpL,show s.length<t.length by omega]
   ·rw[List.drop_of_length_le (show t.length<=k by omega)]
    simp[k1,cmpL,show¬s.length<t.length by omega,show¬t.length<s.length by omega]
theorem Ci {s t:List Int} (hs:s.length<=1099511627775):BT s t=some (cmpL s t):=by
 have:=DL (t:=t) hs Aa 0 (Nat.zero_le _) (Nat.zero_le _) (by unfold Aa;omega)
 rw[List.drop_zero,List.drop_zero]at this
 exact this
theorem Cp {s t:List Int} (hs:s.length<=1099511627775) (hl:s.length=t.length):Co s t=some (decide (cmpL s t<0)):=by
 have key: ∀(n k:Nat),k<=s.length->s.length-k<n->(Be n (s,t,(k:Int))).bind (λs1=>match s1 with| .inl _=>some false| .inr s3=>some s3)=some (decide (cmpL (s.drop k) (t.drop k)<0)):=by
  intro n
  induction n with
  |zero=>intro k _ h;omega
  |succ n ih=>
   intro k h1 hn
   by_cases k1:k<s.length
   ·have k2:k<t.length:=by omega
    rw[List.drop_eq_getElem_cons k1,List.drop_eq_getElem_cons k2]
    simp only[Be,Ac,Ad k1,Ad k2,Ab (show k<4611686018427387904 by omega),cmpL]
    by_cases he:s[k]=t[k]
    ·have:=ih (k+1) k1 (by omega)
     simp[k1,k2,he]
     simpa using this
    ·by_cases hl:s[k]<t[k]<;>simp[k1,k2,he,hl]
   ·rw[List.drop_of_length_le (show s.length<=k by omega),List.drop_of_length_le (show t.length<=k by omega)]
    simp[Be,k1,cmpL]
 have:=key Aa 0 (Nat.zero_le _) (by unfold Aa;omega)
 rw[List.drop_zero,List.drop_zero]at this
 exact this
theorem C7 {a b:List Int} (ha:a.length<=1099511627775):Cn a b=some (decide (a=b)):=by
 unfold Cn
 by_cases hl:a.length=b.length
 ·rw[if_neg (by simp[hl]),eqX a b hl (λn i=>Bd n (a,b,i)) ?_ ?_ (by unfold Aa;omega)]
  ·by_cases h:a=b<;>simp[h]
  ·intro n k h1 h2
   simp only[Bd,Ac,Ad h1,Ad h2,Ab (show k<4611686018427387904 by omega)]
   by_cases h:a[k]=b[k]<;>simp[h1,h2,h]
  ·intro n
   simp[Bd]
 ·rw[if_pos (by simp;omega),decide_eq_false (λe=>hl (by rw[e]))]
theorem cmpL_refl: ∀s,cmpL s s=0
 | []=>rfl
 |a::s=>by simp[cmpL,cmpL_refl s]
theorem cmpL_eq: ∀ {s t},cmpL s t=0↔s=t
 | [],[]=>by simp[cmpL]
 | [],_::_=>by simp[cmpL]
 |_::_,[]=>by simp[cmpL]
 |a::s,b::t=>by
  simp only[cmpL]
  by_cases h:a=b
  ·rw[if_pos h,cmpL_eq];simp[h]
  ·rw[if_neg h];split<;>simp[h]
theorem cmpL_symm: ∀s t,cmpL t s= -cmpL s t
 | [],[]=>by simp[cmpL]
 | [],_::_=>by simp[cmpL]
 |_::_,[]=>by simp[cmpL]
 |a::s,b::t=>by
  simp only[cmpL]
  by_cases h:a=b
  ·rw[if_pos h,if_pos h.symm,cmpL_symm s t]
  ·rw[if_neg h,if_neg (Ne.symm h)]
   by_cases h2:a<b
   ·rw[if_pos h2,if_neg (by omega)];rfl
   ·rw[if_neg h2,if_pos (by omega)]
theorem cmpL_trans: ∀ {s t u},cmpL s t<0->cmpL t u<0->cmpL s u<0
 | [],[],_,h,_=>by simp[cmpL]at h
 | [],_::_,[],_,h=>by simp[cmpL]at h
 | [],_::_,_::_,_,_=>by simp[cmpL]
 |_::_,[],_,h,_=>by simp[cmpL]at h
 |_::_,_::_,[],_,h=>by simp[cmpL]at h
 |a::s,b::t,c::u,h1,h2=>by
  simp only[cmpL]at*
  by_cases e1:a=b
  ·rw[if_pos e1]at h1
   by_cases e2:b=c
   ·rw[if_pos e2]at h2;rw[if_pos (e1.trans e2)];exact cmpL_trans h1 h2
   ·rw[if_neg e2]at h2;rw[e1,if_neg e2];exact h2
  ·rw[if_neg e1]at h1
   have l1:a<b:=by
    by_cases h:a<b
    ·exact h
    ·rw[if_neg h]at h1;omega
   by_cases e2:b=c
   ·rw[←e2,if_neg e1,if_pos l1];omega
   ·rw[if_neg e2]at h2
    have l2:b<c:=by
     by_cases h:b<c
     ·exact h
     ·rw[if_neg h]at h2;omega
    rw[if_neg (by omega),if_pos (by omega)];omega
def Bu:List (List Int)->Bool
 |a::b::l=>decide (cmpL a b<0)&&Bu (b::l)
 |_=>true
theorem Ee {a:List Int} {l:List (List Int)} (h:Bu (a::l)=true):Bu l=true:=by
 cases l with
 |nil=>rfl
 |cons b l=>simp only[Bu,Bool.and_eq_true]at h;exact h.2
theorem Dh: ∀ {a:List Int} {l:List (List Int)},Bu (a::l)=true-> ∀b∈l,cmpL a b<0
 |a,[],_,b,hb=>by cases hb
 |a,c::l,h,b,hb=>by
  simp only[Bu,Bool.and_eq_true,decide_eq_true_eq]at h
  rcases List.mem_cons.1 hb with rfl|hb
  ·exact h.1
  ·exact cmpL_trans h.1 (Dh h.2 b hb)
theorem B0: ∀ {l:List (List Int)},Bu l=true-> ∀(i j:Nat) (hi:i<j) (hj:j<l.length),cmpL (l[i]'(by omega)) l[j]<0
 | [],_,i,j,_,hj=>by simp at hj
 |a::l,h,0,j+1,_,hj=>by
  simp only[List.getElem_cons_zero,List.getElem_cons_succ]
  exact Dh h _ (List.getElem_mem _)
 |a::l,h,i+1,j+1,hi,hj=>by
  simp only[List.getElem_cons_succ]
  exact B0 (Ee h) i j (by omega) (by simpa using hj)
theorem DD {l:List (List Int)}:Bu l=true↔ ∀(i:Nat) (hi:i+1<l.length),cmpL (l[i]'(by omega)) l[i+1]<0:=by
 constructor
 ·exact λh i hi=>B0 h i (i+1) (by omega) hi
 ·induction l with
  |nil=>intro _;rfl
  |cons a l ih=>
   intro h
   cases l with
   |nil=>rfl
   |cons b l=>
    simp only[Bu,Bool.and_eq_true,decide_eq_true_eq]
    exact⟨h 0 (by simp),ih λi hi=>by have:=h (i+1) (by simpa using hi);simpa using this⟩
end T
open Go Go.Va
namespace T
theorem Dj {n:Int} (h0:0<=n) (h8:n<=8): ∀k:Nat,0<=n^k/\n^k<=8^k
 |0=>by simp
 |k+1=>by
  obtain⟨h1,h2⟩:=Dj h0 h8 k
  rw[Int.pow_succ,Int.pow_succ]
  exact⟨Int.mul_nonneg h1 h0,Int.mul_le_mul h2 h8 h0 (by have:(0:Int)<=8^k:=Int.le_trans h1 h2;exact this)⟩
theorem ER: ∀k:Nat,k<=20->(8:Int)^k<=8^20:=by
 intro k hk
 have:((8^k:Nat):Int)<=((8^20:Nat):Int):=Int.ofNat_le.2 (Nat.pow_le_pow_right (by omega) hk)
 simpa using this
theorem Ew {n:Int} (h0:0<=n) (h8:n<=8) {k:Nat} (hk:k<=20):0<=n^k/\n^k<=1152921504606846976:=by
  obtain⟨h1,h2⟩:=Dj h0 h8 k
  have:=ER k hk
  exact ⟨h1, by have e : (8 : Int) ^ 20 = 1152921504606846976 := by decide
                omega⟩
theorem Er {n:Int} (h0:0<=n) (h8:n<=8): ∀(m k j:Nat),j+k<=20->k<m->By m (n,(k:Int),n^j)=some (n^(j+k)):=by
 intro m
 induction m with
 |zero=>intro k j _ h;omega
 |succ m ih=>
  intro k j hj hk
  simp only[By]
  cases k with
  |zero=>simp
  |succ k=>
   have e:w64 (((k+1:Nat):Int)-1)=(k:Int):=by rw[Bf (by omega) (by omega)];omega
   have hb:=Ew h0 h8 (k:=j+1) (by omega)
   rw[Int.pow_succ]at hb
   rw[e,Bf (by omega) (by omega),←Int.pow_succ,if_pos (by simp),ih k (j+1) (by omega) (by omega)]
   congr 2<;>omega
theorem Dc {n:Int} (h0:0<=n) (h8:n<=8) {k:Nat} (hk:k<=20):CB n (k:Int)=some (n^k):=by
 unfold CB
 have:=Er h0 h8 Aa k 0 (by omega) (by unfold Aa;omega)
 rw[Int.pow_zero]at this
 rw[this];simp
def Ds (n:Int):Int->List Int->Int
 |i,[]=>i
 |i,a::l=>Ds n (i*n+a) l
def idx (n:Int) (l:List Int):Int:=Ds n 0 l
theorem Dt (n:Int): ∀(l:List Int) (i:Int),Ds n i l=i*n^l.length+Ds n 0 l
 | [],i=>by simp[Ds]
 |a::l,i=>by
  simp only[Ds,List.length_cons]
  rw[Dt n l (i*n+a),Dt n l (0*n+a),Int.pow_succ]
  simp only[Int.zero_mul,Int.zero_add]
  rw[Int.add_mul,Int.mul_assoc,Int.mul_comm n (n^l.length)]
  omega
theorem C2 (n a:Int) (l:List Int):idx n (a::l)=a*n^l.length+idx n l:=by
 unfold idx
 simp only[Ds]
 rw[Dt];simp
theorem Ch {n a:Int} {l:List Int}:Ax n (a::l)=true↔(0<=a/\a<n)/\Ax n l=true:=by
 unfold Ax;simp[List.all_cons]
theorem C1 {n:Int}: ∀ {l:List Int},Ax n l=true->0<=idx n l/\idx n l<n^l.length
 | [],_=>by simp[idx,Ds]
 |a::l,h=>by
  obtain⟨h1,h2⟩:=Ch.1 h
  obtain⟨h3,h4⟩:=C1 h2
  rw[C2,List.length_cons,Int.pow_succ]
  have hp:0<=n^l.length:=by omega
  have k1:=Int.mul_nonneg h1.1 hp
  have k2:=Int.mul_le_mul_of_nonneg_right (show a+1<=n by omega) hp
  rw[Int.add_mul,Int.one_mul,Int.mul_comm n]at k2
  exact⟨by omega,by omega⟩
theorem D3 {n:Int}: ∀ {s t:List Int},Ax n s=true->Ax n t=true->s.length=t.length->(cmpL s t<0↔idx n s<idx n t)/\(cmpL s t=0↔idx n s=idx n t)
 | [],[],_,_,_=>by simp[cmpL,idx,Ds]
 | [],_::_,_,_,h=>by simp at h
 |_::_,[],_,_,h=>by simp at h
 |a::s,b::t,hs,ht,hl=>by
  obtain⟨s1,s2⟩:=Ch.1 hs
  obtain⟨t1,t2⟩:=Ch.1 ht
  have hl':s.length=t.length:=by simpa using hl
  have ih:=D3 s2 t2 hl'
  obtain⟨b1,b2⟩:=C1 s2
  obtain⟨c1,c2⟩:=C1 t2
  rw[C2,C2,hl']
  rw[hl']at b2
  simp only[cmpL]
  have hp:0<=n^t.length:=by omega
  rcases Int.lt_trichotomy a b with h|h|h
  ·have:=Int.mul_le_mul_of_nonneg_right (show a+1<=b by omega) hp
   rw[Int.add_mul,Int.one_mul]at this
   rw[if_neg (by omega),if_pos h]
   exact⟨by constructor<;>intro<;>omega,by constructor<;>intro<;>omega⟩
  ·subst h
   rw[if_pos rfl]
   exact⟨by rw[ih.1];constructor<;>intro<;>omega,by rw[ih.2];constructor<;>intro<;>omega⟩
  ·have:=Int.mul_le_mul_of_nonneg_right (show b+1<=a by omega) hp
   rw[Int.add_mul,Int.one_mul]at this
   rw[if_neg (by omega),if_neg (by omega)]
   exact⟨by constructor<;>intro<;>omega,by constructor<;>intro<;>omega⟩
theorem Di {n:Int} {k:Nat} {l:List (List Int)} (hi:Bu l=true) (hv: ∀t∈l,t.length=k/\Ax n t=true):(l.length:Int)<=n^k∨l= []:=by
 have key: ∀(i:Nat) (h:i<l.length),(i:Int)<=idx n l[i]:=by
  intro i
  induction i with
  |zero=>intro h;exact(C1 (hv _ (List.getElem_mem h)).2).1
  |succ i ih=>
   intro h
   have h1:=ih (by omega)
   obtain⟨l1,b1⟩:=hv _ (List.getElem_mem (show i<l.length by omega))
   obtain⟨l2,b2⟩:=hv _ (List.getElem_mem h)
   have:=(D3 b1 b2 (l1.trans l2.symm)).1.1 (B0 hi i (i+1) (by omega) h)
   omega
 cases hn:l.length with
 |zero=>exact .inr (List.length_eq_zero_iff.1 hn)
 |succ m=>
  left
  have h:=key m (by omega)
  obtain⟨l1,b1⟩:=hv _ (List.getElem_mem (show m<l.length by omega))
  have:=(C1 b1).2
  rw[l1]at this
  omega
theorem EN {list:List (List Int)} {t:List Int} {k:Nat} (hl:list.length<=1099511627775) (hk:k<=1099511627775) (hv: ∀u∈list,u.length=k) (ht:t.length=k) (hi:Bu list=true): ∀(m a b:Nat),a<=b->b<=list.length->b-a<m->
  (∀i (h:i<list.length),i<a->cmpL list[i] t<0)->(∀i (h:i<list.length),b<=i-> ¬cmpL list[i] t<0)->
  ∃c:Nat,AP m (list,t,(a:Int),(b:Int))=some (list,t,(c:Int))/\c<=list.length/\(∀i (h:i<list.length),i<c->cmpL list[i] t<0)/\(∀i (h:i<list.length),c<=i-> ¬cmpL list[i] t<0):=by
 intro m
 induction m with
 |zero=>intro a b _ _ h;omega
 |succ m ih=>
  intro a b hab hb hm h1 h2
  simp only[AP]
  by_cases hlt:a<b
  ·have emid:w64 (Int.tdiv (w64 ((a:Int)+b)) 2)=(((a+b)/2:Nat):Int):=by
    rw[Bf (x:=(a:Int)+b) (by omega) (by omega),Int.tdiv_eq_ediv_of_nonneg (by omega),Bf (by omega) (by omega)];omega
   have hmid:(a+b)/2<list.length:=by omega
   rw[emid]
   have hless:=Cp (s:=list[(a+b)/2]) (t:=t) (by rw[hv _ (List.getElem_mem hmid)];omega) (by rw[hv _ (List.getElem_mem hmid),ht])
   simp only[Ac,Ad hmid,hless,Option.bind_some,Ab (show(a+b)/2<4611686018427387904 by omega)]
   by_cases hc:cmpL list[(a+b)/2] t<0
   ·obtain⟨c,e,k1,k2,k3⟩:=ih ((a+b)/2+1) b (by omega) hb (by omega) (λi h hi'=>by
     rcases Nat.lt_or_ge i ((a+b)/2)with h'|h'
     ·exact cmpL_trans (B0 hi i ((a+b)/2) h' hmid) hc
     ·have:i=(a+b)/2:=by omega
      subst this;exact hc) h2
    exact⟨c,by simpa[hlt,hmid,hc]using e,k1,k2,k3⟩
   ·obtain⟨c,e,k1,k2,k3⟩:=ih a ((a+b)/2) (by omega) (by omega) (by omega) h1 (λi h hi' hneg=>by
     rcases Nat.lt_or_ge ((a+b)/2) i with h'|h'
     ·exact hc (cmpL_trans (B0 hi ((a+b)/2) i h' h) hneg)
     ·have:i=(a+b)/2:=by omega
      subst this;exact hc hneg)
    exact⟨c,by simpa[hlt,hmid,hc]using e,k1,k2,k3⟩
  ·have:a=b:=by omega
   subst this
   exact⟨a,by simp,hb,h1,h2⟩
theorem C8 {list:List (List Int)} {t:List Int} {k:Nat} (hl:list.length<=1099511627774) (hk:k<=1099511627775) (hv: ∀u∈list,u.length=k) (ht:t.length=k) (hi:Bu list=true):
  ∃c:Nat,Cq list t=some ((c:Int),decide (t∈list))/\c<=list.length/\(∀i (h:i<list.length),i<c->cmpL list[i] t<0)/\(∀i (h:i<list.length),c<=i-> ¬cmpL list[i] t<0):=by
 obtain⟨c,e,k1,k2,k3⟩:=EN (by omega) hk hv ht hi Aa 0 list.length (Nat.zero_le _) (Nat.le_refl _) (by unfold Aa;omega) (λi _ h=>by omega) (λi h h'=>by omega)
 refine⟨c,?_,k1,k2,k3⟩
 unfold Cq
 have e':AP Aa (list,t,0,(list.length:Int))=some (list,t,(c:Int)):=e
 rw[e']
 simp only[Option.bind_some]
 by_cases hc:c<list.length
 ·have hs:=C7 (a:=list[c]) (b:=t) (by rw[hv _ (List.getElem_mem hc)];omega)
  simp only[Ac,Ad hc,hs,Option.bind_some]
  have:decide (list[c]=t)=decide (t∈list):=by
   by_cases h:list[c]=t
   ·rw[decide_eq_true h,decide_eq_true (h▸List.getElem_mem hc)]
   ·rw[decide_eq_false h]
    symm;rw[decide_eq_false_iff_not]
    intro hm
    obtain⟨j,hj,rfl⟩:=List.mem_iff_getElem.1 hm
    have hne:j≠c:=λe=>h (by subst e;rfl)
    rcases Nat.lt_or_ge j c with hlt|hge
    ·have:=k2 j hj hlt;rw[cmpL_refl]at this;omega
    ·exact k3 c hc (Nat.le_refl _) (B0 hi c j (by omega) hj)
  simp[hc,this]
 ·have:decide (t∈list)=false:=by
   rw[decide_eq_false_iff_not]
   intro hm
   obtain⟨j,hj,rfl⟩:=List.mem_iff_getElem.1 hm
   have:=k2 j hj (by omega);rw[cmpL_refl]at this;omega
  rw[if_neg (by simp;omega),this]
end T
open Go Go.Va
namespace T
def Fq (n:Int):Bool:=decide (1<=n/\n<=8)
def FD (n k:Int) (t:List Int):Bool:=decide ((t.length:Int)=k)&&Ax n t
def E8 (n k:Int) (ts:List (List Int)):Bool:=Fq n&&decide (1<=k/\k<=4)&&ts.all (FD n k)&&Bu ts
end T
set_option linter.unusedVariables false
open Go Go.Va
namespace T
def Cd (a:Int×(List (List Int))) (left:Int):Option (Int):=
 (B2 a.2 left).bind λr1=>
 if decide (r1<0)then
 some (-1)
 else
 some r1
def AX (a:(List Int)×Int×(List (List Int))) (left:Int):Option (Int):=
 (Bb a.1 left).bind λr1=>
 if decide (r1<0)then
 some (-1)
 else
 (Cd (a.2.1,a.2.2) r1).bind λr2=>
 if decide (r2<0)then
 some (-1)
 else
 some r2
def Ar:Nat->((List ((List Int)×Int×(List (List Int))))×Int×Int)->Option ((Int)⊕(Int))
 |0,_=>none
 |n+1,(a,left,i)=>
 if decide (i<(a.length:Int))then
 if inb i a then
 (AX (gd a i ([],(0,[]))) left).bind λr1=>
 if decide (r1<0)then
 some (.inr (-1))
 else
 Ar n (a,r1,w64 (i+1))
 else none
 else
 some (.inl left)
def BN (a:List ((List Int)×Int×(List (List Int)))) (left:Int):Option (Int):=
 if decide ((w64 (left-(a.length:Int)))<0)then
  some (-1)
 else
  (Ar Aa (a,w64 (left-(a.length:Int)),0)).bind λs1=>
   match s1 with
   | .inl s2=>
    some s2
   | .inr s3=>
    some s3
def BO (a:Int×Int×(List ((List Int)×Int×(List (List Int))))) (left:Int):Option (Int):=
 (BN a.2.2 left).bind λr1=>
 if decide (r1<0)then
 some (-1)
 else
 some r1
def Ce (a:Int×(List (List Int))):Option ((Int×(List (List Int)))):=
 (B3 a.2).bind λr1=>
 some (a.1,r1)
def AY (a:(List Int)×Int×(List (List Int))):Option (((List Int)×(Int×(List (List Int))))):=
 (BW a.1).bind λr1=>
 (Ce (a.2.1,a.2.2)).bind λr2=>
 some (r1,(r2.1,r2.2))
def As:Nat->((List ((List Int)×Int×(List (List Int))))×(List ((List Int)×Int×(List (List Int))))×Int)->Option ((List ((List Int)×Int×(List (List Int)))))
 |0,_=>none
 |n+1,(a,out,i)=>
 if decide (i<(a.length:Int))then
 if inb i a then
 (AY (gd a i ([],(0,[])))).bind λr1=>
 if inb i out then
 As n (a,stt out i (r1.1,(r1.2.1,r1.2.2)),w64 (i+1))
 else none
 else none
 else
 some out
def BP (a:List ((List Int)×Int×(List (List Int)))):Option ((List ((List Int)×Int×(List (List Int))))):=
 if 0<=(a.length:Int)/\(a.length:Int)<=(a.length:Int)/\(a.length:Int)<=lim then
 (As Aa (a,List.replicate (Int.toNat (a.length:Int)) (([],(0,[])):(List Int)×Int×(List (List Int))),0)).bind λs1=>
 some s1
 else none
def AB (a:Int×Int×(List ((List Int)×Int×(List (List Int))))):Option ((Int×(Int×(List ((List Int)×Int×(List (List Int))))))):=
 (BP a.2.2).bind λr1=>
 some (a.1,(a.2.1,r1))
def AF:Nat->(Int×(Int×(List (List Int)))×Int)->Option ((Unit)⊕(Bool))
 |0,_=>none
 |n+1,(n_,r,i)=>
 if decide (i<(r.2.length:Int))then
 if inb i r.2 then
 (Ca n_ r.1 (gd r.2 i [])).bind λr3=>
 if !r3 then
 some (.inr false)
 else
 if decide (i>0)then
 if inb (w64 (i-1)) r.2 then
 if inb i r.2 then
 (Co (gd r.2 (w64 (i-1)) []) (gd r.2 i [])).bind λr4=>
 if !r4 then
 some (.inr false)
 else
 AF n (n_,(r.1,r.2),w64 (i+1))
 else none
 else none
 else
 AF n (n_,(r.1,r.2),w64 (i+1))
 else none
 else
 some (.inl ())
def B6 (n_:Int) (r:Int×(List (List Int))):Option (Bool):=
 (BH r.1 1 3).bind λr1=>
  if !r1 then
   some false
  else
   (CB n_ r.1).bind λr2=>
    if decide ((r.2.length:Int)>r2)then
     some false
    else
     (AF Aa (n_,(r.1,r.2),0)).bind λs3=>
      match s3 with
      | .inl s4=>
       some true
      | .inr s5=>
       some s5
def CA (vars:Int) (size:Int) (c:(List Int)×Int×(List (List Int))):Option (Bool):=
 (B6 size (c.2.1,c.2.2)).bind λr1=>
 if r1 then
 if(c.1.length:Int)==c.2.1 then
 (Bk vars c.1).bind λr2=>
 some r2
 else
 some false
 else
 some false
def AU:Nat->((Int×Int×(List ((List Int)×Int×(List (List Int)))))×Int)->Option ((Unit)⊕(Bool))
 |0,_=>none
 |n+1,(net,i)=>
 if decide (i<(net.2.2.length:Int))then
 if inb i net.2.2 then
 (CA net.1 net.2.1 (gd net.2.2 i ([],(0,[])))).bind λr3=>
 if !r3 then
 some (.inr false)
 else
 AU n ((net.1,(net.2.1,net.2.2)),w64 (i+1))
 else none
 else
 some (.inl ())
def BD (net:Int×Int×(List ((List Int)×Int×(List (List Int))))):Option (Bool):=
 (BH net.1 0 9).bind λr1=>
  if !r1 then
   some false
  else
   (BH net.2.1 1 4).bind λr2=>
    if !r2 then
     some false
    else
     if decide ((net.2.2.length:Int)>40)then
      some false
     else
      (AU Aa ((net.1,(net.2.1,net.2.2)),0)).bind λs3=>
       match s3 with
       | .inl s4=>
        some true
       | .inr s5=>
        some s5
def B8 (l:List Int):Option ((List Int)):=
 if([]:List Int).length+l.length<=lim then
 some ([]++l)
 else none
def BC (n_:Int):Option (Bool):=
 if decide (n_≥1)then
 some (decide (n_<=4))
 else
 some false
def Au:Nat->(Int×(Int×(List (List Int)))×(List (List Int))×Int×Int)->Option ((Unit)⊕(Bool))
 |0,_=>none
 |n+1,(n_,r,t16,t17,t18)=>
 if decide (t18<t17)then
 if inb t18 t16 then
 if((gd t16 t18 []).length:Int) !=r.1 then
 some (.inr false)
 else
 (BU (gd t16 t18 []) n_).bind λr1=>
 if !r1 then
 some (.inr false)
 else
 if decide (t18>0)then
 if inb (w64 (t18-1)) r.2 then
 (BT (gd r.2 (w64 (t18-1)) []) (gd t16 t18 [])).bind λr2=>
 if decide (r2≥0)then
 some (.inr false)
 else
 Au n (n_,(r.1,r.2),t16,t17,w64 (t18+1))
 else none
 else
 Au n (n_,(r.1,r.2),t16,t17,w64 (t18+1))
 else none
 else
 some (.inl ())
def BB (n_:Int) (r:Int×(List (List Int))):Option (Bool):=
 if decide (r.1<1)then
  some false
 else
  if decide (r.1>3)then
   some false
  else
   (Au Aa (n_,(r.1,r.2),r.2,(r.2.length:Int),0)).bind λs1=>
    match s1 with
    | .inl s2=>
     some true
    | .inr s3=>
     some s3
def Bp (vars:Int) (size:Int) (c:(List Int)×Int×(List (List Int))):Option (Bool):=
 (BB size (c.2.1,c.2.2)).bind λr1=>
 if r1 then
 if(c.1.length:Int)==c.2.1 then
 (BU c.1 vars).bind λr2=>
 some r2
 else
 some false
 else
 some false
def AI:Nat->((Int×Int×(List ((List Int)×Int×(List (List Int)))))×(List ((List Int)×Int×(List (List Int))))×Int×Int)->Option ((Unit)⊕(Bool))
 |0,_=>none
 |n+1,(net,t26,t27,t28)=>
 if decide (t28<t27)then
 if inb t28 t26 then
 (Bp net.1 net.2.1 ((gd t26 t28 ([],(0,[]))).1,(((gd t26 t28 ([],(0,[]))).2).1,((gd t26 t28 ([],(0,[]))).2).2))).bind λr2=>
 if !r2 then
 some (.inr false)
 else
 AI n ((net.1,(net.2.1,net.2.2)),t26,t27,w64 (t28+1))
 else none
 else
 some (.inl ())
def BI (net:Int×Int×(List ((List Int)×Int×(List (List Int))))):Option (Bool):=
 if decide (net.1<0)then
  some false
 else
  if decide (net.1>9)then
   some false
  else
   (BC net.2.1).bind λr1=>
    if !r1 then
     some false
    else
     if decide ((net.2.2.length:Int)>40)then
      some false
     else
      (AI Aa ((net.1,(net.2.1,net.2.2)),net.2.2,(net.2.2.length:Int),0)).bind λs2=>
       match s2 with
       | .inl s3=>
        some true
       | .inr s4=>
        some s4
def Cc (a:Int×(List (List Int))) (b:Int×(List (List Int))):Option (Bool):=
 if a.1 !=b.1 then
 some false
 else
 (B1 a.2 b.2).bind λr1=>
 if !r1 then
 some false
 else
 some true
def AW (a:(List Int)×Int×(List (List Int))) (b:(List Int)×Int×(List (List Int))):Option (Bool):=
 (BV a.1 b.1).bind λr1=>
 if !r1 then
 some false
 else
 (Cc (a.2.1,a.2.2) (b.2.1,b.2.2)).bind λr2=>
 if !r2 then
 some false
 else
 some true
def Aq:Nat->((List ((List Int)×Int×(List (List Int))))×(List ((List Int)×Int×(List (List Int))))×Int)->Option ((Unit)⊕(Bool))
 |0,_=>none
 |n+1,(a,b,i)=>
 if decide (i<(a.length:Int))then
 if inb i a then
 if inb i b then
 (AW (gd a i ([],(0,[]))) (gd b i ([],(0,[])))).bind λr1=>
 if !r1 then
 some (.inr false)
 else
 Aq n (a,b,w64 (i+1))
 else none
 else none
 else
 some (.inl ())
def BK (a:List ((List Int)×Int×(List (List Int)))) (b:List ((List Int)×Int×(List (List Int)))):Option (Bool):=
 if(a.length:Int) !=(b.length:Int)then
  some false
 else
  (Aq Aa (a,b,0)).bind λs1=>
   match s1 with
   | .inl s2=>
    some true
   | .inr s3=>
    some s3
def Ao (a:Int×Int×(List ((List Int)×Int×(List (List Int))))) (b:Int×Int×(List ((List Int)×Int×(List (List Int))))):Option (Bool):=
 if a.1 !=b.1 then
 some false
 else
 if a.2.1 !=b.2.1 then
 some false
 else
 (BK a.2.2 b.2.2).bind λr1=>
 if !r1 then
 some false
 else
 some true
def AO:Nat->((List Int)×Int×Int)->Option ((List Int)×Int)
 |0,_=>none
 |n+1,(a,k,i)=>
 if decide (i<(a.length:Int))then
 if inb i a then
 AO n (stt a i k,w64 (k+1),w64 (i+1))
 else none
 else
 some (a,k)
def Bw (a:List Int) (k:Int):Option ((List Int)×Int):=
 (AO Aa (a,k,0)).bind λs1=>
 some (s1.1,s1.2)
def AK:Nat->((List (List Int))×Int×Int)->Option ((List (List Int))×Int)
 |0,_=>none
 |n+1,(a,k,i)=>
 if decide (i<(a.length:Int))then
 if inb i a then
 (Bw (gd a i []) k).bind λr1=>
 AK n (stt a i r1.1,r1.2,w64 (i+1))
 else none
 else
 some (a,k)
def BL (a:List (List Int)) (k:Int):Option ((List (List Int))×Int):=
 (AK Aa (a,k,0)).bind λs1=>
 some (s1.1,s1.2)
def Am:Nat->((List ((List Int)×Int×(List (List Int))))×Int×Int)->Option ((List ((List Int)×Int×(List (List Int))))×Int)
 |0,_=>none
 |n+1,(a,k,i)=>
 if decide (i<(a.length:Int))then
 if inb i a then
 (Bw ((gd a i ([],(0,[]))).1) k).bind λr1=>
 if inb i (stt a i (r1.1,(gd a i ([],(0,[]))).2))then
 if inb i (stt (stt a i (r1.1,(gd a i ([],(0,[]))).2)) i ((gd (stt a i (r1.1,(gd a i ([],(0,[]))).2)) i ([],(0,[]))).1,(r1.2,((gd (stt a i (r1.1,(gd a i ([],(0,[]))).2)) i ([],(0,[]))).2).2)))then
 (BL (((gd (stt (stt a i (r1.1,(gd a i ([],(0,[]))).2)) i ((gd (stt a i (r1.1,(gd a i ([],(0,[]))).2)) i ([],(0,[]))).1,(r1.2,((gd (stt a i (r1.1,(gd a i ([],(0,[]))).2)) i ([],(0,[]))).2).2))) i ([],(0,[]))).2).2) (w64 (r1.2+1))).bind λr2=>
 Am n (stt (stt (stt a i (r1.1,(gd a i ([],(0,[]))).2)) i ((gd (stt a i (r1.1,(gd a i ([],(0,[]))).2)) i ([],(0,[]))).1,(r1.2,((gd (stt a i (r1.1,(gd a i ([],(0,[]))).2)) i ([],(0,[]))).2).2))) i ((gd (stt (stt a i (r1.1,(gd a i ([],(0,[]))).2)) i ((gd (stt a i (r1.1,(gd a i ([],(0,[]))).2)) i ([],(0,[]))).1,(r1.2,((gd (stt a i (r1.1,(gd a i ([],(0,[]))).2)) i ([],(0,[]))).2).2))) i ([],(0,[]))).1,(((gd (stt (stt a i (r1.1,(gd a i ([],(0,[]))).2)) i ((gd (stt a i (r1.1,(gd a i ([],(0,[]))).2)) i ([],(0,[]))).1,(r1.2,((gd (stt a i (r1.1,(gd a i ([],(0,[]))).2)) i ([],(0,[]))).2).2))) i ([],(0,[]))).2).1,r2.1)),r2.2,w64 (i+1))
 else none
 else none
 else none
 else
 some (a,k)
def Ba (a:List ((List Int)×Int×(List (List Int)))) (k:Int):Option ((List ((List Int)×Int×(List (List Int))))×Int):=
 (Am Aa (a,k,0)).bind λs1=>
 some (s1.1,s1.2)
def An (a:Int×(Int×(List ((List Int)×Int×(List (List Int)))))) (k:Int):Option ((Unit×(Unit×(List ((List Int)×Int×(List (List Int))))))×Int):=
 (Ba a.2.2 k).bind λr1=>
 some (((),((),r1.1)),r1.2)
def AN:Nat->((List Int)×Int×Int)->Option ((Int)⊕(Int))
 |0,_=>none
 |n+1,(a,k,i)=>
 if decide (i<(a.length:Int))then
 if inb i a then
 if(gd a i 0) !=k then
 some (.inr (-1))
 else
 AN n (a,w64 (k+1),w64 (i+1))
 else none
 else
 some (.inl k)
def AM (a:List Int) (k:Int):Option (Int):=
 (AN Aa (a,k,0)).bind λs1=>
  match s1 with
  | .inl s2=>
   some s2
  | .inr s3=>
   some s3
def AJ:Nat->((List (List Int))×Int×Int)->Option ((Int)⊕(Int))
 |0,_=>none
 |n+1,(a,k,i)=>
 if decide (i<(a.length:Int))then
 if inb i a then
 (AM (gd a i []) k).bind λr1=>
 if decide (r1<0)then
 some (.inr (-1))
 else
 AJ n (a,r1,w64 (i+1))
 else none
 else
 some (.inl k)
def A9 (a:List (List Int)) (k:Int):Option (Int):=
 (AJ Aa (a,k,0)).bind λs1=>
  match s1 with
  | .inl s2=>
   some s2
  | .inr s3=>
   some s3
end T
open Go Go.Va
namespace T
theorem szX {α:Type} (xs:List α) (f:α->Int->Option Int) (tot:α->Nat) (L:Nat->Int->Int->Option (Int⊕Int))
  (hf: ∀a∈xs,∀s,0<=s->s<=1099511627775->f a s=some (szR (tot a) s))
  (hs: ∀n s (k:Nat) (hk:k<xs.length),L (n+1) s k=(f xs[k] s).bind λq=>if q<0 then some (.inr (-1))else L n q ((k+1:Nat):Int))
  (he: ∀n s,L (n+1) s (xs.length:Nat)=some (.inl s)): ∀(n k:Nat) (s:Int),k<=xs.length->xs.length-k<n->0<=s->s<=1099511627775->
   L n s k=some (if(((xs.drop k).map tot).sum:Int)<=s then .inl (s-((xs.drop k).map tot).sum)else .inr (-1)):=by
 intro n
 induction n with
 |zero=>intro k s _ h;omega
 |succ n ih=>
  intro k s hk hn h0 h1
  rcases Nat.lt_or_ge k xs.length with hlt|hge
  ·rw[hs n s k hlt,hf _ (List.getElem_mem hlt) s h0 h1,List.drop_eq_getElem_cons hlt,List.map_cons,List.sum_cons]
   unfold szR
   simp only[Option.bind_some]
   by_cases h:(tot xs[k]:Int)<=s
   ·rw[if_pos h,if_neg (by omega),ih (k+1) _ hlt (by omega) (by omega) (by omega)]
    congr 1
    by_cases h2:((((xs.drop (k+1)).map tot).sum:Nat):Int)<=s-tot xs[k]
    ·rw[if_pos h2,if_pos (by omega)];congr 1;omega
    ·rw[if_neg h2,if_neg (by omega)]
   ·rw[if_neg h,if_pos (by omega),if_neg (by omega)]
  ·have:k=xs.length:=by omega
   subst this
   rw[he,List.drop_length];simp[h0]
theorem FC {α:Type} (xs:List α) (f:α->Int->Option Int) (tot:α->Nat) (L:Nat->Int->Int->Option (Int⊕Int)) (g:Option Int) {left:Int} (h0:0<=left) (h1:left<=1099511627775)
  (hf: ∀a∈xs,∀s,0<=s->s<=1099511627775->f a s=some (szR (tot a) s)) (hx:xs.length<=9223372036854775807)
  (hs: ∀n s (k:Nat) (hk:k<xs.length),k<4611686018427387904->L (n+1) s k=(f xs[k] s).bind λq=>if q<0 then some (.inr (-1))else L n q ((k+1:Nat):Int))
  (he: ∀n s,L (n+1) s (xs.length:Nat)=some (.inl s))
  (hg:g=if decide (w64 (left-(xs.length:Int))<0)then some (-1)else(L Aa (w64 (left-(xs.length:Int))) 0).bind λs1=>match s1 with| .inl s2=>some s2| .inr s3=>some s3):
  g=some (szR (xs.length+(xs.map tot).sum) left):=by
 rw[hg,Bf (by omega) (by omega)]
 by_cases h:(xs.length:Int)<=left
 ·rw[if_neg (by simp;omega)]
  have:=szX xs f tot L hf (λn s k hk=>hs n s k hk (by omega)) he Aa 0 (left-xs.length) (by omega) (by unfold Aa;omega) (by omega) (by omega)
  rw[show((0:Nat):Int)=0 from rfl,List.drop_zero]at this
  rw[this]
  unfold szR
  by_cases h2:(((xs.map tot).sum:Nat):Int)<=left-xs.length
  ·rw[if_pos h2,if_pos (by omega)]
   simp only[Option.bind_some,Option.some.injEq];omega
  ·rw[if_neg h2,if_neg (by omega)];rfl
 ·rw[if_pos (by simp;omega)]
  unfold szR
  rw[if_neg (by omega)]
theorem D9 {α:Type} (tot:α->Nat): ∀ {l:List α} {a:α},a∈l->tot a<=(l.map tot).sum
 |x::l,a,h=>by
  rw[List.map_cons,List.sum_cons]
  rcases List.mem_cons.1 h with rfl|h
  ·omega
  ·have:=D9 tot h;omega
theorem toX {α:Type} (xs:List α) (f:α->Option α) (d:α) (L:Nat->List α->Int->Option (List α)) (g:Option (List α)) (hx:xs.length<=1048576) (hf: ∀a∈xs,f a=some a)
  (hs: ∀n (out:List α) (k:Nat) (hk:k<xs.length),out.length=xs.length->k<4611686018427387904->L (n+1) out k=(f xs[k]).bind λr=>L n (out.set k r) ((k+1:Nat):Int))
  (he: ∀n out,out.length=xs.length->L (n+1) out (xs.length:Nat)=some out)
  (hg:g=if 0<=(xs.length:Int)/\(xs.length:Int)<=(xs.length:Int)/\(xs.length:Int)<=lim then(L Aa (List.replicate (Int.toNat (xs.length:Int)) d) 0).bind some else none):g=some xs:=by
 rw[hg,if_pos (by unfold lim;omega)]
 have key:=DN xs L id some (λn out k hk hl=>by rw[hs n out k hk hl (by omega),hf _ (List.getElem_mem hk)];rfl) he (n:=Aa) (out:=List.replicate (Int.toNat (xs.length:Int)) d) (by simp) (by unfold Aa;omega)
 rw[key];simp
theorem Fv {α:Type} [DecidableEq α] (a b:List α) (f:α->α->Option Bool) (L:Nat->Int->Option (Unit⊕Bool)) (g:Option Bool) (hx:a.length<=1048576) (hf: ∀x∈a,∀y,f x y=some (decide (x=y)))
  (hs: ∀n (k:Nat) (h1:k<a.length) (h2:k<b.length),k<4611686018427387904->L (n+1) k=(f a[k] b[k]).bind λr=>if !r then some (.inr false)else L n ((k+1:Nat):Int))
  (he: ∀n,L (n+1) (a.length:Nat)=some (.inl ()))
  (hg:g=if(a.length:Int) !=(b.length:Int)then some false else(L Aa 0).bind λs1=>match s1 with| .inl _=>some true| .inr s3=>some s3):g=some (decide (a=b)):=by
 rw[hg]
 by_cases hl:a.length=b.length
 ·rw[if_neg (by simp[hl]),eqX a b hl L (λn k h1 h2=>?_) he (by unfold Aa;omega)]
  ·by_cases h:a=b<;>simp[h]
  ·rw[hs n k h1 h2 (by omega),hf _ (List.getElem_mem h1)]
   by_cases h:a[k]=b[k]<;>simp[h]
 ·rw[if_pos (by simp;omega),decide_eq_false (λe=>hl (by rw[e]))]
abbrev Con:=List Int×Int×List (List Int)
abbrev Net:=Int×Int×List Con
def Ex (a:List (List Int)):Prop:=a.length<=1048576/\ ∀r∈a,r.length<=1048576
def Do (c:Con):Prop:=c.1.length<=1048576/\Ex c.2.2
def C4 (a:Net):Prop:=a.2.2.length<=1048576/\ ∀c∈a.2.2,Do c
abbrev Fl:Ty:= .pair .int (.pair .int (.slice (.pair (.slice .int) (.pair .int (.slice (.slice .int))))))
def De (c:Con):Nat:=c.1.length+CG c.2.2
def CU (a:Net):Nat:=a.2.2.length+(a.2.2.map De).sum
theorem CR {c:Con} {s:Int} (h0:0<=s) (h1:s<=1099511627775) (h:c.1.length<=9223372036854775807) (h2:c.2.2.length<=9223372036854775807) (hr: ∀r∈c.2.2,r.length<=9223372036854775807):
  AX c s=some (szR (De c) s):=by
 unfold AX
 rw[Dk h0 (by omega) h]
 unfold szR De
 simp only[Option.bind_some]
 by_cases hc:(c.1.length:Int)<=s
 ·rw[if_pos hc,if_neg (by simp;omega)]
  unfold Cd
  rw[DW (by omega) (by omega) h2 hr]
  unfold szR
  by_cases hd:(CG c.2.2:Int)<=s-c.1.length
  ·rw[if_pos hd,if_pos (by omega)]
   simp only[Option.bind_some]
   rw[if_neg (by simp;omega)]
   simp only[Option.bind_some]
   rw[if_neg (by simp;omega)]
   congr 1;omega
  ·rw[if_neg hd,if_neg (show¬((c.1.length+CG c.2.2:Nat):Int)<=s by push_cast;omega)];rfl
 ·rw[if_neg hc,if_neg (show¬((c.1.length+CG c.2.2:Nat):Int)<=s by push_cast;omega)];rfl
theorem Dz {a:Net} (h:wfT Fl a):BO a 1048576=some (szR (CU a) 1048576):=by
 unfold BO
 have hc: ∀c∈a.2.2,c.1.length<=9223372036854775807/\c.2.2.length<=9223372036854775807/\ ∀r∈c.2.2,r.length<=9223372036854775807:=λc hc=>by
  have:=h.2.2.2 c hc
  exact⟨this.1.1,this.2.2.1,λr hr=>(this.2.2.2 r hr).1⟩
 have key:BN a.2.2 1048576=some (szR (CU a) 1048576):=by
  refine FC a.2.2 AX De (λn s i=>Ar n (a.2.2,s,i)) _ (by omega) (by omega) (λc hm s h0 h1=>CR h0 h1 (hc c hm).1 (hc c hm).2.1 (hc c hm).2.2) h.2.2.1 (λn s k hk hk4=>?_) (λn s=>?_) rfl
  ·simp only[Ar,Ac,Ad hk,Ab hk4]
   simp[hk]
  ·simp[Ar]
 rw[key]
 unfold szR
 split
 ·simp only[Option.bind_some];rw[if_neg (by simp;omega)]
 ·rfl
theorem CS {a:Net} (h: ¬szR (CU a) 1048576<0):C4 a/\CU a<=1048576:=by
 unfold szR at h
 split at h
 ·refine⟨⟨by unfold CU at*;omega,λc hc=>?_⟩,by omega⟩
  have h1:=D9 De hc
  have h2:De c<=1048576:=by unfold CU at*;omega
  unfold De CG at h2
  exact⟨by omega,by omega,λr hr=>by have:=EQ hr;omega⟩
 ·omega
theorem CT {c:Con} (h:Do c):AY c=some c:=by
 unfold AY Ce
 rw[Dl (by have:=h.1;omega)]
 dsimp only
 rw[DX (by have:=h.2.1;omega) λr hr=>by have:=h.2.2 r hr;omega]
 rfl
theorem DA {a:Net} (h:C4 a):AB a=some a:=by
 unfold AB
 have key:BP a.2.2=some a.2.2:=by
  refine toX a.2.2 AY ([],(0,[])) (λn out i=>As n (a.2.2,out,i)) _ h.1 (λc hc=>CT (h.2 c hc)) (λn out k hk hl hk4=>?_) (λn out hl=>?_) rfl
  ·simp only[As,Ac,Ad hk,Cr,Ab hk4]
   simp[hk,hl]
  ·simp[As]
 rw[key];rfl
theorem CL {a b:Con} (h:Do a):AW a b=some (decide (a=b)):=by
 unfold AW Cc
 rw[Dg (by have:=h.1;omega)]
 dsimp only
 rw[DM (by have:=h.2.1;omega) λr hr=>by have:=h.2.2 r hr;omega]
 obtain⟨a1,a2,a3⟩:=a
 obtain⟨b1,b2,b3⟩:=b
 by_cases h1:a1=b1
 ·by_cases h2:a2=b2
  ·by_cases h3:a3=b3<;>simp[h1,h2,h3]
  ·simp[h1,h2]
 ·simp[h1]
theorem Dq {a b:Net} (h:C4 a):Ao a b=some (decide (a=b)):=by
 unfold Ao
 have key:BK a.2.2 b.2.2=some (decide (a.2.2=b.2.2)):=by
  refine Fv a.2.2 b.2.2 AW (λn i=>Aq n (a.2.2,b.2.2,i)) _ h.1 (λc hc y=>CL (h.2 c hc)) (λn k h1 h2 hk4=>?_) (λn=>?_) rfl
  ·simp only[Aq,Ac,Ad h1,Ad h2,Ab hk4]
   simp[h1,h2]
  ·simp[Aq]
 rw[key]
 obtain⟨a1,a2,a3⟩:=a
 obtain⟨b1,b2,b3⟩:=b
 by_cases h1:a1=b1
 ·by_cases h2:a2=b2
  ·by_cases h3:a3=b3<;>simp[h1,h2,h3]
  ·simp[h1,h2]
 ·simp[h1]
def Dw (n:Int) (r:Int×List (List Int)):Bool:=decide (1<=r.1/\r.1<=3)&&(r.2.all λt=>decide ((t.length:Int)=r.1)&&Ax n t)&&Bu r.2
def C9 (n:Int) (r:Int×List (List Int)) (k:Nat):Bool:=decide (((r.2.getD k []).length:Int)=r.1)&&Ax n (r.2.getD k [])&&(decide (k=0)||decide (cmpL (r.2.getD (k-1) []) (r.2.getD k [])<0))
theorem AA {α:Type} {l:List α} {k:Nat} {d:α} (h:k<l.length):l.getD k d=l[k]:=by simp[List.getD_eq_getElem?_getD,h]
theorem Dm {n ar:Int} {ts:List (List Int)}:(List.range ts.length).all (C9 n (ar,ts))=((ts.all λt=>decide ((t.length:Int)=ar)&&Ax n t)&&Bu ts):=by
 rw[Bool.eq_iff_iff,Bool.and_eq_true,List.all_eq_true,List.all_eq_true,DD]
 unfold C9
 constructor
 ·intro h
  refine⟨λt ht=>?_,λi hi=>?_⟩
  ·obtain⟨k,hk,rfl⟩:=List.getElem_of_mem ht
   have:=h k (List.mem_range.2 hk)
   rw[AA hk]at this
   simp only[Bool.and_eq_true]at this
   rw[Bool.and_eq_true];exact this.1
  ·have:=h (i+1) (List.mem_range.2 hi)
   rw[AA hi,Nat.add_sub_cancel,AA (show i<ts.length by omega)]at this
   simp at this
   exact this.2
 ·rintro ⟨h1,h2⟩ k hk
  have hk:=List.mem_range.1 hk
  have e:=h1 _ (List.getElem_mem hk)
  rw[AA hk]
  rw[Bool.and_eq_true]at e
  rw[Bool.and_eq_true,Bool.and_eq_true]
  refine⟨e,?_⟩
  cases k with
  |zero=>simp
  |succ i=>
   have:=h2 i hk
   rw[Nat.add_sub_cancel,AA (show i<ts.length by omega)]
   simp[this]
theorem Cy {n:Int} {r:Int×List (List Int)} (h:Ex r.2):BB n r=some (Dw n r):=by
 obtain⟨ar,ts⟩:=r
 unfold BB Dw
 by_cases h1:ar<1
 ·simp[h1,show¬1<=ar by omega]
 ·by_cases h2:ar>3
  ·simp[h1,h2,show¬ar<=3 by omega]
  ·rw[if_neg (by simpa using h1),if_neg (by simpa using h2)]
   have key:=Fw ts.length (λm (_:Unit) i=>Au m (n,(ar,ts),ts,(ts.length:Int),i)) (λ_=>()) (C9 n (ar,ts)) (r:=some (.inr false)) (e:=some (.inl ())) (λm k hk=>?_) (λm=>?_) (n:=Aa) (by unfold Aa;have:=h.1;simp at this;omega)
   ·rw[key,Dm]
    simp only[show(1<=ar/\ar<=3)=True by simp;omega,decide_true,Bool.true_and]
    cases (ts.all λt=>decide ((t.length:Int)=ar)&&Ax n t)&&Bu ts<;>simp
   ·have hx:=h.2 ts[k] (List.getElem_mem hk)
    have hk':=h.1
    simp only at hk'
    simp only[Au,Ac,Ad hk,Ab (show k<4611686018427387904 by omega),Cj n (show ts[k].length<=1099511627775 by omega),C9,AA hk]
    by_cases hl:(ts[k].length:Int)=ar
    ·cases hb:Ax n ts[k]with
     |false=>simp[hk,hl]
     |true=>
      cases k with
      |zero=>simp[hk,hl]
      |succ i=>
       have hi:i<ts.length:=by omega
       have hx2:=h.2 ts[i] (List.getElem_mem hi)
       have e:w64 (((i+1:Nat):Int)-1)=(i:Int):=by rw[Bf (by omega) (by omega)];omega
       simp only[e,Ac,Ad hi,Nat.add_sub_cancel,AA hi,Ci (show ts[i].length<=1099511627775 by omega)]
       by_cases hc:cmpL ts[i] ts[i+1]<0
       ·simp[hk,hl,hi,hc,show¬cmpL ts[i] ts[i+1]≥0 by omega];omega
       ·simp[hk,hl,hi,hc,show cmpL ts[i] ts[i+1]≥0 by omega];omega
    ·simp[hk,hl]
   ·simp[Au]
theorem CO {n:Int} {r:Int×List (List Int)} (h:Ex r.2) (hn:1<=n/\n<=8):B6 n r=some (Dw n r):=by
 obtain⟨ar,ts⟩:=r
 unfold B6 Dw
 rw[BE]
 by_cases h1:1<=ar/\ar<=3
 ·simp only[h1,and_self,decide_true,Option.bind_some,Bool.not_true,Bool.false_eq_true,if_false,Bool.true_and]
  obtain⟨m,rfl⟩: ∃m:Nat,ar=m:=⟨ar.toNat,by omega⟩
  rw[Dc (by omega) (by omega) (by omega)]
  simp only[Option.bind_some]
  have key:=Fy ts.length (λm' (_:Unit) i=>AF m' (n,((m:Int),ts),i)) (λ_=>()) (C9 n ((m:Int),ts)) (r:=some (.inr false)) (e:=some (.inl ())) (λm' k hk hb0=>?_) (λm' _=>?_) (n:=Aa) (by unfold Aa;have:=h.1;simp at this;omega)
  ·by_cases hc:(ts.length:Int)>n^m
   ·rw[if_pos (by simpa using hc)]
    by_cases hv:((ts.all λt=>decide ((t.length:Int)=m)&&Ax n t)&&Bu ts)=true
    ·rw[Bool.and_eq_true,List.all_eq_true]at hv
     rcases Di (k:=m) hv.2 λt ht=>by have:=hv.1 t ht;simp at this;exact⟨by omega,this.2⟩with h2|h2
     ·omega
     ·subst h2
      have:=Ew (n:=n) (by omega) (by omega) (k:=m) (by omega)
      simp at hc;omega
    ·simp only[Bool.not_eq_true]at hv;rw[hv]
   ·rw[if_neg (by simpa using hc),key,Dm]
    cases (ts.all λt=>decide ((t.length:Int)=m)&&Ax n t)&&Bu ts<;>simp
  ·have hx:=h.2 ts[k] (List.getElem_mem hk)
   have hk':=h.1
   simp only at hk'
   simp only[AF,Ac,Ad hk,Ab (show k<4611686018427387904 by omega),CQ (n:=n) _ (by omega) (by omega) (show ts[k].length<=1099511627775 by omega),C9,AA hk]
   by_cases hl:(ts[k].length:Int)=m
   ·cases hb:Ax n ts[k]with
    |false=>simp[hk,hl]
    |true=>
     cases k with
     |zero=>simp[hk,hl]
     |succ i=>
      have hi:i<ts.length:=by omega
      have hx2:=h.2 ts[i] (List.getElem_mem hi)
      have e:w64 (((i+1:Nat):Int)-1)=(i:Int):=by rw[Bf (by omega) (by omega)];omega
      simp only[e,Ac,Ad hi,Nat.add_sub_cancel,AA hi]
      have hb1:=hb0 i (by omega)
      simp only[C9,AA hi,Bool.and_eq_true,decide_eq_true_eq]at hb1
      rw[Cp (s:=ts[i]) (t:=ts[i+1]) (by omega) (by have:=hb1.1.1;omega)]
      by_cases hc:cmpL ts[i] ts[i+1]<0
      ·simp[hk,hl,hi,hc];omega
      ·simp[hk,hl,hi,hc];omega
   ·simp[hk,hl]
  ·simp[AF]
 ·have: ¬(1<=ar/\ar<=3):=h1
  simp[this]
end T
open Go Go.Va
namespace T
def Ct (v n:Int) (c:Con):Bool:=Dw n (c.2.1,c.2.2)&&decide ((c.1.length:Int)=c.2.1)&&Ax v c.1
def CM (a:Net):Bool:=decide (0<=a.1/\a.1<=9)&&decide (1<=a.2.1/\a.2.1<=4)&&decide (a.2.2.length<=40)&&a.2.2.all (Ct a.1 a.2.1)
theorem Ck {v n:Int} {c:Con} (h:Do c):Bp v n c=some (Ct v n c):=by
 unfold Bp Ct
 rw[Cy (r:=(c.2.1,c.2.2)) h.2]
 cases Dw n (c.2.1,c.2.2)with
 |false=>simp
 |true=>
  by_cases hl:(c.1.length:Int)=c.2.1
  ·simp[hl,Cj v (show c.1.length<=1099511627775 by have:=h.1;omega)]
  ·simp[hl]
theorem Db {v n:Int} {c:Con} (h:Do c) (hv:0<=v/\v<=9) (hn:1<=n/\n<=8):CA v n c=some (Ct v n c):=by
 unfold CA Ct
 rw[CO (r:=(c.2.1,c.2.2)) h.2 hn]
 cases Dw n (c.2.1,c.2.2)with
 |false=>simp
 |true=>
  by_cases hl:(c.1.length:Int)=c.2.1
  ·simp[hl,BS (l:=c.1) (n:=v) (by omega) (by omega) (show c.1.length<=1099511627775 by have:=h.1;omega)]
  ·simp[hl]
theorem CE {a:Net} (h:C4 a):BI a=some (CM a):=by
 obtain⟨v,n,cs⟩:=a
 unfold BI CM
 by_cases h1:v<0
 ·simp[h1,show¬0<=v by omega]
 ·by_cases h2:v>9
  ·simp[h1,h2,show¬v<=9 by omega]
  ·rw[if_neg (by simpa using h1),if_neg (by simpa using h2)]
   unfold BC
   by_cases h3:1<=n/\n<=4
   ·by_cases h4:cs.length>40
    ·simp[h3,show¬cs.length<=40 by omega];omega
    ·have key:=EH cs (λm i=>AI m ((v,(n,cs)),cs,(cs.length:Int),i)) (Ct v n) (.inr false) (.inl ()) ?_ ?_ (n:=Aa) (by unfold Aa;omega)
     ·simp only[h3,ge_iff_le,decide_true,if_true,Option.bind_some,Bool.not_true,Bool.false_eq_true,if_false]
      rw[if_neg (by simp;omega),key]
      cases cs.all (Ct v n)<;>simp<;>omega
     ·intro m k hk
      simp only[AI,Ac,Ad hk,Ab (show k<4611686018427387904 by omega),Ck (c:=cs[k]) (h.2 _ (List.getElem_mem hk))]
      cases hb:Ct v n cs[k]<;>simp[hk,hb]
     ·intro m
      simp[AI]
   ·by_cases h5:n≥1
    ·simp[h5,show¬n<=4 by omega]
    ·simp[h5,show¬1<=n by omega]
theorem Cf {a:Net} (h:C4 a):BD a=some (CM a):=by
 obtain⟨v,n,cs⟩:=a
 unfold BD CM
 rw[BE,BE]
 by_cases h1:0<=v/\v<=9
 ·by_cases h3:1<=n/\n<=4
  ·by_cases h4:cs.length>40
   ·simp[h1,h3,show¬cs.length<=40 by omega];omega
   ·have key:=EH cs (λm i=>AU m ((v,(n,cs)),i)) (Ct v n) (.inr false) (.inl ()) ?_ ?_ (n:=Aa) (by unfold Aa;omega)
    ·simp only[h1,h3,and_self,decide_true,Option.bind_some,Bool.not_true,Bool.false_eq_true,if_false]
     rw[if_neg (by simp;omega),key]
     cases cs.all (Ct v n)<;>simp<;>omega
    ·intro m k hk
     simp only[AU,Ac,Ad hk,Ab (show k<4611686018427387904 by omega),Db (c:=cs[k]) (h.2 _ (List.getElem_mem hk)) h1 (show 1<=n/\n<=8 by omega)]
     cases hb:Ct v n cs[k]<;>simp[hk,hb]
    ·intro m
     simp[AU]
  ·simp[h1,h3]
 ·simp[h1]
structure ConOk (v n:Int) (c:Con):Prop where
 ar:1<=c.2.1/\c.2.1<=3
 sl:(c.1.length:Int)=c.2.1
 sv: ∀(i:Nat) (hi:i<c.1.length),0<=c.1[i]/\c.1[i]<v
 tl: ∀t∈c.2.2,t.length=c.1.length
 tv: ∀t∈c.2.2,∀(i:Nat) (hi:i<t.length),0<=t[i]/\t[i]<n
 inc:Bu c.2.2=true
 many:c.2.2.length<=64
structure NetOk (a:Net):Prop where
 hv:0<=a.1/\a.1<=9
 hn:1<=a.2.1/\a.2.1<=4
 hc:a.2.2.length<=40
 con: ∀c∈a.2.2,ConOk a.1 a.2.1 c
theorem E6 {v n:Int} {c:Con} (hn:1<=n/\n<=4) (h:Ct v n c=true):ConOk v n c:=by
 unfold Ct Dw at h
 simp only[Bool.and_eq_true,decide_eq_true_eq,List.all_eq_true]at h
 obtain⟨⟨⟨⟨h1,h2⟩,h3⟩,h4⟩,h5⟩:=h
 refine⟨h1,h4,λi hi=>CX h5 i hi,λt ht=>by have:=(h2 t ht).1;omega,λt ht i hi=>CX (h2 t ht).2 i hi,h3,?_⟩
 rcases Di (n:=n) (k:=c.2.1.toNat) h3 λt ht=>⟨by have:=(h2 t ht).1;omega,(h2 t ht).2⟩with h6|h6
 ·have:n^c.2.1.toNat<=64:=by
   have h7:c.2.1.toNat=1∨c.2.1.toNat=2∨c.2.1.toNat=3:=by omega
   have h8:n=1∨n=2∨n=3∨n=4:=by omega
   rcases h7 with h7|h7|h7<;>rcases h8 with h8|h8|h8|h8<;>rw[h7,h8]<;>decide
  omega
 ·rw[h6];simp
theorem DS {a:Net} (h:CM a=true):NetOk a:=by
 unfold CM at h
 simp only[Bool.and_eq_true,decide_eq_true_eq,List.all_eq_true]at h
 obtain⟨⟨⟨h1,h2⟩,h3⟩,h4⟩:=h
 exact⟨h1,h2,h3,λc hc=>E6 h2 (h4 c hc)⟩
end T
open Go Go.Va
namespace T
def g0 (l:List Int) (i:Nat):Int:=l.getD i 0
section
variable {v n up:Int} {c:Con} {vals:List Int}
theorem Cv {l:List Int} (h:l.length<=1099511627775):B8 l=some l:=by
 unfold B8
 rw[if_pos (by unfold lim;simp;omega)];simp
end
end T
open Go Go.Va
namespace T
abbrev Dom:=List (List Bool)
def mk (bs:List Bool):List Int:=((List.range bs.length).filter λi=>bs.getD i false).map λi:Nat=>(i:Int)
def d2 (d:Dom) (v x:Nat):Bool:=(d.getD v []).getD x false
theorem Ag {α:Type} {l:List α} {i j:Nat} {y d:α}:(l.set i y).getD j d=if i=j/\j<l.length then y else l.getD j d:=by
 simp only[List.getD_eq_getElem?_getD,List.getElem?_set]
 by_cases h:i=j
 ·subst h
  by_cases h2:i<l.length
  ·simp[h2]
  ·simp[h2]
 ·simp[h]
end T
open Go Go.Va
namespace T
abbrev ASt:=Dom×List (Int×Int×Int)
section
variable {a:Net} {K:Nat} {c:Con}
end
end T
open Go Go.Va
namespace T
def mkL {α:Type} (f:α->Int->α×Int):List α->Int->List α×Int
 | [],k=>([],k)
 |x::l,k=>((f x k).1::(mkL f l (f x k).2).1,(mkL f l (f x k).2).2)
theorem DE {α:Type} (f:α->Int->α×Int): ∀(l:List α) (x:α) (k:Int),mkL f (l++ [x]) k=((mkL f l k).1++ [(f x (mkL f l k).2).1],(f x (mkL f l k).2).2)
 | [],x,k=>by simp[mkL]
 |y::l,x,k=>by
  simp only[List.cons_append,mkL]
  rw[DE f l x]
theorem Bx {α:Type} (f:α->Int->α×Int): ∀(l:List α) (k:Int),(mkL f l k).1.length=l.length
 | [],_=>rfl
 |x::l,k=>by simp[mkL,Bx f l]
theorem B4 {α:Type} {f:α->Int->α×Int} {w:α->Nat}: ∀(l:List α) (k:Int),(∀x∈l,∀k,(f x k).2=k+w x)->(mkL f l k).2=k+((l.map w).sum:Nat)
 | [],k,_=>by simp[mkL]
 |x::l,k,h=>by
  simp only[mkL,List.map_cons,List.sum_cons]
  rw[B4 l _ λy hy=>h y (List.mem_cons_of_mem _ hy),h x (by simp)];push_cast;omega
theorem Et {α β:Type} (N:Nat) (L:Nat->List α->Int->Int->Option β) (f:α->Int->α×Int) (w:α->Nat) (B:Int) (fin:List α->Int->Option β) (xs:List α) (k0:Int) (hN:xs.length=N) (hw: ∀x∈xs,∀k,(f x k).2=k+w x)
  (h0:0<=k0) (hB:k0+((xs.map w).sum:Nat)<=B)
  (hs: ∀n (a:List α) (k:Int) (i:Nat) (hi:i<N) (hl:a.length=N),a[i]'(by omega)∈xs->0<=k->k+w (a[i]'(by omega))<=B->L (n+1) a k i=L n (a.set i (f (a[i]'(by omega)) k).1) (f (a[i]'(by omega)) k).2 ((i+1:Nat):Int))
  (he: ∀n a k,a.length=N->L (n+1) a k (N:Nat)=fin a k) {n:Nat} (hn:N<n):L n xs k0 0=fin (mkL f xs k0).1 (mkL f xs k0).2:=by
 have far: ∀i,i<=N->(mkL f (xs.take i) k0).2=k0+(((xs.take i).map w).sum:Nat):=λi _=>B4 _ _ λx hx=>hw x (List.mem_of_mem_take hx)
 have:=Da N (λn (s:List α×Int) i=>L n s.1 s.2 i) (λi=>((mkL f (xs.take i) k0).1++xs.drop i,(mkL f (xs.take i) k0).2)) (r:=fin (mkL f xs k0).1 (mkL f xs k0).2) (λn i hi=>?_) (λn=>?_) hn
 ·simpa[mkL]using this
 ·have hix:i<xs.length:=by omega
  have hlen:(mkL f (xs.take i) k0).1.length=i:=by rw[Bx];simp;omega
  have hl2:((mkL f (xs.take i) k0).1++xs.drop i).length=N:=by simp[hlen];omega
  have hget:((mkL f (xs.take i) k0).1++xs.drop i)[i]'(by omega)=xs[i]:=by
   rw[List.getElem_append_right (by omega)];simp[hlen]
  have hsum:(((xs.take i).map w).sum:Nat)+w xs[i]<=(xs.map w).sum:=by
   have h1:xs=xs.take i++xs[i]::xs.drop (i+1):=by rw[←List.drop_eq_getElem_cons hix,List.take_append_drop]
   have h2:(xs.map w).sum=((xs.take i).map w).sum+(w xs[i]+((xs.drop (i+1)).map w).sum):=by
    conv=>lhs;rw[h1]
    rw[List.map_append,List.sum_append,List.map_cons,List.sum_cons]
   omega
  have hf:=far i (by omega)
  dsimp only
  rw[hs n _ _ i hi hl2 (by rw[hget];exact List.getElem_mem hix) (by omega) (by rw[hget,hf];omega),hget,List.take_succ_eq_append_getElem hix,DE]
  congr 1
  rw[List.set_append_right _ _ (by omega),hlen,Nat.sub_self,List.drop_eq_getElem_cons hix,List.set_cons_zero,List.append_assoc];rfl
 ·dsimp only
  rw[List.take_of_length_le (by omega),List.drop_of_length_le (by omega),List.append_nil]
  exact he n _ _ (by rw[Bx];exact hN)
theorem D2 {α:Type} (f:α->Int->α×Int) (h:α->Int->Option Int) (w:α->Nat) (B:Int): ∀(xs:List α) (k0:Int) (L:Nat->Int->Int->Option (Int⊕Int)) (j:Nat),(∀x∈xs,∀k,(f x k).2=k+w x)->0<=k0->k0+((xs.map w).sum:Nat)<=B->
  (∀x∈xs,∀k,0<=k->k+w x<=B->h (f x k).1 k=some (f x k).2)->
  (∀n k (i:Nat) (hi:i<xs.length),0<=k->k+w xs[i]<=B->L (n+1) k ((j+i:Nat):Int)=(h ((mkL f xs k0).1[i]'(by rw[Bx];exact hi)) k).bind λq=>if q<0 then some (.inr (-1))else L n q ((j+i+1:Nat):Int))->
  (∀n k,L (n+1) k ((j+xs.length:Nat):Int)=some (.inl k))-> ∀n,xs.length<n->L n k0 (j:Int)=some (.inl (mkL f xs k0).2)
 | [],k0,L,j,_,_,_,_,_,he,n,hn=>by
  obtain⟨n,rfl⟩: ∃m,n=m+1:=⟨n-1,by simp at hn;omega⟩
  have:=he n k0
  simpa[mkL]using this
 |x::xs,k0,L,j,hw,h0,hB,hh,hs,he,n,hn=>by
  obtain⟨n,rfl⟩: ∃m,n=m+1:=⟨n-1,by simp at hn;omega⟩
  rw[List.map_cons,List.sum_cons]at hB
  have hx:=hw x (by simp) k0
  have h1:=hs n k0 0 (by simp) h0 (by simp only[List.getElem_cons_zero];omega)
  simp only[Nat.add_zero,mkL,List.getElem_cons_zero]at h1
  rw[h1,hh x (by simp) k0 h0 (by omega)]
  simp only[Option.bind_some]
  rw[if_neg (by omega)]
  have:=D2 f h w B xs (f x k0).2 L (j+1) (λy hy=>hw y (List.mem_cons_of_mem _ hy)) (by omega) (by rw[hx];omega) (λy hy=>hh y (List.mem_cons_of_mem _ hy))
   (λn k i hi hk0 hkB=>by
    have:=hs n k (i+1) (by simpa using hi) hk0 (by simpa using hkB)
    simp only[mkL,List.getElem_cons_succ]at this
    rw[show j+1+i=j+(i+1) by omega];exact this)
   (λn k=>by have:=he n k;rw[List.length_cons]at this;rw[show j+1+xs.length=j+(xs.length+1) by omega];exact this) n (by simp at hn;omega)
  exact this
abbrev BM:Int:=1152921504606846976
def Ef (_:Int) (k:Int):Int×Int:=(k,k+1)
def Bh (l:List Int) (k:Int):List Int×Int:=mkL Ef l k
def BQ (l:List (List Int)) (k:Int):List (List Int)×Int:=mkL Bh l k
theorem CV {α:Type}: ∀(l:List α),(l.map λ_=>1).sum=l.length
 | []=>rfl
 |_::l=>by rw[List.map_cons,List.sum_cons,CV l,List.length_cons];omega
theorem BG (l:List Int) (k:Int):(Bh l k).2=k+(l.length:Nat):=by
 unfold Bh
 rw[B4 (w:=λ_=>1) l k λ_ _ _=>rfl,CV]
theorem DP (l:List (List Int)) (k:Int):(BQ l k).2=k+((l.map List.length).sum:Nat):=by
 unfold BQ
 rw[B4 (w:=List.length) l k λx _ k=>BG x k]
theorem CK {l:List Int} {k:Int} (hl:l.length<=1048576) (h0:0<=k) (hB:k+l.length<=BM):Bw l k=some (Bh l k):=by
 unfold Bw
 have:=Et l.length (λn a k i=>AO n (a,k,i)) Ef (λ_=>1) BM (λa k=>some (a,k)) l k rfl (λ_ _ _=>rfl) h0 (by rw[CV];exact hB) (λn a k i hi hl' _ hk0 hkB=>?_) (λn a k hl'=>?_) (n:=Aa) (by unfold Aa;omega)
 ·rw[this];rfl
 ·have hk1:w64 (k+1)=k+1:=Bf (by omega) (by unfold BM at hkB;omega)
  simp only[AO,Ac,Cr,Ab (show i<4611686018427387904 by omega),hk1,Ef]
  simp[hl',hi]
 ·simp[AO,hl']
theorem CJ {l:List Int} {k:Int} (hl:l.length<=1048576) (h0:0<=k) (hB:k+l.length<=BM):AM (Bh l k).1 k=some (Bh l k).2:=by
 unfold AM
 have hlen:(Bh l k).1.length=l.length:=Bx _ _ _
 have:=D2 Ef (λx k=>if x=k then some (k+1)else some (-1)) (λ_=>1) BM l k (λn k' i=>AN n ((Bh l k).1,k',i)) 0 (λ_ _ _=>rfl) h0 (by rw[CV];exact hB) (λx _ k' _ _=>by simp[Ef])
  (λn k' i hi hk0 hkB=>by
   have hi':i<(Bh l k).1.length:=by omega
   have hk1:w64 (k'+1)=k'+1:=Bf (by omega) (by unfold BM at hkB;omega)
   rw[Nat.zero_add]
   simp only[AN,Ac,Ad hi',Ab (show i<4611686018427387904 by omega),hk1]
   have e:(mkL Ef l k).1[i]'(by rw[Bx];exact hi)=(Bh l k).1[i]:=rfl
   rw[e]
   by_cases h:(Bh l k).1[i]=k'
   ·simp[hi',hi,h,hlen,show¬k'+1<0 by omega]
   ·simp[hi',hi,h,hlen])
  (λn k'=>by rw[Nat.zero_add];simp[AN,hlen]) Aa (by unfold Aa;omega)
 rw[show((0:Nat):Int)=0 from rfl]at this
 rw[this];rfl
theorem Dv {l:List (List Int)} {k:Int} (hl:l.length<=1048576) (hr: ∀r∈l,r.length<=1048576) (h0:0<=k) (hB:k+((l.map List.length).sum:Nat)<=BM):BL l k=some (BQ l k):=by
 unfold BL
 have:=Et l.length (λn a k i=>AK n (a,k,i)) Bh List.length BM (λa k=>some (a,k)) l k rfl (λx _ k=>BG x k) h0 hB (λn a k i hi hl' hm hk0 hkB=>?_) (λn a k hl'=>?_) (n:=Aa) (by unfold Aa;omega)
 ·rw[this];rfl
 ·have hia:i<a.length:=by omega
  simp only[AK,Ac,Cr,Ad hia,Ab (show i<4611686018427387904 by omega),CK (hr _ hm) hk0 hkB,Option.bind_some]
  simp[hl',hi]
 ·simp[AK,hl']
theorem Dr {l:List (List Int)} {k:Int} (hl:l.length<=1048576) (hr: ∀r∈l,r.length<=1048576) (h0:0<=k) (hB:k+((l.map List.length).sum:Nat)<=BM):A9 (BQ l k).1 k=some (BQ l k).2:=by
 unfold A9
 have hlen:(BQ l k).1.length=l.length:=Bx _ _ _
 have:=D2 Bh AM List.length BM l k (λn k' i=>AJ n ((BQ l k).1,k',i)) 0 (λx _ k=>BG x k) h0 hB (λx hx k' hk0 hkB=>CJ (hr x hx) hk0 hkB)
  (λn k' i hi hk0 hkB=>by
   have hi':i<(BQ l k).1.length:=by omega
   rw[Nat.zero_add]
   simp only[AJ,Ac,Ad hi',Ab (show i<4611686018427387904 by omega)]
   have e:(mkL Bh l k).1[i]'(by rw[Bx];exact hi)=(BQ l k).1[i]:=rfl
   rw[e]
   simp[hlen,hi])
  (λn k'=>by rw[Nat.zero_add];simp[AJ,hlen]) Aa (by unfold Aa;omega)
 rw[show((0:Nat):Int)=0 from rfl]at this
 rw[this];rfl
def wC (c:Con):Nat:=c.1.length+1+(c.2.2.map List.length).sum
def Cg (c:Con) (k:Int):Con×Int:=
 (((Bh c.1 k).1,(Bh c.1 k).2,(BQ c.2.2 ((Bh c.1 k).2+1)).1),(BQ c.2.2 ((Bh c.1 k).2+1)).2)
theorem Cl (c:Con) (k:Int):(Cg c k).2=k+wC c:=by
 unfold Cg wC;dsimp only
 rw[DP,BG];push_cast;omega
theorem BR {l:List Con} {k:Int} (hl:l.length<=1048576) (hr: ∀c∈l,Do c) (h0:0<=k) (hB:k+((l.map wC).sum:Nat)<=BM):Ba l k=some (mkL Cg l k):=by
 unfold Ba
 have:=Et l.length (λn a k i=>Am n (a,k,i)) Cg wC BM (λa k=>some (a,k)) l k rfl (λx _ k=>Cl x k) h0 hB (λn a k i hi hl' hm hk0 hkB=>?_) (λn a k hl'=>?_) (n:=Aa) (by unfold Aa;omega)
 ·rw[this];rfl
 ·have hia:i<a.length:=by omega
  have hc:=hr _ hm
  have hkB':k+(a[i].1.length:Int)+1+((a[i].2.2.map List.length).sum:Nat)<=BM:=by unfold wC at hkB;push_cast at hkB;omega
  have e1:=BG a[i].1 k
  have hk1:w64 ((Bh a[i].1 k).2+1)=(Bh a[i].1 k).2+1:=Bf (by omega) (by unfold BM at hkB';omega)
  have hia1: ∀y,i<(a.set i y).length:=λy=>by simpa using hia
  simp only[Am,Ac,Cr,Ad hia,Ab (show i<4611686018427387904 by omega),CK hc.1 hk0 (show k+(a[i].1.length:Int)<=BM by omega),Option.bind_some,Ad (hia1 _),List.getElem_set_self,List.set_set,hk1,
   Dv hc.2.1 hc.2.2 (show 0<=(Bh a[i].1 k).2+1 by omega) (show(Bh a[i].1 k).2+1+((a[i].2.2.map List.length).sum:Nat)<=BM by omega)]
  simp[hl',hi,Cg]
 ·simp[Am,hl']
theorem Fa {a:Net}:(a.2.2.map wC).sum<=2*CU a:=by
 unfold CU
 have: ∀l:List Con,(l.map wC).sum<=l.length+(l.map De).sum:=by
  intro l
  induction l with
  |nil=>simp
  |cons c l ih=>
   simp only[List.map_cons,List.sum_cons,List.length_cons]
   have:wC c<=1+De c:=by unfold wC De CG;omega
   omega
 have:=this a.2.2;omega
theorem C3 {a:Net} (h:C4 a) (ht:CU a<=1048576): ∃b k,An a 1=some (b,k)/\0<=k/\k<=2097153:=by
 unfold An
 have h1:= @Fa a
 rw[BR h.1 h.2 (by omega) (by unfold BM;omega)]
 refine⟨_,_,rfl,?_,?_⟩
 ·rw[B4 (w:=wC) _ _ λc _ k=>Cl c k];omega
 ·rw[B4 (w:=wC) _ _ λc _ k=>Cl c k];omega
end T
open Go Go.Va
namespace T
theorem w1:w64 1=1:=by rw[Cs];rfl
theorem w2:w64 2=2:=by rw[Cs];rfl
section
variable {a:Net}
end
end T
open Go Go.Va
namespace T
abbrev Opn:=Int×List Int
section
variable {n:Int} {f:Opn}
variable {a:Net}
end
end T
set_option linter.unusedVariables false
open Go Go.Va
namespace T
def Cb:Nat->((List Int)×(List Int)×(List Int)×Int×Int)->Option ((List Int))
 |0,_=>none
 |n+1,(g,h,t11,t12,t13)=>
 if decide (t13<t12)then
 if inb t13 t11 then
 if inb (gd t11 t13 0) g then
 if inb t13 h then
 Cb n (g,stt h t13 (gd g (gd t11 t13 0) 0),t11,t12,w64 (t13+1))
 else none
 else none
 else none
 else
 some h
def Du (f:List Int) (g:List Int):Option ((List Int)):=
 if 0<=(f.length:Int)/\(f.length:Int)<=(f.length:Int)/\(f.length:Int)<=lim then
 (Cb Aa (g,List.replicate (Int.toNat (f.length:Int)) (0:Int),f,(f.length:Int),0)).bind λs1=>
 some s1
 else none
def BX:Nat->((List Int)×(List Int)×Int×Int)->Option ((Unit)⊕(Bool))
 |0,_=>none
 |n+1,(b,t12,t13,t14)=>
 if decide (t14<t13)then
 if inb t14 t12 then
 if inb t14 b then
 if(gd b t14 0) !=(gd t12 t14 0)then
 some (.inr false)
 else
 BX n (b,t12,t13,w64 (t14+1))
 else none
 else none
 else
 some (.inl ())
def EE (a:List Int) (b:List Int):Option (Bool):=
 if(a.length:Int) !=(b.length:Int)then
  some false
 else
  (BX Aa (b,a,(a.length:Int),0)).bind λs1=>
   match s1 with
   | .inl s2=>
    some true
   | .inr s3=>
    some s3
end T
open Go Go.Va
namespace T
def EY (vs:List Int) (v:Int):Int:=vs.getD v.toNat 0
def Fg (vs:List Int) (c:Con):Bool:=decide (c.1.map (EY vs)∈c.2.2)
def FB (l:List Con) (vs:List Int):Bool:=l.all (Fg vs)
def Fz (vars:List Int) (c:Con):Bool:=c.1.all λv=>decide (v∈vars)
def FA (a:Net) (vars:List Int):List Con:=a.2.2.filter (Fz vars)
section
variable {a:Net}
end
end T
open Go Go.Va
namespace T
theorem EO {α:Type} {k:Nat} {xs:List α} {d:α}:gd xs (k:Int) d=xs.getD k d:=rfl
abbrev T3:=List (List (List Bool))
abbrev T4:=List (List (List (List Bool)))
def E0 (s:Nat) (c:List (List Bool)):Prop:=c.length=s/\ ∀x,x<s->(c.getD x []).length=s
def Fe (n s:Nat) (r:T3):Prop:=r.length=n/\ ∀j,j<n->E0 s (r.getD j [])
def Ok4 (n s:Nat) (t:T4):Prop:=t.length=n/\ ∀i,i<n->Fe n s (t.getD i [])
def r4 (t:T4) (i j x y:Nat):Bool:=(((t.getD i []).getD j []).getD x []).getD y false
def s4 (t:T4) (i j x y:Nat) (b:Bool):T4:=t.set i ((t.getD i []).set j (((t.getD i []).getD j []).set x ((((t.getD i []).getD j []).getD x []).set y b)))
def Ok3 (n m:Nat) (u:T3):Prop:=u.length=n/\ ∀i,i<n->(u.getD i []).length=n/\ ∀j,j<n->((u.getD i []).getD j []).length=m
def r3 (u:T3) (i j p:Nat):Bool:=((u.getD i []).getD j []).getD p false
def s3 (u:T3) (i j p:Nat) (b:Bool):T3:=u.set i ((u.getD i []).set j (((u.getD i []).getD j []).set p b))
section
variable {n s m:Nat} {t:T4} {u:T3}
theorem Ok4.at (h:Ok4 n s t) {i j x:Nat} (hi:i<n) (hj:j<n) (hx:x<s):i<t.length/\j<(t.getD i []).length/\x<((t.getD i []).getD j []).length/\(((t.getD i []).getD j []).getD x []).length=s:=
 ⟨by rw[h.1];exact hi,by rw[(h.2 i hi).1];exact hj,by rw[((h.2 i hi).2 j hj).1];exact hx,((h.2 i hi).2 j hj).2 x hx⟩
theorem Ok3.at (h:Ok3 n m u) {i j:Nat} (hi:i<n) (hj:j<n):i<u.length/\j<(u.getD i []).length/\((u.getD i []).getD j []).length=m:=
 ⟨by rw[h.1];exact hi,by rw[(h.2 i hi).1];exact hj,(h.2 i hi).2 j hj⟩
theorem D7 (h:Ok4 n s t) {i j x y:Nat} {b:Bool}:Ok4 n s (s4 t i j x y b):=by
 unfold s4
 refine⟨by rw[List.length_set];exact h.1,λi' hi'=>?_⟩
 rw[Ag]
 split
 ·rename_i hc
  obtain⟨rfl,_⟩:=hc
  have hr:=h.2 i hi'
  refine⟨by rw[List.length_set];exact hr.1,λj' hj'=>?_⟩
  rw[Ag]
  split
  ·rename_i hc
   obtain⟨rfl,_⟩:=hc
   have hcl:=hr.2 j hj'
   refine⟨by rw[List.length_set];exact hcl.1,λx' hx'=>?_⟩
   rw[Ag]
   split
   ·rename_i hc
    obtain⟨rfl,_⟩:=hc
    rw[List.length_set];exact hcl.2 x hx'
   ·exact hcl.2 x' hx'
  ·exact hr.2 j' hj'
 ·exact h.2 i' hi'
theorem Fo (h:Ok3 n m u) {i j p:Nat} {b:Bool}:Ok3 n m (s3 u i j p b):=by
 unfold s3
 refine⟨by rw[List.length_set];exact h.1,λi' hi'=>?_⟩
 rw[Ag]
 split
 ·rename_i hc
  obtain⟨rfl,_⟩:=hc
  have hr:=h.2 i hi'
  refine⟨by rw[List.length_set];exact hr.1,λj' hj'=>?_⟩
  rw[Ag]
  split
  ·rename_i hc
   obtain⟨rfl,_⟩:=hc
   rw[List.length_set];exact hr.2 j hj'
  ·exact hr.2 j' hj'
 ·exact h.2 i' hi'
theorem D6 (h:Ok4 n s t) {i j x y:Nat} {b:Bool} (hi:i<n) (hj:j<n) (hx:x<s) (hy:y<s) (i' j' x' y':Nat):
  r4 (s4 t i j x y b) i' j' x' y'=if i=i'/\j=j'/\x=x'/\y=y' then b else r4 t i' j' x' y':=by
 obtain⟨h1,h2,h3,h4⟩:=h.at hi hj hx
 unfold r4 s4
 rw[Ag]
 by_cases e1:i=i'
 ·subst e1
  rw[if_pos ⟨rfl,h1⟩,Ag]
  by_cases e2:j=j'
  ·subst e2
   rw[if_pos ⟨rfl,h2⟩,Ag]
   by_cases e3:x=x'
   ·subst e3
    rw[if_pos ⟨rfl,h3⟩,Ag]
    by_cases e4:y=y'
    ·subst e4;rw[if_pos ⟨rfl,by omega⟩,if_pos ⟨rfl,rfl,rfl,rfl⟩]
    ·rw[if_neg (by omega),if_neg (by omega)]
   ·rw[if_neg (by omega),if_neg (by omega)]
  ·rw[if_neg (by omega),if_neg (by omega)]
 ·rw[if_neg (by omega),if_neg (by omega)]
theorem Fm (h:Ok3 n m u) {i j p:Nat} {b:Bool} (hi:i<n) (hj:j<n) (hp:p<m) (i' j' p':Nat):
  r3 (s3 u i j p b) i' j' p'=if i=i'/\j=j'/\p=p' then b else r3 u i' j' p':=by
 obtain⟨h1,h2,h3⟩:=h.at hi hj
 unfold r3 s3
 rw[Ag]
 by_cases e1:i=i'
 ·subst e1
  rw[if_pos ⟨rfl,h1⟩,Ag]
  by_cases e2:j=j'
  ·subst e2
   rw[if_pos ⟨rfl,h2⟩,Ag]
   by_cases e3:p=p'
   ·subst e3;rw[if_pos ⟨rfl,by omega⟩,if_pos ⟨rfl,rfl,rfl⟩]
   ·rw[if_neg (by omega),if_neg (by omega)]
  ·rw[if_neg (by omega),if_neg (by omega)]
 ·rw[if_neg (by omega),if_neg (by omega)]
end
structure Rel34 (n s:Nat) (t:T4) (u:T3):Prop where
 o4:Ok4 n s t
 o3:Ok3 n (s*s) u
 eq: ∀i j x y,i<j->j<n->x<s->y<s->r4 t i j x y=r3 u i j (x*s+y)/\r4 t j i y x=r3 u i j (x*s+y)
theorem EL {s x y:Nat} (hx:x<s) (hy:y<s):x*s+y<s*s:=by
 have:(x+1)*s<=s*s:=Nat.mul_le_mul_right _ hx
 rw[Nat.succ_mul]at this;omega
theorem Ej {s x y x' y':Nat} (hy:y<s) (hy':y'<s) (h:x*s+y=x'*s+y'):x=x'/\y=y':=by
 have h1:(x*s+y)/s=x:=by rw[Nat.mul_comm,Nat.mul_add_div (by omega),Nat.div_eq_of_lt hy];omega
 have h2:(x'*s+y')/s=x':=by rw[Nat.mul_comm,Nat.mul_add_div (by omega),Nat.div_eq_of_lt hy'];omega
 have:x=x':=by rw[←h1,←h2,h]
 subst this
 exact⟨rfl,by omega⟩
theorem Rel34.drop {n s:Nat} {t:T4} {u:T3} (h:Rel34 n s t u) {i j x y:Nat} (hij:i<j) (hj:j<n) (hx:x<s) (hy:y<s):
  Rel34 n s (s4 (s4 t i j x y false) j i y x false) (s3 u i j (x*s+y) false):=by
 refine⟨D7 (D7 h.o4),Fo h.o3,λi' j' x' y' h1 h2 h3 h4=>?_⟩
 have hi:i<n:=by omega
 rw[D6 (D7 h.o4) hj hi hy hx,D6 h.o4 hi hj hx hy,D6 (D7 h.o4) hj hi hy hx,D6 h.o4 hi hj hx hy,Fm h.o3 hi hj (EL hx hy)]
 obtain⟨e1,e2⟩:=h.eq i' j' x' y' h1 h2 h3 h4
 by_cases e:i=i'/\j=j'/\x=x'/\y=y'
 ·obtain⟨rfl,rfl,rfl,rfl⟩:=e
  simp
 ·have e3: ¬(i=i'/\j=j'/\x*s+y=x'*s+y'):=λ⟨q1,q2,q3⟩=>by
   have:=Ej hy h4 q3
   exact e ⟨q1,q2,this.1,this.2⟩
  have e4: ¬(j=i'/\i=j'/\y=x'/\x=y'):=by omega
  have e5: ¬(i=j'/\j=i'/\x=y'/\y=x'):=by omega
  have e6: ¬(j=j'/\i=i'/\y=y'/\x=x'):=by omega
  simp only[if_neg e,if_neg e3,if_neg e4,if_neg e5,if_neg e6]
  exact⟨e1,e2⟩
end T
open Go Go.Va
namespace T
section
variable {a:Net} {n s:Nat} {t:T4} {u:T3}
def V2 (n i j x y:Nat):List Int:=((List.replicate n (0:Int)).set i (x:Int)).set j (y:Int)
def fB (a:Net) (n i j x y:Nat):Bool:=FB (FA a [(i:Int),(j:Int)]) (V2 n i j x y)
end
end T
open Go Go.Va
namespace T
section
variable {a:Net} {n s:Nat} {t:T4} {u:T3}
def PA (n s i:Nat) (t:T4):Prop:=t.length=n/\ ∀i',i'<i->Fe n s (t.getD i' [])
def PB (n s i j:Nat) (t:T4):Prop:=PA n s i t/\(t.getD i []).length=n/\ ∀j',j'<j->E0 s ((t.getD i []).getD j' [])
theorem PA.set {i:Nat} (h:PA n s i t) (r:T3):PA n s i (t.set i r):=by
 refine⟨by rw[List.length_set];exact h.1,λi' hi'=>?_⟩
 rw[Ag,if_neg (by omega)];exact h.2 i' hi'
theorem PB.set {i j:Nat} (h:PB n s i j t) (hi:i<n) (c:List (List Bool)):PB n s i j (t.set i ((t.getD i []).set j c)):=by
 have hl:=h.1.1
 refine⟨h.1.set _,?_,λj' hj'=>?_⟩
 ·rw[Ag,if_pos ⟨rfl,by omega⟩,List.length_set];exact h.2.1
 ·rw[Ag,if_pos ⟨rfl,by omega⟩,Ag,if_neg (by omega)];exact h.2.2 j' hj'
end
end T
set_option linter.unusedVariables false
open Go Go.Va
namespace T
def Cu:Nat->((List Int)×(List Int)×Int×Int)->Option ((List Int))
 |0,_=>none
 |n+1,(b,t10,t11,t12)=>
 if decide (t12<t11)then
 if inb t12 t10 then
 if(0:Int)<=8 then
 if b.length+ [IntKind.wrap .u8 (YiD .i64 (gd t10 t12 0) 8),IntKind.wrap .u8 (gd t10 t12 0)].length<=lim then
 Cu n (b++ [IntKind.wrap .u8 (YiD .i64 (gd t10 t12 0) 8),IntKind.wrap .u8 (gd t10 t12 0)],t10,t11,w64 (t12+1))
 else none
 else none
 else none
 else
 some b
def DO (list:List Int):Option (ByteArray):=
 if(0:Int)<=0/\(0:Int)<=(w64 (2*(list.length:Int)))/\(w64 (2*(list.length:Int)))<=lim then
 (Cu Aa (List.replicate (Int.toNat 0) (0:Int),list,(list.length:Int),0)).bind λs1=>
 some (Ybp s1)
 else none
end T
set_option linter.unusedVariables false
open Go Go.Va
namespace T
def Bv (list:List Int):Option ((List Int)):=
 if([]:List Int).length+list.length<=lim then
 some ([]++list)
 else none
end T
open Go Go.Va
namespace T
abbrev EG:=Int×List (List Int)
section
variable {n k m:Nat} {r:EG}
end
end T
open Go Go.Va
namespace T
section
variable {n:Int} {rels:List EG}
end
def CN (V:List Int) (x:Nat):Int:=match V.findIdx? (λy=>y==(x:Int))with|some i=>(i:Int)|none=> -1
section
variable {n:Nat} {t:List Int}
end
section
variable {n m:Nat} {t:List Int} {r:EG} {rels:List EG}
end
end T
set_option linter.unusedVariables false
open Go Go.Va
namespace T
def Aw:Nat->((List (List Int))×(List (List Int))×Int×Int)->Option ((List (List Int)))
 |0,_=>none
 |n+1,(list,t7,t8,t9)=>
 if decide (t9<t8)then
 if inb t9 t7 then
 (Bv (gd t7 t9 [])).bind λr1=>
 if list.length+ [r1].length<=lim then
 Aw n (list++ [r1],t7,t8,w64 (t9+1))
 else none
 else none
 else
 some list
def Bn (rows:List (List Int)):Option ((List (List Int))):=
 (Aw Aa ([],rows,(rows.length:Int),0)).bind λs1=>
 some s1
end T
open Go Go.Va
namespace T
section
variable {α:Type} {nw old:Nat->α} {N i:Nat}
end
def pr4 (p:Int):Prop:=p=2∨p=3∨p=5∨p=7
def D4 (p:Int) (W:Nat) (r:List Int):Prop:=r.length=W/\ ∀x∈r,0<=x/\x<p
section
variable {p:Int} {W:Nat} {r row:List Int}
theorem E7 (h:D4 p W r) {i:Nat} (hi:i<W):0<=r.getD i 0/\r.getD i 0<p:=by
 have:i<r.length:=by rw[h.1];exact hi
 rw[AA this];exact h.2 _ (List.getElem_mem this)
end
abbrev ES:=List (List Int)×List Int×List (List Int)
structure ESok (p:Int) (W N v:Nat) (s:ES):Prop where
 t: ∀r∈s.1,D4 p W r
 l: ∀r∈s.2.2,D4 p W r
 bl:s.2.1.length=s.1.length
 n:s.1.length+s.2.2.length=N
 bv: ∀x∈s.2.1,0<=x/\x<(v:Int)
 bn:s.2.1.Nodup
section
variable {p:Int} {W N:Nat}
end
end T
open Go Go.Va
namespace T
section
variable {p:Int} {W N V:Nat}
theorem Eg {b:List Int} {u:Nat} (h:(u:Int)∉b):CN b u= -1:=by
 unfold CN
 have h1:(b.findIdx? λy=>y==(u:Int))=none:=by
  rw[List.findIdx?_eq_none_iff]
  intro y hy
  simp only[beq_eq_false_iff_ne]
  intro e;exact h (e▸hy)
 rw[h1]
theorem D5 {b:List Int} {u:Nat} (h:(u:Int)∈b): ∃i,∃hi:i<b.length,CN b u=(i:Int)/\b[i]=(u:Int):=by
 unfold CN
 have h1:(b.findIdx? λy=>y==(u:Int)).isSome=true:=by
  rw[List.findIdx?_isSome,List.any_eq_true]
  exact⟨_,h,by simp⟩
 obtain⟨i,hi⟩:=Option.isSome_iff_exists.1 h1
 rw[hi]
 obtain⟨g1,g2,_⟩:=List.findIdx?_eq_some_iff_getElem.1 hi
 exact⟨i,g1,rfl,by simpa using g2⟩
theorem CD {rows:List (List Int)} (hN:rows.length<=100000) (hr: ∀r∈rows,r.length<=100000):Bn rows=some rows:=by
 unfold Bn
 have:=Da rows.length (λf o i=>Aw f (o,rows,(rows.length:Int),i)) (λk=>rows.take k) (r:=some rows) (λf k hk=>by
  have hl:=hr _ (List.getElem_mem hk)
  have hcl:Bv rows[k]=some rows[k]:=by
   unfold Bv
   rw[if_pos (by simp;unfold lim;omega)];simp
  simp only[Aw,Ac,hk,Ad hk,hcl,Option.bind_some,List.take_succ_eq_append_getElem hk,if_true,Ab (show k<4611686018427387904 by omega)]
  rw[if_pos (by simp;omega),if_pos (by simp;unfold lim;omega)]) (λf=>by
  simp only[Aw,List.take_length]
  rw[if_neg (by simp)]) (n:=Aa) (by unfold Aa;omega)
 have this:Aw Aa ([],rows,(rows.length:Int),0)=_:=this
 rw[this];rfl
end
end T
open Go Go.Va
namespace T
def Fi (N:Nat) (b:List Int):List Int:=((List.range N).filter λv:Nat=>!decide ((v:Int)∈b)).map λv:Nat=>(v:Int)
section
variable {p:Int} {W N V:Nat}
theorem Ev {b:List Int} {u:Nat}:CN b u<0↔(u:Int)∉b:=by
 by_cases h:(u:Int)∈b
 ·obtain⟨i,hi,h1,_⟩:=D5 h
  rw[h1];simp[h]
 ·rw[Eg h];simp[h]
def Ez (V:Nat) (s:ES) (u:Nat):Int:=if CN s.2.1 u<0 then 0 else(s.1.getD (CN s.2.1 u).toNat []).getD V 0
def Fr (V:Nat) (s:ES):List Int:=(List.range V).map (Ez V s)
end
end T
open Go Go.Va
namespace T
def cg (p a b:Int):Prop:= ∃k,a=b+p*k
section
variable {p a b c d:Int}
theorem Ek (h:a=b):cg p a b:=⟨0,by rw[h];simp⟩
theorem E3 (h:cg p a b) (g:cg p c d):cg p (a+c) (b+d):=by obtain⟨k,h⟩:=h;obtain⟨m,g⟩:=g;exact⟨k+m,by grind⟩
theorem E4 (x:Int) (h:cg p a b):cg p (x*a) (x*b):=by obtain⟨k,h⟩:=h;exact⟨x*k,by grind⟩
end
inductive Sp (p:Int) (V:Nat) (A:List (List Int)):(Nat->Int)->Prop
 |zero:Sp p V A λ_=>0
 |add {f:Nat->Int} (r:List Int) (c:Int):r∈A->Sp p V A f->Sp p V A λi=>f i+c*r.getD i 0
 |cgr {f g:Nat->Int}:Sp p V A f->(∀i,i<V->cg p (g i) (f i))->Sp p V A g
section
variable {p:Int} {V W N:Nat} {A B:List (List Int)} {f g:Nat->Int}
theorem Sp.lin (hf:Sp p V A f) (hg:Sp p V A g) (c:Int):Sp p V A λi=>f i+c*g i:=by
 induction hg with
 |zero=>exact hf.cgr λi _=>Ek (by simp)
 |add r d hr _ ih=>exact(ih.add r (c*d) hr).cgr λi _=>Ek (by grind)
 |cgr _ h ih=>exact ih.cgr λi hi=>E3 (Ek rfl) (E4 c (h i hi))
theorem Sp.sub (h: ∀r∈A,Sp p V B λi=>r.getD i 0) (hf:Sp p V A f):Sp p V B f:=by
 induction hf with
 |zero=>exact .zero
 |add r c hr _ ih=>exact ih.lin (h r hr) c
 |cgr _ h ih=>exact ih.cgr h
def eqSp (p:Int) (V:Nat) (A B:List (List Int)):Prop:= ∀f,Sp p V A f↔Sp p V B f
end
end T
open Go Go.Va
namespace T
section
variable {p:Int} {V W N:Nat} {A B:List (List Int)} {f g:Nat->Int}
theorem DB {α:Type} {l:List α} {i:Nat} {d:α} (hi:i<l.length):l.getD i d∈l:=by rw[AA hi];exact List.getElem_mem hi
end
end T
open Go Go.Va
namespace T
section
variable {p:Int} {V W N:Nat} {A B C D:List (List Int)} {f g:Nat->Int}
theorem eqSp.symm (h:eqSp p V A B):eqSp p V B A:=λf=>(h f).symm
theorem eqSp.trans (h:eqSp p V A B) (g:eqSp p V B C):eqSp p V A C:=λf=>(h f).trans (g f)
end
end T
open Go Go.Va
namespace T
def i64 (x:Int):Prop:= -9223372036854775808<=x/\x<=9223372036854775807
section
variable {c:List Int} {ar:Int}
end
end T
open Go Go.Va
namespace T
abbrev NS:=Bool×Int×List (List (List Int))×List (List (List ByteArray))
abbrev NIn (σ:Type):=Int×List Int×σ×NS×List Int×Unit
abbrev EF (σ:Type):=List Int×σ×NS×List Int×Bool
def hM {σ:Type}:Nat->(Int×List Int×σ×NS×List Int×Unit×Int×Bool×List (List Int)×Int×Int)->Option (Int×List Int×σ×NS×List Int×Unit×Int×Bool)
 |0,_=>none
 |n+1,(t0,t1,t2,t3,t4,t5,t8,t9,t50,t51,t52)=>
 if decide (t52<t51)then
 if inb t52 t50 then
 if t9 then
 if t3.1=true then
 if inb t0 t3.2.2.2 then
 if inb t52 (gd t3.2.2.2 t0 [])then
 (Du (gd t50 t52 []) t1).bind λr2=>
 (DO r2).bind λr3=>
 hM n (t0,t1,t2,t3,t4,(),t8,Xs (gd (gd t3.2.2.2 t0 []) t52 []) r3,t50,t51,w64 (t52+1))
 else none
 else none
 else none
 else
 hM n (t0,t1,t2,t3,t4,(),t8,false,t50,t51,w64 (t52+1))
 else none
 else
 some (t0,t1,t2,t3,t4,(),t8,t9)
def hL {σ:Type} (rec:NIn σ->Option (EF σ)):Nat->(Int×List Int×σ×NS×List Int×Unit×Int)->Option ((List Int×σ×NS×List Int×Unit)⊕(List Int×σ×NS×List Int×Unit×Bool))
 |0,_=>none
 |n+1,(t0,t1,t2,t3,t4,t5,t8)=>
 if t3.1=true then
 if decide (t8<t3.2.1)then
 if inb t0 t4 then
 if decide ((gd t4 t0 0)≥0)then
 if inb t0 t4 then
 if(gd t4 t0 0) !=t8 then
 hL rec n (t0,t1,t2,t3,t4,(),w64 (t8+1))
 else
 if inb t0 t1 then
 if t3.1=true then
 if inb t0 t3.2.2.1 then
 (hM Aa (t0,stt t1 t0 t8,t2,t3,t4,(),t8,true,gd t3.2.2.1 t0 [],((gd t3.2.2.1 t0 []).length:Int),0)).bind λs2=>
 if s2.2.2.2.2.2.2.2 then
 (rec (w64 (s2.1+1),s2.2.1,s2.2.2.1,s2.2.2.2.1,s2.2.2.2.2.1,())).bind λr3=>
 if !r3.2.2.2.2 then
 some (.inr (r3.1,r3.2.1,r3.2.2.1,r3.2.2.2.1,(),false))
 else
 hL rec n (s2.1,r3.1,r3.2.1,r3.2.2.1,r3.2.2.2.1,(),w64 (s2.2.2.2.2.2.2.1+1))
 else
 hL rec n (s2.1,s2.2.1,s2.2.2.1,s2.2.2.2.1,s2.2.2.2.2.1,(),w64 (s2.2.2.2.2.2.2.1+1))
 else none
 else none
 else none
 else none
 else
 if inb t0 t1 then
 if t3.1=true then
 if inb t0 t3.2.2.1 then
 (hM Aa (t0,stt t1 t0 t8,t2,t3,t4,(),t8,true,gd t3.2.2.1 t0 [],((gd t3.2.2.1 t0 []).length:Int),0)).bind λs4=>
 if s4.2.2.2.2.2.2.2 then
 (rec (w64 (s4.1+1),s4.2.1,s4.2.2.1,s4.2.2.2.1,s4.2.2.2.2.1,())).bind λr5=>
 if !r5.2.2.2.2 then
 some (.inr (r5.1,r5.2.1,r5.2.2.1,r5.2.2.2.1,(),false))
 else
 hL rec n (s4.1,r5.1,r5.2.1,r5.2.2.1,r5.2.2.2.1,(),w64 (s4.2.2.2.2.2.2.1+1))
 else
 hL rec n (s4.1,s4.2.1,s4.2.2.1,s4.2.2.2.1,s4.2.2.2.2.1,(),w64 (s4.2.2.2.2.2.2.1+1))
 else none
 else none
 else none
 else none
 else
 some (.inl (t1,t2,t3,t4,()))
 else none
def Fj {σ:Type} (cb:List Int->σ->Option (σ×Bool)) (rec:NIn σ->Option (EF σ)) (x:NIn σ):Option (EF σ):=
 if x.1==(x.2.1.length:Int)then
  (cb x.2.1 x.2.2.1).bind λr1=>some (x.2.1,r1.1,x.2.2.2.1,x.2.2.2.2.1,r1.2)
 else
  (hL rec Aa (x.1,x.2.1,x.2.2.1,x.2.2.2.1,x.2.2.2.2.1,(),0)).bind λs2=>
   match s2 with
   | .inl s3=>some (s3.1,s3.2.1,s3.2.2.1,s3.2.2.2.1,true)
   | .inr s4=>some (s4.1,s4.2.1,s4.2.2.1,s4.2.2.2.1,s4.2.2.2.2.2)
def hF {σ:Type} (cb:List Int->σ->Option (σ×Bool)):Nat->NIn σ->Option (EF σ)
 |0,_=>none
 |d+1,x=>Fj cb (hF cb d) x
section
variable {V n:Nat} {cs:List Con} {given:List Int}
end
end T
set_option linter.unusedVariables false
open Go Go.Va
namespace T
def B9:Nat->((List Int)×(List Int)×(List Int)×Int)->Option ((List Int))
 |0,_=>none
 |n+1,(t,places,out,i)=>
 if decide (i<(places.length:Int))then
 if inb i places then
 if inb (gd places i 0) t then
 if out.length+ [gd t (gd places i 0) 0].length<=lim then
 B9 n (t,places,out++ [gd t (gd places i 0) 0],w64 (i+1))
 else none
 else none
 else none
 else
 some out
def CH (t:List Int) (places:List Int):Option ((List Int)):=
 (B9 Aa (t,places,[],0)).bind λs1=>
 some s1
def CC (list:List (List Int)) (t:List Int):Option ((List (List Int))):=
 (Cq list t).bind λr1=>
 if r1.2 then
 some list
 else
 if(0:Int)<=0/\0<=r1.1/\r1.1<=(list.length:Int)then
 if([]:List (List Int)).length+((list.take (Int.toNat r1.1)).drop (Int.toNat 0)).length<=lim then
 if([]++((list.take (Int.toNat r1.1)).drop (Int.toNat 0))).length+ [t].length<=lim then
 if(0:Int)<=r1.1/\r1.1<=(list.length:Int)/\(list.length:Int)<=(list.length:Int)then
 if(([]++((list.take (Int.toNat r1.1)).drop (Int.toNat 0)))++ [t]).length+((list.take (Int.toNat (list.length:Int))).drop (Int.toNat r1.1)).length<=lim then
 some ((([]++((list.take (Int.toNat r1.1)).drop (Int.toNat 0)))++ [t])++((list.take (Int.toNat (list.length:Int))).drop (Int.toNat r1.1)))
 else none
 else none
 else none
 else none
 else none
def Av:Nat->((List Int)×(Int×(List (List Int)))×(Int×(List (List Int)))×(Int×(List (List Int)))×Int)->Option ((Int×(List (List Int)))×(Int×(List (List Int))))
 |0,_=>none
 |n+1,(places,r,t4,out,i)=>
 if decide (i<(r.2.length:Int))then
 if inb i r.2 then
 (CH (gd r.2 i []) places).bind λr1=>
 (CC out.2 r1).bind λr2=>
 Av n (places,(r.1,r.2),(t4.1,t4.2),(out.1,r2),w64 (i+1))
 else none
 else
 some ((t4.1,t4.2),(out.1,out.2))
def Bj (r:Int×(List (List Int))) (places:List Int):Option ((Int×(List (List Int)))):=
 (Av Aa (places,(r.1,r.2),(0,[]),((places.length:Int),[]),0)).bind λs1=>
 some (s1.2.1,s1.2.2)
end T
open Go Go.Va
namespace T
def Zn (cmp:List Int->List Int->Int) (rows:List (List Int)):List (List Int):=rows.mergeSort (λx y=>!decide (cmp y x<0))
def ZX (s t:List Int):Int:=if s.length<t.length then-1 else if t.length<s.length then 1 else cmpL s t
theorem Fb (s:List Int):ZX s s=0:=by unfold ZX;rw[if_neg (by omega),if_neg (by omega),cmpL_refl]
theorem Fd (s t:List Int):ZX t s= -ZX s t:=by
 unfold ZX
 by_cases h1:s.length<t.length
 ·rw[if_neg (by omega),if_pos h1,if_pos h1];rfl
 ·by_cases h2:t.length<s.length
  ·rw[if_pos h2,if_neg h1,if_pos h2]
  ·rw[if_neg h2,if_neg h1,if_neg h1,if_neg h2,cmpL_symm]
theorem Fu {s t:List Int} (h:ZX s t=0):s=t:=by
 unfold ZX at h
 by_cases h1:s.length<t.length
 ·rw[if_pos h1]at h;exact absurd h (by decide)
 ·rw[if_neg h1]at h
  by_cases h2:t.length<s.length
  ·rw[if_pos h2]at h;exact absurd h (by decide)
  ·rw[if_neg h2]at h;exact cmpL_eq.1 h
theorem E5 {s t u:List Int} (h1:ZX s t<0) (h2:ZX t u<0):ZX s u<0:=by
 unfold ZX at*
 by_cases a1:s.length<u.length
 ·rw[if_pos a1];decide
 ·rw[if_neg a1]
  by_cases b1:s.length<t.length
  ·have b2:u.length<t.length:=by omega
   rw[if_neg (by omega),if_pos b2]at h2;exact absurd h2 (by decide)
  ·rw[if_neg b1]at h1
   by_cases b3:t.length<s.length
   ·rw[if_pos b3]at h1;exact absurd h1 (by decide)
   ·rw[if_neg b3]at h1
    by_cases c1:t.length<u.length
    ·omega
    ·rw[if_neg c1]at h2
     by_cases c2:u.length<t.length
     ·rw[if_pos c2]at h2;exact absurd h2 (by decide)
     ·rw[if_neg c2]at h2
      rw[if_neg (by omega)]
      exact cmpL_trans h1 h2
end T
open Go Go.Va
namespace T
theorem BY {l:List (List Int)}:Bu l=true↔l.Pairwise (λa b=>cmpL a b<0):=by
 constructor
 ·intro h
  rw[List.pairwise_iff_getElem]
  exact λi j hi hj hij=>B0 h i j hij hj
 ·intro h
  rw[DD]
  rw[List.pairwise_iff_getElem]at h
  exact λi hi=>h i (i+1) (by omega) hi (by omega)
theorem Dd {list:List (List Int)} {t:List Int} {k:Nat} (hl:list.length<=1000000) (hk:k<=1000000) (hv: ∀u∈list,u.length=k) (ht:t.length=k) (hi:Bu list=true):
  ∃out,CC list t=some out/\Bu out=true/\(∀u,u∈out↔u=t∨u∈list)/\(t∉list->out.Perm (t::list)):=by
 obtain⟨c,e,k1,k2,k3⟩:=C8 (by omega) (by omega) hv ht hi
 unfold CC
 rw[e]
 simp only[Option.bind_some]
 by_cases hm:t∈list
 ·rw[decide_eq_true hm,if_pos rfl]
  exact⟨list,rfl,hi,λu=>⟨Or.inr,λh=>h.elim (λh=>h▸hm) id⟩,λh=>absurd hm h⟩
 ·rw[decide_eq_false hm,if_neg (by simp)]
  have e1:(list.take (Int.toNat (c:Int))).drop (Int.toNat 0)=list.take c:=by simp
  have e2:(list.take (Int.toNat (list.length:Int))).drop (Int.toNat (c:Int))=list.drop c:=by simp
  have hlim:lim=1099511627776:=rfl
  have t1:(list.take c).length=c:=by rw[List.length_take];omega
  rw[e1,e2,if_pos (by omega),if_pos (by simp;omega),if_pos (by simp;omega),if_pos (by omega),if_pos (by simp;omega)]
  refine⟨_,rfl,?_,λu=>?_,λ_=>?_⟩
  ·rw[BY]at hi⊢
   simp only[List.nil_append]
   have hsp:list=list.take c++list.drop c:=(List.take_append_drop c list).symm
   rw[hsp,List.pairwise_append]at hi
   have h4: ∀u∈list.take c,cmpL u t<0:=λu hu=>by
    obtain⟨i,hi',rfl⟩:=List.mem_iff_getElem.1 hu
    rw[List.getElem_take]
    exact k2 i _ (by omega)
   have h5: ∀u∈list.drop c,cmpL t u<0:=λu hu=>by
    obtain⟨i,hi',rfl⟩:=List.mem_iff_getElem.1 hu
    rw[List.length_drop]at hi'
    rw[List.getElem_drop]
    have h6:=k3 (c+i) (by omega) (by omega)
    have h7:=cmpL_symm (list[c+i]'(by omega)) t
    have h8:cmpL (list[c+i]'(by omega)) t≠0:=λh=>hm (by rw[←cmpL_eq.1 h];exact List.getElem_mem _)
    omega
   rw[List.pairwise_append,List.pairwise_append]
   refine⟨⟨hi.1,List.pairwise_singleton _ _,λa ha b hb=>by rw[List.mem_singleton.1 hb];exact h4 a ha⟩,hi.2.1,λa ha b hb=>?_⟩
   rcases List.mem_append.1 ha with ha|ha
   ·exact hi.2.2 a ha b hb
   ·rw[List.mem_singleton.1 ha];exact h5 b hb
  ·have hsp:u∈list↔u∈list.take c∨u∈list.drop c:=by rw[←List.mem_append,List.take_append_drop]
   simp only[List.nil_append,List.mem_append,List.mem_singleton,hsp]
   constructor
   ·rintro ((h|h)|h)
    ·exact Or.inr (Or.inl h)
    ·exact Or.inl h
    ·exact Or.inr (Or.inr h)
   ·rintro (h|h|h)
    ·exact Or.inl (Or.inr h)
    ·exact Or.inl (Or.inl h)
    ·exact Or.inr h
  ·simp only[List.nil_append]
   refine(List.Perm.append_right _ (List.perm_append_comm)).trans ?_
   rw[List.append_assoc,List.take_append_drop]
   exact List.Perm.refl _
theorem Ec {x y:List Int} (h1: ¬cmpL y x<0) (h2: ¬cmpL x y<0):x=y:=by
 have:=cmpL_symm x y
 exact cmpL_eq.1 (by omega)
theorem Cm {out l:List (List Int)} (hi:Bu out=true) (hp:out.Perm l):Zn cmpL l=out:=by
 have hs:(Zn cmpL l).Pairwise λx y=>(!decide (cmpL y x<0))=true:=by
  unfold Zn
  refine List.pairwise_mergeSort (λa b c h1 h2=>?_) (λa b=>?_) l
  ·simp only[Bool.not_eq_true',decide_eq_false_iff_not]at*
   intro h3
   have q1:=cmpL_symm a b
   have q2:=cmpL_symm b c
   by_cases e:cmpL a b=0
   ·rw[cmpL_eq.1 e]at h3;exact h2 h3
   ·exact h2 (cmpL_trans h3 (by omega))
  ·simp only[Bool.or_eq_true,Bool.not_eq_true',decide_eq_false_iff_not]
   have q1:=cmpL_symm a b
   omega
 have ho:out.Pairwise λx y=>(!decide (cmpL y x<0))=true:=by
  refine(BY.1 hi).imp ?_
  intro a b h
  simp only[Bool.not_eq_true',decide_eq_false_iff_not]
  have q1:=cmpL_symm a b
  omega
 have hpp:(Zn cmpL l).Perm out:=(List.mergeSort_perm l _).trans hp.symm
 refine List.Perm.eq_of_pairwise (λa b _ _ h1 h2=>?_) hs ho hpp
 simp only[Bool.not_eq_true',decide_eq_false_iff_not]at h1 h2
 exact Ec h1 h2
end T
set_option linter.unusedVariables false
open Go Go.Va
namespace T
def Ap (a0:List (List Int)) (a1:Unit):Option (List (List Int)):=
 if List.length a0<=lim/\List.all a0 (λx=>decide (List.length x<=lim))=true then some (Zn cmpL a0)else none
end T
open Go Go.Va
namespace T
section
variable {p:Int} {W N V:Nat}
def coG (p:Int) (s:ES) (u:Nat) (f:Int):Int:=if CN s.2.1 u<0 then(if f=(u:Int)then 1 else 0)else p-(s.1.getD (CN s.2.1 u).toNat []).getD f.toNat 0
def E9 (p:Int) (V:Nat) (s:ES) (F x:List Int) (u:Nat):Nat->Int
 |0=>Ez V s u
 |k+1=>E9 p V s F x u k+coG p s u (F.getD k 0)*x.getD k 0
def Ft (p:Int) (V:Nat) (s:ES) (F x:List Int) (k:Nat):List Int:=(List.range V).map λu=>E9 p V s F x u k%p
structure GenOk (p:Int) (W N V:Nat) (s:ES) (F x:List Int):Prop where
 hp:pr4 p
 hs:ESok p W N V s
 hV:V<W
 hW:W<=1000
 hN:N<=100000
 hF:F=Fi V s.2.1
 hx:x.length=F.length
 xb: ∀v∈x,0<=v/\v<p
variable {s:ES} {F x:List Int}
theorem GenOk.pb (g:GenOk p W N V s F x):2<=p/\p<=7:=by have:=g.hp;unfold pr4 at this;omega
theorem GenOk.row (g:GenOk p W N V s F x) {u:Nat} (hu: ¬CN s.2.1 u<0):(CN s.2.1 u).toNat<s.1.length/\D4 p W (s.1.getD (CN s.2.1 u).toNat []):=by
 have hm:(u:Int)∈s.2.1:=by
  rcases Decidable.em ((u:Int)∈s.2.1)with h|h
  ·exact h
  ·exact absurd (Ev.2 h) hu
 obtain⟨i,hi,g1,_⟩:=D5 hm
 rw[g1,Int.toNat_natCast]
 have:=g.hs.bl
 exact⟨by omega,by rw[AA (by omega)];exact g.hs.t _ (List.getElem_mem _)⟩
theorem GenOk.base (g:GenOk p W N V s F x) (u:Nat):0<=Ez V s u/\Ez V s u<p:=by
 have:=g.pb
 unfold Ez
 split
 ·omega
 ·rename_i h
  exact E7 (g.row h).2 g.hV
end
end T
open Go Go.Va
namespace T
section
variable {p:Int} {W N V:Nat} {s:ES} {F x:List Int}
theorem GenOk.zero (g:GenOk p W N V s F x):Ft p V s F x 0=Fr V s:=by
 unfold Ft Fr
 refine List.map_congr_left λu _=>?_
 have:=g.base u
 simp only[E9]
 exact Int.emod_eq_of_lt this.1 this.2
end
end T
open Go Go.Va
namespace T
section
variable {a:Lin} {p:Int} {W N V:Nat} {s:ES} {F:List Int}
theorem DU (l:List (List Int)):(Zn cmpL l).Perm l:=List.mergeSort_perm l _
end
end T
open Go Go.Va
namespace T
def Zm (xs:List (List Int)):List Nat:=(List.range xs.length).filter λi=>i==0||xs.getD (i-1) [] !=xs.getD i []
def Zx (xs:List (List Int)):List (List Int):=(Zm xs).map λi=>xs.getD i []
def dgP:List Int->List (List Int)->List (List Int)
 |_,[]=> []
 |p,x::l=>if p=x then dgP x l else x::dgP x l
theorem Df: ∀(l pre:List (List Int)) (p:List Int),((List.range' (pre++ [p]).length l.length).filter λi=>i==0||(pre++ [p]++l).getD (i-1) [] !=(pre++ [p]++l).getD i []).map (λi=>(pre++ [p]++l).getD i [])=dgP p l
 | [],_,_=>rfl
 |x::l,pre,p=>by
  have ih:=Df l (pre++ [p]) x
  have e:pre++ [p]++ [x]++l=pre++ [p]++(x::l):=by simp
  rw[e]at ih
  have e2:(pre++ [p]++ [x]).length=(pre++ [p]).length+1:=by simp
  rw[e2]at ih
  have g1:(pre++ [p]++(x::l)).getD ((pre++ [p]).length-1) []=p:=by
   rw[List.getD_eq_getElem?_getD,List.getElem?_append_left (by simp),List.length_append,List.length_singleton,Nat.add_sub_cancel,List.getElem?_append_right (Nat.le_refl _),Nat.sub_self];rfl
  have g2:(pre++ [p]++(x::l)).getD (pre++ [p]).length []=x:=by
   rw[List.getD_eq_getElem?_getD,List.getElem?_append_right (Nat.le_refl _),Nat.sub_self];rfl
  have g3:((pre++ [p]).length==0)=false:=by simp
  rw[List.length_cons,List.range'_succ,List.filter_cons,g1,g2,g3,dgP]
  by_cases h:p=x
  ·rw[if_neg (by simp[h]),if_pos h];exact ih
  ·rw[if_pos (by simp[h]),if_neg h,List.map_cons,g2];exact congrArg _ ih
theorem CZ {x:List Int} {l:List (List Int)}:Zx (x::l)=x::dgP x l:=by
 have h:=Df l [] x
 unfold Zx Zm
 rw[List.range_eq_range',List.length_cons,List.range'_succ,List.filter_cons,if_pos (by simp),List.map_cons]
 exact congrArg _ h
theorem D1: ∀ {l:List (List Int)} {p u:List Int},(u∈dgP p l∨u=p)↔(u∈l∨u=p)
 | [],_,_=>Iff.rfl
 |x::l,p,u=>by
  have ih:=D1 (l:=l) (p:=x) (u:=u)
  unfold dgP
  by_cases h:p=x
  ·subst h
   rw[if_pos rfl,ih,List.mem_cons]
   exact⟨λh=>h.elim (λh=>Or.inl (Or.inr h)) Or.inr,λh=>h.elim (λh=>h.elim Or.inr Or.inl) Or.inr⟩
  ·rw[if_neg h,List.mem_cons,List.mem_cons]
   constructor
   ·rintro ((h|h)|h)
    ·exact Or.inl (Or.inl h)
    ·exact Or.inl ((ih.1 (Or.inl h)).elim Or.inr Or.inl)
    ·exact Or.inr h
   ·rintro ((h|h)|h)
    ·exact Or.inl (Or.inl h)
    ·exact Or.inl ((ih.2 (Or.inl h)).elim Or.inr Or.inl)
    ·exact Or.inr h
theorem Ed {l:List (List Int)} {u:List Int}:u∈Zx l↔u∈l:=by
 cases l with
 |nil=>exact Iff.rfl
 |cons x l=>
  rw[CZ,List.mem_cons,List.mem_cons]
  have:=D1 (l:=l) (p:=x) (u:=u)
  exact⟨λh=>(this.1 h.symm).symm,λh=>(this.2 h.symm).symm⟩
theorem D0: ∀ {l:List (List Int)} {p:List Int},(p::l).Pairwise (λa b=> ¬cmpL b a<0)->(p::dgP p l).Pairwise λa b=>cmpL a b<0
 | [],_,_=>List.pairwise_singleton _ _
 |x::l,p,h=>by
  have h1:=List.pairwise_cons.1 h
  have ih:=D0 (l:=l) (p:=x) h1.2
  unfold dgP
  by_cases e:p=x
  ·subst e;rw[if_pos rfl];exact ih
  ·rw[if_neg e]
   refine List.pairwise_cons.2 ⟨λb hb=>?_,ih⟩
   have hlt:cmpL p x<0:=by
    have h2:=h1.1 x (List.mem_cons_self ..)
    have h3:=cmpL_symm p x
    have h4:cmpL p x≠0:=λh=>e (cmpL_eq.1 h)
    omega
   rcases List.mem_cons.1 hb with rfl|hb
   ·exact hlt
   ·exact cmpL_trans hlt ((List.pairwise_cons.1 ih).1 b hb)
theorem EA (l:List (List Int)):(Zn cmpL l).Pairwise λa b=> ¬cmpL b a<0:=by
 have hs:(Zn cmpL l).Pairwise λx y=>(!decide (cmpL y x<0))=true:=by
  unfold Zn
  refine List.pairwise_mergeSort (λa b c h1 h2=>?_) (λa b=>?_) l
  ·simp only[Bool.not_eq_true',decide_eq_false_iff_not]at*
   intro h3
   have q1:=cmpL_symm a b
   have q2:=cmpL_symm b c
   by_cases e:cmpL a b=0
   ·rw[cmpL_eq.1 e]at h3;exact h2 h3
   ·exact h2 (cmpL_trans h3 (by omega))
  ·simp only[Bool.or_eq_true,Bool.not_eq_true',decide_eq_false_iff_not]
   have q1:=cmpL_symm a b
   omega
 exact hs.imp fun {a b} h=>by simpa using h
def Cz (l:List (List Int)):List (List Int):=Zx (Zn cmpL l)
theorem setL_mem {l:List (List Int)} {u:List Int}:u∈Cz l↔u∈l:=by
 unfold Cz;rw[Ed];exact(List.mergeSort_perm l _).mem_iff
theorem C5 (l:List (List Int)):Bu (Cz l)=true:=by
 rw[BY]
 unfold Cz
 have h:=EA l
 generalize Zn cmpL l=s at h
 cases s with
 |nil=>exact List.Pairwise.nil
 |cons x s=>rw[CZ];exact D0 h
theorem Ep: ∀ {a b:List (List Int)},Bu a=true->Bu b=true->(∀u,u∈a↔u∈b)->a=b:=by
 intro a b ha hb h
 have pa:=BY.1 ha
 have pb:=BY.1 hb
 have na:a.Nodup:=pa.imp fun {x y} h e=>by rw[e,cmpL_refl]at h;omega
 have nb:b.Nodup:=pb.imp fun {x y} h e=>by rw[e,cmpL_refl]at h;omega
 have hp:a.Perm b:=(List.perm_ext_iff_of_nodup na nb).2 h
 rw[←Cm ha (List.Perm.refl _),←Cm hb (List.Perm.refl _)]
 have h1:=Cm ha hp
 have h2:=Cm hb (List.Perm.refl b)
 have h3:=Cm ha (List.Perm.refl a)
 rw[h2,h3,←h1,h2]
theorem EV {out l:List (List Int)} (hi:Bu out=true) (hm: ∀u,u∈out↔u∈l):Cz l=out:=
 Ep (C5 l) hi λu=>setL_mem.trans (hm u).symm
theorem Em (l:List (List Int)):(Zx l).length<=l.length:=by
 unfold Zx Zm
 rw[List.length_map]
 exact Nat.le_trans (List.length_filter_le _ _) (by rw[List.length_range];exact Nat.le_refl _)
theorem Dy (l:List (List Int)):(Cz l).length<=l.length:=by
 unfold Cz
 have:=Em (Zn cmpL l)
 rwa [show(Zn cmpL l).length=l.length from(List.mergeSort_perm l _).length_eq]at this
end T
set_option linter.unusedVariables false
open Go Go.Va
namespace T
def BJ (a0:List (List Int)):Option (List (List Int)):=
 if List.length a0<=lim/\List.all a0 (λx=>decide (List.length x<=lim))=true then some (Zx a0)else none
end T
open Go Go.Va
namespace T
section
variable {n:Int} {k:Nat} {ts:List (List Int)}
def ET (ts:List (List Int)) (i j:Nat):List Int:=(ts.getD j []).take i
def EZ (ts:List (List Int)) (i j:Nat):Int:=(ts.getD j []).getD i 0
end
end T
open Go Go.Va
namespace T
section
variable {n:Int} {k:Nat} {ts:List (List Int)}
def E1 (ts:List (List Int)) (i:Nat) (x y:Int) (a b:Nat):Bool:=EZ ts i a==x&&(EZ ts i b==y&&decide (ET ts i a=ET ts i b))
def bO (ts:List (List Int)) (i:Nat) (x y:Int) (a:Nat):Option Nat:=(List.range ts.length).find? (E1 ts i x y a)
def Eu (ts:List (List Int)) (i:Nat) (x y:Int):Option (Nat×Nat):=(List.range ts.length).findSome? λa=>(bO ts i x y a).map λb=>(a,b)
theorem DT {i:Nat} {x y:Int} {a b:Nat} (h:Eu ts i x y=some (a,b)):a<ts.length/\b<ts.length/\EZ ts i a=x/\EZ ts i b=y/\ET ts i a=ET ts i b:=by
 unfold Eu at h
 obtain⟨a',ha,h⟩:=List.exists_of_findSome?_eq_some h
 obtain⟨b',hb,h⟩:=Option.map_eq_some_iff.1 h
 obtain⟨rfl,rfl⟩:=Prod.mk.inj h
 have h1:=List.find?_some hb
 have h2:=List.mem_of_find?_eq_some hb
 unfold E1 at h1
 simp only[Bool.and_eq_true,beq_iff_eq,decide_eq_true_eq]at h1
 exact⟨List.mem_range.1 ha,List.mem_range.1 h2,h1.1,h1.2.1,h1.2.2⟩
end
end T
set_option linter.unusedVariables false
open Go Go.Va
namespace T
def AH:Nat->((List ((List Int)×Int×(List (List Int))))×(List ((List Int)×Int×(List (List Int))))×Int×((List Int)×(Int×(List (List Int))))×Int)->Option ((List ((List Int)×Int×(List (List Int))))×(List ((List Int)×Int×(List (List Int))))×Int×((List Int)×(Int×(List (List Int)))))
 |0,_=>none
 |n+1,(list,out,i,c,k)=>
 if inb i list then
 if decide (k<((((gd list i ([],(0,[]))).2).2).length:Int))then
 if inb i list then
 if inb k (((gd list i ([],(0,[]))).2).2)then
 (B8 (gd (((gd list i ([],(0,[]))).2).2) k [])).bind λr2=>
 if c.2.2.length+ [r2].length<=lim then
 AH n (list,out,i,(c.1,(c.2.1,c.2.2++ [r2])),w64 (k+1))
 else none
 else none
 else none
 else
 some (list,out,i,(c.1,(c.2.1,c.2.2)))
 else none
def AG:Nat->((List ((List Int)×Int×(List (List Int))))×(List ((List Int)×Int×(List (List Int))))×Int)->Option ((List ((List Int)×Int×(List (List Int)))))
 |0,_=>none
 |n+1,(list,out,i)=>
 if decide (i<(list.length:Int))then
 if inb i list then
 (B8 ((gd list i ([],(0,[]))).1)).bind λr1=>
 if inb i list then
 (AH Aa (list,out,i,(r1,(((gd list i ([],(0,[]))).2).1,[])),0)).bind λs2=>
 if s2.2.1.length+ [(s2.2.2.2.1,(s2.2.2.2.2.1,s2.2.2.2.2.2))].length<=lim then
 AG n (s2.1,s2.2.1++ [(s2.2.2.2.1,(s2.2.2.2.2.1,s2.2.2.2.2.2))],w64 (s2.2.2.1+1))
 else none
 else none
 else none
 else
 some out
def B7 (list:List ((List Int)×Int×(List (List Int)))):Option ((List ((List Int)×Int×(List (List Int))))):=
 (AG Aa (list,[],0)).bind λs1=>
 some s1
def Bs (list:List (List Int)):Option ((List (List Int))):=
 (Bn list).bind λr1=>
 (Ap r1 ()).bind λr2=>
 some r2
def Bq (arity:Int) (tuples:List (List Int)):Option ((Int×(List (List Int)))):=
 (Bs tuples).bind λr1=>
 (BJ r1).bind λr2=>
 some (arity,r2)
def Bz (net:Int×Int×(List ((List Int)×Int×(List (List Int))))) (list:List ((List Int)×Int×(List (List Int)))):Option ((Int×(Int×(List ((List Int)×Int×(List (List Int))))))×Bool):=
 if decide ((list.length:Int)>40)then
 some ((0,(0,[])),false)
 else
 some ((net.1,(net.2.1,list)),true)
def Al:Nat->((List ((List Int)×Int×(List (List Int))))×Int×Int)->Option ((Int)⊕(Int))
 |0,_=>none
 |n+1,(a,k,i)=>
 if decide (i<(a.length:Int))then
 if inb i a then
 (AM ((gd a i ([],(0,[]))).1) k).bind λr1=>
 if decide (r1<0)then
 some (.inr (-1))
 else
 if inb i a then
 if(((gd a i ([],(0,[]))).2).1) !=r1 then
 some (.inr (-1))
 else
 if inb i a then
 (A9 (((gd a i ([],(0,[]))).2).2) (w64 (r1+1))).bind λr2=>
 if decide (r2<0)then
 some (.inr (-1))
 else
 Al n (a,r2,w64 (i+1))
 else none
 else none
 else none
 else
 some (.inl k)
def A8 (a:List ((List Int)×Int×(List (List Int)))) (k:Int):Option (Int):=
 (Al Aa (a,k,0)).bind λs1=>
  match s1 with
  | .inl s2=>
   some s2
  | .inr s3=>
   some s3
def Bg (a:Int×Int×(List ((List Int)×Int×(List (List Int))))) (k:Int):Option (Int):=
 (A8 a.2.2 k).bind λr1=>
 if decide (r1<0)then
 some (-1)
 else
 some r1
end T
set_option linter.unusedVariables false
open Go Go.Va
namespace T
def CF (net:Int×Int×(List ((List Int)×Int×(List (List Int))))):Option ((Int×Int×(List ((List Int)×Int×(List (List Int)))))×Bool):=
 (BD (net.1,(net.2.1,net.2.2))).bind λr1=>
 if !r1 then
 some ((0,(0,[])),false)
 else
 some ((net.1,(net.2.1,net.2.2)),true)
def Az:Nat->((Int×Int×(List ((List Int)×Int×(List (List Int)))))×(Int×(Int×(List ((List Int)×Int×(List (List Int))))))×(Int×(Int×(List ((List Int)×Int×(List (List Int))))))×Int×((List Int)×Int×(List (List Int)))×Int×Int)->Option ((Int×Int×(List ((List Int)×Int×(List (List Int)))))×(Int×(Int×(List ((List Int)×Int×(List (List Int))))))×(Int×(Int×(List ((List Int)×Int×(List (List Int))))))×Int×((List Int)×Int×(List (List Int)))×Int)
 |0,_=>none
 |n+1,(t1,t2,t4,t5,t6,t7,t8)=>
 if decide (t8<(t6.1.length:Int))then
 if inb t7 t6.1 then
 if inb t8 t6.1 then
 (Bj (t6.2.1,t6.2.2) [t7,t8]).bind λr3=>
 if t4.2.2.length+ [([gd t6.1 t7 0,gd t6.1 t8 0],r3)].length<=lim then
 Az n ((t1.1,(t1.2.1,t1.2.2)),(t2.1,(t2.2.1,t2.2.2)),(t4.1,(t4.2.1,t4.2.2++ [([gd t6.1 t7 0,gd t6.1 t8 0],r3)])),t5,(t6.1,(t6.2.1,t6.2.2)),t7,w64 (t8+1))
 else none
 else none
 else none
 else
 some ((t1.1,(t1.2.1,t1.2.2)),(t2.1,(t2.2.1,t2.2.2)),(t4.1,(t4.2.1,t4.2.2)),t5,(t6.1,(t6.2.1,t6.2.2)),t7)
def Af:Nat->((Int×Int×(List ((List Int)×Int×(List (List Int)))))×(Int×(Int×(List ((List Int)×Int×(List (List Int))))))×(Int×(Int×(List ((List Int)×Int×(List (List Int))))))×Int×((List Int)×Int×(List (List Int)))×Int)->Option ((Int×Int×(List ((List Int)×Int×(List (List Int)))))×(Int×(Int×(List ((List Int)×Int×(List (List Int))))))×(Int×(Int×(List ((List Int)×Int×(List (List Int))))))×Int)
 |0,_=>none
 |n+1,(t1,t2,t4,t5,t6,t7)=>
 if decide (t7<(t6.1.length:Int))then
 (Az Aa ((t1.1,(t1.2.1,t1.2.2)),(t2.1,(t2.2.1,t2.2.2)),(t4.1,(t4.2.1,t4.2.2)),t5,(t6.1,(t6.2.1,t6.2.2)),t7,w64 (t7+1))).bind λs3=>
 Af n ((s3.1.1,(s3.1.2.1,s3.1.2.2)),(s3.2.1.1,(s3.2.1.2.1,s3.2.1.2.2)),(s3.2.2.1.1,(s3.2.2.1.2.1,s3.2.2.1.2.2)),s3.2.2.2.1,(s3.2.2.2.2.1.1,(s3.2.2.2.2.1.2.1,s3.2.2.2.2.1.2.2)),w64 (s3.2.2.2.2.2+1))
 else
 some ((t1.1,(t1.2.1,t1.2.2)),(t2.1,(t2.2.1,t2.2.2)),(t4.1,(t4.2.1,t4.2.2)),t5)
def Aj:Nat->((Int×Int×(List ((List Int)×Int×(List (List Int)))))×(Int×(Int×(List ((List Int)×Int×(List (List Int))))))×(Int×(Int×(List ((List Int)×Int×(List (List Int))))))×Int)->Option ((Int×(Int×(List ((List Int)×Int×(List (List Int))))))×(Int×(Int×(List ((List Int)×Int×(List (List Int)))))))
 |0,_=>none
 |n+1,(t1,t2,t4,t5)=>
 if decide (t5<(t1.2.2.length:Int))then
 if(0:Int)<=t5/\t5<=(w64 (t5+1))/\(w64 (t5+1))<=(t1.2.2.length:Int)then
 (B7 ((t1.2.2.take (Int.toNat (w64 (t5+1)))).drop (Int.toNat t5))).bind λr2=>
 if inb 0 r2 then
 if(((gd r2 0 ([],(0,[]))).1).length:Int)==1 then
 if t4.2.2.length+ [((gd r2 0 ([],(0,[]))).1,(((gd r2 0 ([],(0,[]))).2).1,((gd r2 0 ([],(0,[]))).2).2))].length<=lim then
 (Af Aa ((t1.1,(t1.2.1,t1.2.2)),(t2.1,(t2.2.1,t2.2.2)),(t4.1,(t4.2.1,t4.2.2++ [((gd r2 0 ([],(0,[]))).1,(((gd r2 0 ([],(0,[]))).2).1,((gd r2 0 ([],(0,[]))).2).2))])),t5,((gd r2 0 ([],(0,[]))).1,(((gd r2 0 ([],(0,[]))).2).1,((gd r2 0 ([],(0,[]))).2).2)),0)).bind λs3=>
 Aj n ((s3.1.1,(s3.1.2.1,s3.1.2.2)),(s3.2.1.1,(s3.2.1.2.1,s3.2.1.2.2)),(s3.2.2.1.1,(s3.2.2.1.2.1,s3.2.2.1.2.2)),w64 (s3.2.2.2+1))
 else none
 else
 (Af Aa ((t1.1,(t1.2.1,t1.2.2)),(t2.1,(t2.2.1,t2.2.2)),(t4.1,(t4.2.1,t4.2.2)),t5,((gd r2 0 ([],(0,[]))).1,(((gd r2 0 ([],(0,[]))).2).1,((gd r2 0 ([],(0,[]))).2).2)),0)).bind λs4=>
 Aj n ((s4.1.1,(s4.1.2.1,s4.1.2.2)),(s4.2.1.1,(s4.2.1.2.1,s4.2.1.2.2)),(s4.2.2.1.1,(s4.2.2.1.2.1,s4.2.2.1.2.2)),w64 (s4.2.2.2+1))
 else none
 else none
 else
 some ((t2.1,(t2.2.1,t2.2.2)),(t4.1,(t4.2.1,t4.2.2)))
def Bi (t0:Int×Int×(List ((List Int)×Int×(List (List Int))))):Option ((Int×Int×(List ((List Int)×Int×(List (List Int)))))×Bool):=
 (BD (t0.1,(t0.2.1,t0.2.2))).bind λr1=>
 if !r1 then
 some ((0,(0,[])),false)
 else
 (Aj Aa ((t0.1,(t0.2.1,t0.2.2)),(0,(0,[])),(t0.1,(t0.2.1,[])),0)).bind λs2=>
 (CF (s2.2.1,(s2.2.2.1,s2.2.2.2))).bind λr3=>
 some ((r3.1.1,(r3.1.2.1,r3.1.2.2)),r3.2)
def Bm (r:Int×(List (List Int))):Option ((Int×(List (List Int)))):=
 (Bn r.2).bind λr1=>
 some (r.1,r1)
def AL:Nat->((List ((List Int)×Int×(List (List Int))))×(List ((List Int)×Int×(List (List Int))))×Int×Int)->Option ((List ((List Int)×Int×(List (List Int)))))
 |0,_=>none
 |n+1,(copies,t7,t8,t9)=>
 if decide (t9<t8)then
 if inb t9 t7 then
 (Bv ((gd t7 t9 ([],(0,[]))).1)).bind λr1=>
 (Bm (((gd t7 t9 ([],(0,[]))).2).1,((gd t7 t9 ([],(0,[]))).2).2)).bind λr2=>
 if copies.length+ [(r1,(r2.1,r2.2))].length<=lim then
 AL n (copies++ [(r1,(r2.1,r2.2))],t7,t8,w64 (t9+1))
 else none
 else none
 else
 some copies
def AE (list:List ((List Int)×Int×(List (List Int)))):Option ((List ((List Int)×Int×(List (List Int))))):=
 (AL Aa ([],list,(list.length:Int),0)).bind λs1=>
 some s1
def Ai:Nat->((Int×Int×(List ((List Int)×Int×(List (List Int)))))×(Int×(Int×(List ((List Int)×Int×(List (List Int))))))×(List ((List Int)×Int×(List (List Int))))×((List Int)×Int×(List (List Int)))×Int×Int×(List (List Int))×(List ((List Int)×Int×(List (List Int))))×Int×Int×Int×Int×(List (List Int))×Int×Int)->Option ((Int×Int×(List ((List Int)×Int×(List (List Int)))))×(Int×(Int×(List ((List Int)×Int×(List (List Int))))))×(List ((List Int)×Int×(List (List Int))))×((List Int)×Int×(List (List Int)))×Int×Int×(List (List Int))×(List ((List Int)×Int×(List (List Int))))×Int×Int×Int×Int)
 |0,_=>none
 |n+1,(t1,t2,t4,t6,t7,t8,t9,t18,t19,t20,t35,t36,t51,t52,t53)=>
 if decide (t53<t52)then
 if inb t53 t51 then
 if inb t7 (gd t51 t53 [])then
 if inb t8 (gd t51 t53 [])then
 if t9.length+ [[gd (gd t51 t53 []) t7 0,gd (gd t51 t53 []) t8 0]].length<=lim then
 Ai n ((t1.1,(t1.2.1,t1.2.2)),(t2.1,(t2.2.1,t2.2.2)),t4,(t6.1,(t6.2.1,t6.2.2)),t7,t8,t9++ [[gd (gd t51 t53 []) t7 0,gd (gd t51 t53 []) t8 0]],t18,t19,t20,t35,t36,t51,t52,w64 (t53+1))
 else none
 else none
 else none
 else none
 else
 some ((t1.1,(t1.2.1,t1.2.2)),(t2.1,(t2.2.1,t2.2.2)),t4,(t6.1,(t6.2.1,t6.2.2)),t7,t8,t9,t18,t19,t20,t35,t36)
def Ay:Nat->((Int×Int×(List ((List Int)×Int×(List (List Int)))))×(Int×(Int×(List ((List Int)×Int×(List (List Int))))))×(List ((List Int)×Int×(List (List Int))))×((List Int)×Int×(List (List Int)))×Int×Int×(List ((List Int)×Int×(List (List Int))))×Int×Int×Int×Int)->Option ((Int×Int×(List ((List Int)×Int×(List (List Int)))))×(Int×(Int×(List ((List Int)×Int×(List (List Int))))))×(List ((List Int)×Int×(List (List Int))))×((List Int)×Int×(List (List Int)))×(List ((List Int)×Int×(List (List Int))))×Int×Int×Int×Int)
 |0,_=>none
 |n+1,(t1,t2,t4,t6,t7,t8,t18,t19,t20,t35,t36)=>
 if decide (t8<(t6.1.length:Int))then
 (Ai Aa ((t1.1,(t1.2.1,t1.2.2)),(t2.1,(t2.2.1,t2.2.2)),t4,(t6.1,(t6.2.1,t6.2.2)),t7,t8,[],t18,t19,t20,t35,t36,t6.2.2,(t6.2.2.length:Int),0)).bind λs3=>
 if inb s3.2.2.2.2.1 s3.2.2.2.1.1 then
 if inb s3.2.2.2.2.2.1 s3.2.2.2.1.1 then
 (Bq 2 s3.2.2.2.2.2.2.1).bind λr4=>
 if s3.2.2.1.length+ [([gd s3.2.2.2.1.1 s3.2.2.2.2.1 0,gd s3.2.2.2.1.1 s3.2.2.2.2.2.1 0],(r4.1,r4.2))].length<=lim then
 Ay n ((s3.1.1,(s3.1.2.1,s3.1.2.2)),(s3.2.1.1,(s3.2.1.2.1,s3.2.1.2.2)),s3.2.2.1++ [([gd s3.2.2.2.1.1 s3.2.2.2.2.1 0,gd s3.2.2.2.1.1 s3.2.2.2.2.2.1 0],(r4.1,r4.2))],(s3.2.2.2.1.1,(s3.2.2.2.1.2.1,s3.2.2.2.1.2.2)),s3.2.2.2.2.1,w64 (s3.2.2.2.2.2.1+1),s3.2.2.2.2.2.2.2.1,s3.2.2.2.2.2.2.2.2.1,s3.2.2.2.2.2.2.2.2.2.1,s3.2.2.2.2.2.2.2.2.2.2.1,s3.2.2.2.2.2.2.2.2.2.2.2)
 else none
 else none
 else none
 else
 some ((t1.1,(t1.2.1,t1.2.2)),(t2.1,(t2.2.1,t2.2.2)),t4,(t6.1,(t6.2.1,t6.2.2)),t18,t19,t20,t35,t36)
def Ae:Nat->((Int×Int×(List ((List Int)×Int×(List (List Int)))))×(Int×(Int×(List ((List Int)×Int×(List (List Int))))))×(List ((List Int)×Int×(List (List Int))))×((List Int)×Int×(List (List Int)))×(List ((List Int)×Int×(List (List Int))))×Int×Int×Int×Int)->Option ((Int×Int×(List ((List Int)×Int×(List (List Int)))))×(Int×(Int×(List ((List Int)×Int×(List (List Int))))))×(List ((List Int)×Int×(List (List Int))))×(List ((List Int)×Int×(List (List Int))))×Int×Int)
 |0,_=>none
 |n+1,(t1,t2,t4,t6,t18,t19,t20,t35,t36)=>
 if decide (t36<t35)then
 (Ay Aa ((t1.1,(t1.2.1,t1.2.2)),(t2.1,(t2.2.1,t2.2.2)),t4,(t6.1,(t6.2.1,t6.2.2)),t36,w64 (t36+1),t18,t19,t20,t35,t36)).bind λs3=>
 Ae n ((s3.1.1,(s3.1.2.1,s3.1.2.2)),(s3.2.1.1,(s3.2.1.2.1,s3.2.1.2.2)),s3.2.2.1,(s3.2.2.2.1.1,(s3.2.2.2.1.2.1,s3.2.2.2.1.2.2)),s3.2.2.2.2.1,s3.2.2.2.2.2.1,s3.2.2.2.2.2.2.1,s3.2.2.2.2.2.2.2.1,w64 (s3.2.2.2.2.2.2.2.2+1))
 else
 some ((t1.1,(t1.2.1,t1.2.2)),(t2.1,(t2.2.1,t2.2.2)),t4,t18,t19,t20)
def Ah:Nat->((Int×Int×(List ((List Int)×Int×(List (List Int)))))×(Int×(Int×(List ((List Int)×Int×(List (List Int))))))×(List ((List Int)×Int×(List (List Int))))×(List ((List Int)×Int×(List (List Int))))×Int×Int)->Option ((Int×Int×(List ((List Int)×Int×(List (List Int)))))×(Int×(Int×(List ((List Int)×Int×(List (List Int))))))×(List ((List Int)×Int×(List (List Int)))))
 |0,_=>none
 |n+1,(t1,t2,t4,t18,t19,t20)=>
 if decide (t20<t19)then
 if inb t20 t18 then
 if(((gd t18 t20 ([],(0,[]))).1).length:Int)==1 then
 (AE [((gd t18 t20 ([],(0,[]))).1,(((gd t18 t20 ([],(0,[]))).2).1,((gd t18 t20 ([],(0,[]))).2).2))]).bind λr2=>
 if t4.length+r2.length<=lim then
 (Ae Aa ((t1.1,(t1.2.1,t1.2.2)),(t2.1,(t2.2.1,t2.2.2)),t4++r2,((gd t18 t20 ([],(0,[]))).1,(((gd t18 t20 ([],(0,[]))).2).1,((gd t18 t20 ([],(0,[]))).2).2)),t18,t19,t20,(((gd t18 t20 ([],(0,[]))).1).length:Int),0)).bind λs3=>
 Ah n ((s3.1.1,(s3.1.2.1,s3.1.2.2)),(s3.2.1.1,(s3.2.1.2.1,s3.2.1.2.2)),s3.2.2.1,s3.2.2.2.1,s3.2.2.2.2.1,w64 (s3.2.2.2.2.2+1))
 else none
 else
 (Ae Aa ((t1.1,(t1.2.1,t1.2.2)),(t2.1,(t2.2.1,t2.2.2)),t4,((gd t18 t20 ([],(0,[]))).1,(((gd t18 t20 ([],(0,[]))).2).1,((gd t18 t20 ([],(0,[]))).2).2)),t18,t19,t20,(((gd t18 t20 ([],(0,[]))).1).length:Int),0)).bind λs4=>
 Ah n ((s4.1.1,(s4.1.2.1,s4.1.2.2)),(s4.2.1.1,(s4.2.1.2.1,s4.2.1.2.2)),s4.2.2.1,s4.2.2.2.1,s4.2.2.2.2.1,w64 (s4.2.2.2.2.2+1))
 else none
 else
 some ((t1.1,(t1.2.1,t1.2.2)),(t2.1,(t2.2.1,t2.2.2)),t4)
def AQ (t0:Int×Int×(List ((List Int)×Int×(List (List Int))))):Option ((Int×(Int×(List ((List Int)×Int×(List (List Int))))))×Bool):=
 (BI (t0.1,(t0.2.1,t0.2.2))).bind λr1=>
 if !r1 then
 some ((0,(0,[])),false)
 else
 (Ah Aa ((t0.1,(t0.2.1,t0.2.2)),(0,(0,[])),[],t0.2.2,(t0.2.2.length:Int),0)).bind λs2=>
 (Bz (s2.1.1,(s2.1.2.1,s2.1.2.2)) s2.2.2).bind λr3=>
 some ((r3.1.1,(r3.1.2.1,r3.1.2.2)),r3.2)
def Bt (t0:Int×Int×(List ((List Int)×Int×(List (List Int))))):Option (Bool):=
 (BO (t0.1,(t0.2.1,t0.2.2)) 1048576).bind λr1=>
 if decide (r1<0)then
 some true
 else
 (AB (t0.1,(t0.2.1,t0.2.2))).bind λr2=>
 (Bi (r2.1,(r2.2.1,r2.2.2))).bind λr3=>
 (AB (t0.1,(t0.2.1,t0.2.2))).bind λr4=>
 (AQ (r4.1,(r4.2.1,r4.2.2))).bind λr5=>
 (Ao (r5.1.1,(r5.1.2.1,r5.1.2.2)) (r3.1.1,(r3.1.2.1,r3.1.2.2))).bind λr6=>
 if !r6 then
 some false
 else
 if r5.2 !=r3.2 then
 some false
 else
 (AB (t0.1,(t0.2.1,t0.2.2))).bind λr7=>
 (Ao (r4.1,(r4.2.1,r4.2.2)) (r7.1,(r7.2.1,r7.2.2))).bind λr8=>
 if !r8 then
 some false
 else
 (An (r4.1,(r4.2.1,r4.2.2)) 1).bind λr9=>
 if decide (r9.2<0)then
 some false
 else
 (Ao (r5.1.1,(r5.1.2.1,r5.1.2.2)) (r3.1.1,(r3.1.2.1,r3.1.2.2))).bind λr10=>
 if !r10 then
 some false
 else
 if r5.2 !=r3.2 then
 some false
 else
 (An (r5.1.1,(r5.1.2.1,r5.1.2.2)) 1).bind λr11=>
 (Bg (r5.1.1,(r5.1.2.1,r11.1.2.2)) 1).bind λr12=>
 if decide (r12<0)then
 some false
 else
 if r12 !=r11.2 then
 some false
 else
 (AB (t0.1,(t0.2.1,t0.2.2))).bind λr13=>
 (AQ (r13.1,(r13.2.1,r13.2.2))).bind λr14=>
 (Ao (r14.1.1,(r14.1.2.1,r14.1.2.2)) (r3.1.1,(r3.1.2.1,r3.1.2.2))).bind λr15=>
 if !r15 then
 some false
 else
 if r14.2 !=r3.2 then
 some false
 else
 (Bg (r5.1.1,(r5.1.2.1,r11.1.2.2)) 1).bind λr16=>
 if decide (r16<0)then
 some false
 else
 if r16 !=r11.2 then
 some false
 else
 some true
end T
open Go Go.Va
namespace T
theorem Ei {l:List (List Int)} (hl:l.length<=100000) (hr: ∀r∈l,r.length<=100000):Bs l=some (Zn cmpL l):=by
 unfold Bs
 rw[CD hl hr]
 have:Ap l ()=some (Zn cmpL l):=by
  unfold Ap
  rw[if_pos]
  refine⟨by unfold lim;omega,?_⟩
  rw[List.all_eq_true]
  intro r h
  rw[decide_eq_true_iff]
  have:=hr r h;unfold lim;omega
 simp only[Option.bind_some,this]
theorem Dp {l:List (List Int)} (hl:l.length<=100000) (hr: ∀r∈l,r.length<=100000):BJ l=some (Zx l):=by
 unfold BJ
 rw[if_pos]
 refine⟨by unfold lim;omega,?_⟩
 rw[List.all_eq_true]
 intro r h
 rw[decide_eq_true_iff]
 have:=hr r h;unfold lim;omega
theorem DQ {ar:Int} {l:List (List Int)} (hl:l.length<=100000) (hr: ∀r∈l,r.length<=100000):Bq ar l=some (ar,Cz l):=by
 have hp:=DU l
 unfold Bq
 rw[Ei hl hr]
 simp only[Option.bind_some]
 rw[Dp (by rw[hp.length_eq];exact hl) λr h=>hr r (hp.mem_iff.1 h)]
 rfl
theorem Cw {l:List Con} {k:Int} (hl:l.length<=1048576) (hr: ∀c∈l,Do c) (h0:0<=k) (hB:k+((l.map wC).sum:Nat)<=BM):A8 (mkL Cg l k).1 k=some (mkL Cg l k).2:=by
 unfold A8
 have hlen:(mkL Cg l k).1.length=l.length:=Bx _ _ _
 have:=D2 Cg (λc k=>(AM c.1 k).bind λr1=>if r1<0 then some (-1)else if c.2.1=r1 then A9 c.2.2 (w64 (r1+1))else some (-1)) wC BM l k (λn k' i=>Al n ((mkL Cg l k).1,k',i)) 0 (λc _ k=>Cl c k) h0 hB (λc hc k' hk0 hkB=>?_) (λn k' i hi hk0 hkB=>?_) (λn k'=>by rw[Nat.zero_add];simp[Al,hlen]) Aa (by unfold Aa;omega)
 ·rw[show((0:Nat):Int)=0 from rfl]at this
  rw[this];rfl
 ·have hcs:=hr c hc
  have e1:=BG c.1 k'
  have hkB2:=hkB
  unfold wC BM at hkB2
  unfold wC at hkB
  push_cast at hkB hkB2
  unfold Cg
  dsimp only
  rw[CJ hcs.1 hk0 (by omega)]
  simp only[Option.bind_some]
  rw[if_neg (by omega),if_pos True.intro,Bf (by omega) (by omega)]
  exact Dr hcs.2.1 hcs.2.2 (by omega) (by omega)
 ·have hi':i<(mkL Cg l k).1.length:=by omega
  rw[Nat.zero_add]
  simp only[Al,Ac,hi',Ad hi',if_true,Ab (show i<4611686018427387904 by omega)]
  rw[if_pos (by simp;omega)]
  have e:(mkL Cg l k).1[i]'(by rw[Bx];exact hi)=(mkL Cg l k).1[i]:=rfl
  rw[e]
  generalize (mkL Cg l k).1[i]=c
  cases h:AM c.1 k' with
  |none=>rfl
  |some r1=>
   simp only[Option.bind_some]
   by_cases h1:r1<0
   ·rw[if_pos (by simpa using h1),if_pos h1];rfl
   ·rw[if_neg (by simpa using h1),if_neg h1]
    by_cases h2:c.2.1=r1
    ·rw[if_neg (by simp[h2]),if_pos h2]
     cases A9 c.2.2 (w64 (r1+1))with
     |none=>rfl
     |some r2=>
      simp only[Option.bind_some]
      by_cases h3:r2<0
      ·rw[if_pos (by simpa using h3),if_pos h3]
      ·rw[if_neg (by simpa using h3),if_neg h3]
    ·rw[if_pos (by simpa using h2),if_neg h2];rfl
end T
open Go Go.Va
namespace T
section
variable {a:Net} {f:Opn} {n:Int}
theorem El {l:List Int} (h:l.length<=1000000):Bv l=some l:=by
 unfold Bv
 rw[if_pos (by simp;unfold lim;omega)];simp
theorem EM {l out:List Con} {i:Nat} (hi:i<l.length) (hr: ∀r∈l[i].2.2,r.length<=1048576) (hl:l[i].2.2.length<=1048576) (s:List Int) (ar:Int):AH Aa (l,out,(i:Int),(s,(ar,[])),0)=some (l,out,(i:Int),(s,(ar,l[i].2.2))):=by
 have:=Da l[i].2.2.length (λm (o:List (List Int)) k=>AH m (l,out,(i:Int),(s,(ar,o)),k)) (λk=>l[i].2.2.take k) (r:=some (l,out,(i:Int),(s,(ar,l[i].2.2)))) (λm k hk=>?_) (λm=>?_) (n:=Aa) (by unfold Aa;omega)
 ·exact this
 ·have e:=Cv (l:=l[i].2.2[k]) (by have:=hr _ (List.getElem_mem hk);omega)
  simp only[AH,Ac,hi,Ad hi,hk,Ad hk,if_true,e,Option.bind_some,Ab (show k<4611686018427387904 by omega)]
  rw[if_pos (by simp;omega),if_pos (by simp;unfold lim;omega),List.take_succ_eq_append_getElem hk]
 ·simp only[AH,Ac,hi,Ad hi,if_true,List.take_length]
  rw[if_neg (by simp)]
theorem CP {l:List Con} (hl:l.length<=1000000) (hc: ∀c∈l,Do c):B7 l=some l:=by
 have:=Da l.length (λm (o:List Con) i=>AG m (l,o,i)) (λk=>l.take k) (r:=some l) (λm k hk=>?_) (λm=>?_) (n:=Aa) (by unfold Aa;omega)
 ·have this:AG Aa (l,[],0)=_:=this
  unfold B7
  rw[this];rfl
 ·have h:=hc _ (List.getElem_mem hk)
  have e1:=Cv (l:=l[k].1) (by have:=h.1;omega)
  have e2:=EM (out:=l.take k) hk (λr hr=>by have:=h.2.2 r hr;omega) (by have:=h.2.1;omega) l[k].1 l[k].2.1
  simp only[AG,Ac,hk,Ad hk,if_true,e1,e2,Option.bind_some,Ab (show k<4611686018427387904 by omega)]
  rw[if_pos (by simp;omega),if_pos (by simp;unfold lim;omega),List.take_succ_eq_append_getElem hk]
 ·simp only[AG,List.take_length]
  rw[if_neg (by simp)]
def C6 (a:Net):Prop:=a.2.2.length<=100/\ ∀c∈a.2.2,c.1.length<=100/\c.2.2.length<=1000/\ ∀r∈c.2.2,r.length<=100
theorem D8 {a:Net} (h:C6 a):C4 a:=⟨by have:=h.1;omega,λc hc=>⟨by have:=(h.2 c hc).1;omega,by have:=(h.2 c hc).2.1;omega,λr hr=>by have:=(h.2 c hc).2.2 r hr;omega⟩⟩
theorem Eh {a:Net} (h:C6 a):(a.2.2.map wC).sum<=100*100101:=by
 have h1: ∀l:List Con,(∀c∈l,wC c<=100101)->(l.map wC).sum<=l.length*100101:=by
  intro l
  induction l with
  |nil=>intro _;simp
  |cons c l ih=>
   intro h
   have:=ih λc hc=>h c (List.mem_cons_of_mem _ hc)
   have:=h c (by simp)
   rw[List.map_cons,List.sum_cons,List.length_cons,Nat.succ_mul];omega
 have h2: ∀l:List (List Int),(∀r∈l,r.length<=100)->(l.map List.length).sum<=100*l.length:=by
  intro l
  induction l with
  |nil=>intro _;simp
  |cons c l ih=>
   intro h
   have:=ih λc hc=>h c (List.mem_cons_of_mem _ hc)
   have:=h c (by simp)
   rw[List.map_cons,List.sum_cons,List.length_cons];omega
 refine Nat.le_trans (h1 _ λc hc=>?_) (Nat.mul_le_mul h.1 (Nat.le_refl _))
 obtain⟨g1,g2,g3⟩:=h.2 c hc
 have:=h2 _ g3
 unfold wC;omega
theorem DI {a:Net} (h:C6 a): ∃b k,An a 1=some (b,k)/\Bg (a.1,(a.2.1,b.2.2)) 1=some k/\0<=k:=by
 have h1:=Eh h
 have hs:=D8 h
 have e1:=B4 (f:=Cg) (w:=wC) a.2.2 1 λc _ k=>Cl c k
 have e2:=BR (l:=a.2.2) (k:=1) hs.1 hs.2 (by omega) (by unfold BM;omega)
 have e3:=Cw (l:=a.2.2) (k:=1) hs.1 hs.2 (by omega) (by unfold BM;omega)
 refine⟨((),((),(mkL Cg a.2.2 1).1)),(mkL Cg a.2.2 1).2,?_,?_,by omega⟩
 ·unfold An;rw[e2];rfl
 ·unfold Bg
  dsimp only
  rw[e3]
  simp only[Option.bind_some]
  rw[if_neg (by simp;omega)]
theorem C0 {b:Net} (h:C4 b):Ao b b=some true:=by rw[Dq h];simp
end
end T
open Go Go.Va
namespace T
section
variable {a:Net} {v n:Int}
def BA (p q:Nat) (t:List Int):List Int:= [t.getD p 0,t.getD q 0]
def CI (c:Con) (p q:Nat):Con:=(BA p q c.1,(2,Cz (c.2.2.map (BA p q))))
def B5 (c:Con) (p:Nat):List Con:=(List.range' (p+1) (c.1.length-(p+1))).map (CI c p)
def Bl (c:Con):List Con:=(if c.1.length=1 then [c]else [])++(List.range c.1.length).flatMap (B5 c)
theorem EB {t:List Int} {p q:Nat} (hp:p<t.length) (hq:q<t.length):CH t [(p:Int),(q:Int)]=some (BA p q t):=by
 unfold CH
 have e:Aa=(Aa-3)+1+1+1:=by unfold Aa;omega
 rw[e]
 have w1:w64 (0+1)=1:=by rw[Cs];rfl
 have w2:w64 (1+1)=2:=by rw[Cs];rfl
 have i0:inb (0:Int) [(p:Int),(q:Int)]:=by unfold inb;simp
 have i1:inb (1:Int) [(p:Int),(q:Int)]:=by unfold inb;simp
 have g0:gd [(p:Int),(q:Int)] 0 0=(p:Int):=rfl
 have g1:gd [(p:Int),(q:Int)] 1 0=(q:Int):=rfl
 simp only[B9,w1,w2,i0,i1,g0,g1,Ac,hp,hq,if_true,EO]
 simp[BA,lim]
structure TwoOk (c:Con):Prop where
 sl:c.1.length<=3
 tl: ∀t∈c.2.2,t.length=c.1.length
 many:c.2.2.length<=64
theorem EX {c:Con} (h:TwoOk c) {p q:Nat} (hp:p<c.1.length) (hq:q<c.1.length):Bj c.2 [(p:Int),(q:Int)]=some (CI c p q).2:=by
 have hm:=h.many
 have:=Da c.2.2.length (λm (o:List (List Int)) i=>Av m ([(p:Int),(q:Int)],c.2,(0,[]),(2,o),i)) (λk=>Cz ((c.2.2.take k).map (BA p q))) (r:=some ((0,[]),(2,Cz (c.2.2.map (BA p q))))) (λm k hk=>?_) (λm=>?_) (n:=Aa) (by unfold Aa;omega)
 ·have e0:Cz ((c.2.2.take 0).map (BA p q))= []:=by rw[List.take_zero,List.map_nil];simp[Cz,Zn,Zx,Zm]
  rw[e0]at this
  have this:Av Aa ([(p:Int),(q:Int)],(c.2.1,c.2.2),(0,[]),((([(p:Int),(q:Int)]:List Int).length:Int),[]),0)=_:=this
  unfold Bj
  rw[this];rfl
 ·have ht:=h.tl _ (List.getElem_mem hk)
  have e1:=EB (t:=c.2.2[k]) (show p<c.2.2[k].length by omega) (show q<c.2.2[k].length by omega)
  have hle:=Dy ((c.2.2.take k).map (BA p q))
  rw[List.length_map,List.length_take]at hle
  obtain⟨out,e2,g1,g2,_⟩:=Dd (list:=Cz ((c.2.2.take k).map (BA p q))) (t:=BA p q c.2.2[k]) (k:=2) (by omega) (by omega) (λu hu=>by
   obtain⟨t,_,rfl⟩:=List.mem_map.1 (setL_mem.1 hu);rfl) rfl (C5 _)
  have e3:out=Cz ((c.2.2.take (k+1)).map (BA p q)):=(EV g1 λu=>by
   rw[g2,setL_mem,List.take_succ_eq_append_getElem hk,List.map_append,List.mem_append,List.map_cons,List.map_nil,List.mem_singleton]
   exact⟨λh=>h.symm,λh=>h.symm⟩).symm
  simp only[Av,Ac,hk,Ad hk,if_true,e1,e2,Option.bind_some,Ab (show k<4611686018427387904 by omega)]
  rw[if_pos (by simp;omega),e3]
 ·simp only[Av,List.take_length]
  rw[if_neg (by simp)]
theorem BZ {c:Con} {p:Nat}:(B5 c p).length=c.1.length-(p+1):=by simp[B5]
theorem Ey {c:Con} (h:TwoOk c) {p:Nat} (hp:p<c.1.length) (t1 t2:Net) (x y t5:Int): ∀(d f q:Nat) (o:List Con),q+d=c.1.length->p<q->d<f->o.length+d<=100000->
  Az f (t1,t2,(x,(y,o)),t5,c,(p:Int),(q:Int))=some (t1,t2,(x,(y,o++(List.range' q d).map (CI c p))),t5,c,(p:Int)):=by
 have hsl:=h.sl
 intro d
 induction d with
 |zero=>
  intro f q o hq hpq hf ho
  obtain⟨f,rfl⟩: ∃z,f=z+1:=⟨f-1,by omega⟩
  simp only[Az]
  rw[if_neg (by simp;omega)]
  simp
 |succ d ih=>
  intro f q o hq hpq hf ho
  obtain⟨f,rfl⟩: ∃z,f=z+1:=⟨f-1,by omega⟩
  have hql:q<c.1.length:=by omega
  have e1:=EX h hp hql
  have e1:Bj (c.2.1,c.2.2) [(p:Int),(q:Int)]=_:=e1
  have e2:=ih f (q+1) (o++ [CI c p q]) (by omega) (by omega) (by omega) (by rw[List.length_append,List.length_singleton];omega)
  simp only[Az,Ac,hp,hql,if_true,EO,e1,Option.bind_some,Ab (show q<4611686018427387904 by omega)]
  rw[if_pos (by simp;omega),if_pos (by simp;unfold lim;omega)]
  rw[List.range'_succ,List.map_cons]
  rw[List.append_assoc]at e2
  exact e2
theorem BF {α β:Type} {g:α->List β} {l:List α} {x:α}:(l++ [x]).flatMap g=l.flatMap g++g x:=by simp
theorem DH {c:Con} (h:TwoOk c) (t1 t2:Net) (x y t5:Int) (o:List Con) (ho:o.length<=50000):
  Af Aa (t1,t2,(x,(y,o)),t5,c,0)=some (t1,t2,(x,(y,o++(List.range c.1.length).flatMap (B5 c))),t5):=by
 have hsl:=h.sl
 have hfl: ∀k,k<=c.1.length->((List.range k).flatMap (B5 c)).length<=3*k:=λk hk=>by
  induction k with
  |zero=>simp
  |succ k ih=>
   have:=ih (by omega)
   rw[List.range_succ,BF,List.length_append,BZ];omega
 have:=Da c.1.length (λm (o:List Con) i=>Af m (t1,t2,(x,(y,o)),t5,c,i)) (λk=>o++(List.range k).flatMap (B5 c)) (r:=some (t1,t2,(x,(y,o++(List.range c.1.length).flatMap (B5 c))),t5)) (λm k hk=>?_) (λm=>?_) (n:=Aa) (by unfold Aa;omega)
 ·rw[List.range_zero,List.flatMap_nil,List.append_nil]at this;exact this
 ·have hz:=hfl k (by omega)
  have e:=Ey h hk t1 t2 x y t5 (c.1.length-(k+1)) Aa (k+1) (o++(List.range k).flatMap (B5 c)) (by omega) (by omega) (by unfold Aa;omega) (by rw[List.length_append];omega)
  simp only[Af,Ab (show k<4611686018427387904 by omega),e,Option.bind_some]
  rw[if_pos (by simp;omega),List.range_succ,BF,List.append_assoc]
  rfl
 ·simp only[Af]
  rw[if_neg (by simp)]
theorem EI {c:Con} (h:c.1.length<=3):(Bl c).length<=3:=by
 unfold Bl
 rcases Nat.lt_or_ge c.1.length 1 with h0|h0
 ·have e:c.1.length=0:=by omega
  rw[e];simp
 ·rcases Nat.lt_or_ge c.1.length 2 with h1|h1
  ·have e:c.1.length=1:=by omega
   have e1:(B5 c 0).length=0:=by rw[BZ];omega
   rw[e];simp[List.range_succ,e1]
  ·have e0:(B5 c 0).length=c.1.length-1:=BZ
   have e1:(B5 c 1).length=c.1.length-2:=BZ
   have e2:(B5 c 2).length=c.1.length-3:=BZ
   rcases Nat.lt_or_ge c.1.length 3 with h2|h2
   ·have e:c.1.length=2:=by omega
    rw[if_neg (by omega),e];simp[List.range_succ,e0,e1];omega
   ·have e:c.1.length=3:=by omega
    rw[if_neg (by omega),e];simp[List.range_succ,e0,e1,e2];omega
theorem DZ {c:Con} (h:c.1.length=1):Bl c= [c]++(List.range c.1.length).flatMap (B5 c):=by unfold Bl;rw[if_pos h]
theorem DY {c:Con} (h:c.1.length≠1):Bl c=(List.range c.1.length).flatMap (B5 c):=by unfold Bl;rw[if_neg h,List.nil_append]
theorem CY {l:List Con} (h: ∀c∈l,c.1.length<=3):(l.flatMap Bl).length<=3*l.length:=by
 induction l with
 |nil=>simp
 |cons c l ih=>
  have:=ih λc hc=>h c (List.mem_cons_of_mem _ hc)
  have:=EI (h c (by simp))
  rw[List.flatMap_cons,List.length_append,List.length_cons];omega
theorem EU (hc: ∀c∈a.2.2,TwoOk c) (hs: ∀c∈a.2.2,Do c) (hl:a.2.2.length<=1000) (t2:Net) (x y:Int):
  Aj Aa (a,t2,(x,(y,[])),0)=some (t2,(x,(y,a.2.2.flatMap Bl))):=by
 have:=Da a.2.2.length (λm (o:List Con) i=>Aj m (a,t2,(x,(y,o)),i)) (λk=>(a.2.2.take k).flatMap Bl) (r:=some (t2,(x,(y,a.2.2.flatMap Bl)))) (λm k hk=>?_) (λm=>?_) (n:=Aa) (by unfold Aa;omega)
 ·exact this
 ·have h:=hc _ (List.getElem_mem hk)
  have hz:=CY (l:=a.2.2.take k) λc h=>(hc c (List.mem_of_mem_take h)).sl
  rw[List.length_take]at hz
  have ew:=Ab (show k<4611686018427387904 by omega)
  have e1:(a.2.2.take (Int.toNat ((k+1:Nat):Int))).drop (Int.toNat (k:Int))= [a.2.2[k]]:=by
   rw[Int.toNat_natCast,Int.toNat_natCast,List.take_succ_eq_append_getElem hk,List.drop_append_of_le_length (by rw[List.length_take];omega),List.drop_eq_nil_of_le (by rw[List.length_take];omega)]
   rfl
  have e2:=CP (l:= [a.2.2[k]]) (by simp) λc h=>by rw[List.mem_singleton.1 h];exact hs _ (List.getElem_mem hk)
  have i0:inb (0:Int) [a.2.2[k]]:=by unfold inb;simp
  have g0:gd [a.2.2[k]] 0 ([],(0,[]))=a.2.2[k]:=rfl
  simp only[Aj,ew,e1,e2,i0,g0,if_true,Option.bind_some]
  rw[if_pos (by simp;omega),if_pos (by omega),List.take_succ_eq_append_getElem hk,BF]
  by_cases h1:a.2.2[k].1.length=1
  ·rw[if_pos (by simp[h1]),if_pos (by simp only[List.length_singleton];unfold lim;omega)]
   have e3:=DH h a t2 x y (k:Int) ((a.2.2.take k).flatMap Bl++ [a.2.2[k]]) (by rw[List.length_append,List.length_singleton];omega)
   have e3:Af Aa ((a.1,(a.2.1,a.2.2)),(t2.1,(t2.2.1,t2.2.2)),(x,(y,(a.2.2.take k).flatMap Bl++ [(a.2.2[k].1,(a.2.2[k].2.1,a.2.2[k].2.2))])),(k:Int),(a.2.2[k].1,(a.2.2[k].2.1,a.2.2[k].2.2)),0)=_:=e3
   rw[e3]
   simp only[Option.bind_some,ew]
   rw[DZ h1,List.append_assoc]
  ·rw[if_neg (by simp;omega)]
   have e3:=DH h a t2 x y (k:Int) ((a.2.2.take k).flatMap Bl) (by omega)
   have e3:Af Aa ((a.1,(a.2.1,a.2.2)),(t2.1,(t2.2.1,t2.2.2)),(x,(y,(a.2.2.take k).flatMap Bl)),(k:Int),(a.2.2[k].1,(a.2.2[k].2.1,a.2.2[k].2.2)),0)=_:=e3
   rw[e3]
   simp only[Option.bind_some,ew]
   rw[DY h1]
 ·simp only[Aj,List.take_length]
  rw[if_neg (by simp)]
theorem Eo {c:Con} (h:TwoOk c) {p q:Nat} (hp:p<c.1.length) (hq:q<c.1.length) (t1 t2:Net) (t4 t18:List Con) (x y z w:Int):
  Ai Aa (t1,t2,t4,c,(p:Int),(q:Int),[],t18,x,y,z,w,c.2.2,(c.2.2.length:Int),0)=some (t1,t2,t4,c,(p:Int),(q:Int),c.2.2.map (BA p q),t18,x,y,z,w):=by
 have hm:=h.many
 have:=Da c.2.2.length (λm (o:List (List Int)) i=>Ai m (t1,t2,t4,c,(p:Int),(q:Int),o,t18,x,y,z,w,c.2.2,(c.2.2.length:Int),i)) (λk=>(c.2.2.take k).map (BA p q)) (r:=some (t1,t2,t4,c,(p:Int),(q:Int),c.2.2.map (BA p q),t18,x,y,z,w)) (λm k hk=>?_) (λm=>?_) (n:=Aa) (by unfold Aa;omega)
 ·exact this
 ·have ht:=h.tl _ (List.getElem_mem hk)
  simp only[Ai,Ac,hk,Ad hk,show p<c.2.2[k].length by omega,show q<c.2.2[k].length by omega,if_true,EO,Ab (show k<4611686018427387904 by omega)]
  rw[if_pos (by simp;omega),if_pos (by simp;unfold lim;omega),List.take_succ_eq_append_getElem hk,List.map_append]
  rfl
 ·simp only[Ai,List.take_length]
  rw[if_neg (by simp)]
theorem En {c:Con} (h:TwoOk c) {p:Nat} (hp:p<c.1.length) (t1 t2:Net) (t18:List Con) (x y z w:Int): ∀(d f q:Nat) (o:List Con),q+d=c.1.length->p<q->d<f->o.length+d<=100000->
  Ay f (t1,t2,o,c,(p:Int),(q:Int),t18,x,y,z,w)=some (t1,t2,o++(List.range' q d).map (CI c p),c,t18,x,y,z,w):=by
 have hsl:=h.sl
 have hm:=h.many
 intro d
 induction d with
 |zero=>
  intro f q o hq hpq hf ho
  obtain⟨f,rfl⟩: ∃z,f=z+1:=⟨f-1,by omega⟩
  simp only[Ay]
  rw[if_neg (by simp;omega)]
  simp
 |succ d ih=>
  intro f q o hq hpq hf ho
  obtain⟨f,rfl⟩: ∃z,f=z+1:=⟨f-1,by omega⟩
  have hql:q<c.1.length:=by omega
  have e1:=Eo h hp hql t1 t2 o t18 x y z w
  have e1:Ai Aa ((t1.1,(t1.2.1,t1.2.2)),(t2.1,(t2.2.1,t2.2.2)),o,(c.1,(c.2.1,c.2.2)),(p:Int),(q:Int),[],t18,x,y,z,w,c.2.2,(c.2.2.length:Int),0)=_:=e1
  have e2:=ih f (q+1) (o++ [CI c p q]) (by omega) (by omega) (by omega) (by rw[List.length_append,List.length_singleton];omega)
  have e3:=DQ (ar:=2) (l:=c.2.2.map (BA p q)) (by rw[List.length_map];omega) λr hr=>by obtain⟨t,_,rfl⟩:=List.mem_map.1 hr;simp[BA]
  simp only[Ay,Ac,hp,hql,if_true,EO,e1,e3,Option.bind_some,Ab (show q<4611686018427387904 by omega)]
  rw[if_pos (by simp;omega),if_pos (by simp;unfold lim;omega)]
  rw[List.range'_succ,List.map_cons]
  rw[List.append_assoc]at e2
  exact e2
theorem DC {c:Con} (h:TwoOk c) (t1 t2:Net) (t18:List Con) (x y:Int) (o:List Con) (ho:o.length<=50000):
  Ae Aa (t1,t2,o,c,t18,x,y,(c.1.length:Int),0)=some (t1,t2,o++(List.range c.1.length).flatMap (B5 c),t18,x,y):=by
 have hsl:=h.sl
 have hfl: ∀k,k<=c.1.length->((List.range k).flatMap (B5 c)).length<=3*k:=λk hk=>by
  induction k with
  |zero=>simp
  |succ k ih=>
   have:=ih (by omega)
   rw[List.range_succ,BF,List.length_append,BZ];omega
 have:=Da c.1.length (λm (o:List Con) i=>Ae m (t1,t2,o,c,t18,x,y,(c.1.length:Int),i)) (λk=>o++(List.range k).flatMap (B5 c)) (r:=some (t1,t2,o++(List.range c.1.length).flatMap (B5 c),t18,x,y)) (λm k hk=>?_) (λm=>?_) (n:=Aa) (by unfold Aa;omega)
 ·rw[List.range_zero,List.flatMap_nil,List.append_nil]at this;exact this
 ·have hz:=hfl k (by omega)
  have e:=En h hk t1 t2 t18 x y (c.1.length:Int) (k:Int) (c.1.length-(k+1)) Aa (k+1) (o++(List.range k).flatMap (B5 c)) (by omega) (by omega) (by unfold Aa;omega) (by rw[List.length_append];omega)
  simp only[Ae,Ab (show k<4611686018427387904 by omega),e,Option.bind_some]
  rw[if_pos (by simp;omega),List.range_succ,BF,List.append_assoc]
  rfl
 ·simp only[Ae]
  rw[if_neg (by simp)]
theorem DK {c:Con} (h:TwoOk c):AE [c]=some [c]:=by
 have hm:=h.many
 have hsl:=h.sl
 have e1:=El (l:=c.1) (by omega)
 have e2:=CD (rows:=c.2.2) (by omega) λr hr=>by have:=h.tl r hr;omega
 have ef:Aa=(Aa-2)+1+1:=by unfold Aa;omega
 have w1:w64 (0+1)=1:=by rw[Cs];rfl
 have i0:inb (0:Int) [c]:=by unfold inb;simp
 have g0:gd [c] 0 ([],(0,[]))=c:=rfl
 unfold AE
 rw[ef]
 unfold Bm at*
 simp only[AL,w1,i0,g0,if_true,e1,Option.bind_some]
 unfold Bm
 simp only[e2,Option.bind_some]
 simp[lim]
theorem EP (hc: ∀c∈a.2.2,TwoOk c) (hl:a.2.2.length<=1000) (t2:Net):
  Ah Aa (a,t2,[],a.2.2,(a.2.2.length:Int),0)=some (a,t2,a.2.2.flatMap Bl):=by
 have:=Da a.2.2.length (λm (o:List Con) i=>Ah m (a,t2,o,a.2.2,(a.2.2.length:Int),i)) (λk=>(a.2.2.take k).flatMap Bl) (r:=some (a,t2,a.2.2.flatMap Bl)) (λm k hk=>?_) (λm=>?_) (n:=Aa) (by unfold Aa;omega)
 ·exact this
 ·have h:=hc _ (List.getElem_mem hk)
  have hz:=CY (l:=a.2.2.take k) λc h=>(hc c (List.mem_of_mem_take h)).sl
  rw[List.length_take]at hz
  have ew:=Ab (show k<4611686018427387904 by omega)
  have e2:=DK h
  have e2:AE [(a.2.2[k].1,(a.2.2[k].2.1,a.2.2[k].2.2))]=_:=e2
  simp only[Ah,ew,Ac,hk,Ad hk,e2,if_true,Option.bind_some]
  rw[if_pos (by simp;omega),List.take_succ_eq_append_getElem hk,BF]
  by_cases h1:a.2.2[k].1.length=1
  ·rw[if_pos (by simp[h1]),if_pos (by simp only[List.length_singleton];unfold lim;omega)]
   have e3:=DC h a t2 a.2.2 (a.2.2.length:Int) (k:Int) ((a.2.2.take k).flatMap Bl++ [a.2.2[k]]) (by rw[List.length_append,List.length_singleton];omega)
   have e3:Ae Aa ((a.1,(a.2.1,a.2.2)),(t2.1,(t2.2.1,t2.2.2)),(a.2.2.take k).flatMap Bl++ [a.2.2[k]],(a.2.2[k].1,(a.2.2[k].2.1,a.2.2[k].2.2)),a.2.2,(a.2.2.length:Int),(k:Int),(a.2.2[k].1.length:Int),0)=_:=e3
   rw[e3]
   simp only[Option.bind_some,ew]
   rw[DZ h1,List.append_assoc]
  ·rw[if_neg (by simp;omega)]
   have e3:=DC h a t2 a.2.2 (a.2.2.length:Int) (k:Int) ((a.2.2.take k).flatMap Bl) (by omega)
   have e3:Ae Aa ((a.1,(a.2.1,a.2.2)),(t2.1,(t2.2.1,t2.2.2)),(a.2.2.take k).flatMap Bl,(a.2.2[k].1,(a.2.2[k].2.1,a.2.2[k].2.2)),a.2.2,(a.2.2.length:Int),(k:Int),(a.2.2[k].1.length:Int),0)=_:=e3
   rw[e3]
   simp only[Option.bind_some,ew]
   rw[DY h1]
 ·simp only[Ah,List.take_length]
  rw[if_neg (by simp)]
def DJ (a:Net):Net×Bool:=if CM a&&decide ((a.2.2.flatMap Bl).length<=40)then((a.1,(a.2.1,a.2.2.flatMap Bl)),true)else((0,(0,[])),false)
theorem EC (h:NetOk a): ∀c∈a.2.2,TwoOk c:=λc hc=>by
 have hco:=h.con c hc
 exact⟨by have:=hco.sl;have:=hco.ar;omega,hco.tl,hco.many⟩
theorem EW {c:Con} (h:ConOk v n c) {p q:Nat} (hp:p<c.1.length) (hq:q<c.1.length):Ct v n (CI c p q)=true:=by
 unfold Ct Dw CI
 simp only[Bool.and_eq_true,decide_eq_true_eq,List.all_eq_true]
 refine⟨⟨⟨⟨by omega,λt ht=>?_⟩,C5 _⟩,by simp[BA]⟩,?_⟩
 ·obtain⟨s,hs,rfl⟩:=List.mem_map.1 (setL_mem.1 ht)
  have hsl:=h.tl s hs
  refine⟨by simp[BA],?_⟩
  unfold Ax
  rw[List.all_eq_true]
  intro x hx
  have h1:=h.tv s hs p (by omega)
  have h2:=h.tv s hs q (by omega)
  unfold BA at hx
  rw[AA (show p<s.length by omega),AA (show q<s.length by omega)]at hx
  rcases List.mem_cons.1 hx with rfl|hx
  ·simpa using h1
  ·rw[List.mem_singleton.1 hx];simpa using h2
 ·unfold Ax
  rw[List.all_eq_true]
  intro x hx
  have h1:=h.sv p hp
  have h2:=h.sv q hq
  unfold BA at hx
  rw[AA hp,AA hq]at hx
  rcases List.mem_cons.1 hx with rfl|hx
  ·simpa using h1
  ·rw[List.mem_singleton.1 hx];simpa using h2
theorem Dn {c d:Con} (h:d∈Bl c):d=c∨ ∃p q,p<c.1.length/\q<c.1.length/\d=CI c p q:=by
 unfold Bl at h
 rcases List.mem_append.1 h with h|h
 ·split at h
  ·exact Or.inl (List.mem_singleton.1 h)
  ·cases h
 ·obtain⟨p,hp,h⟩:=List.mem_flatMap.1 h
  obtain⟨q,hq,rfl⟩:=List.mem_map.1 h
  have:=List.mem_range.1 hp
  have:=List.mem_range'_1.1 hq
  exact Or.inr ⟨p,q,by omega,by omega,rfl⟩
theorem EJ (hb:CM a=true):CM (a.1,(a.2.1,a.2.2.flatMap Bl))=decide ((a.2.2.flatMap Bl).length<=40):=by
 have hok:=DS hb
 unfold CM at hb⊢
 simp only[Bool.and_eq_true,decide_eq_true_eq,List.all_eq_true]at hb
 obtain⟨⟨⟨h1,h2⟩,_⟩,h4⟩:=hb
 dsimp only
 have h5:(a.2.2.flatMap Bl).all (Ct a.1 a.2.1)=true:=by
  rw[List.all_eq_true]
  intro d hd
  obtain⟨c,hc,hd⟩:=List.mem_flatMap.1 hd
  rcases Dn hd with rfl|⟨p,q,hp,hq,rfl⟩
  ·exact h4 d hc
  ·exact EW (hok.con c hc) hp hq
 rw[h5,decide_eq_true h1,decide_eq_true h2]
 simp
theorem Ea (hs:C4 a):AQ a=some (DJ a)/\Bi a=some (DJ a):=by
 obtain⟨v,n,cs⟩:=a
 unfold AQ Bi DJ
 dsimp only
 rw[CE hs,Cf hs]
 simp only[Option.bind_some]
 cases hb:CM (v,(n,cs))with
 |false=>exact⟨rfl,rfl⟩
 |true=>
  have hok:=DS hb
  have hcl:=hok.hc
  dsimp only at hcl
  have ht:=EC hok
  have e1:=EP (a:=(v,(n,cs))) ht (by dsimp only;omega) (0,(0,[]))
  have e1:Ah Aa ((v,(n,cs)),(0,(0,[])),[],cs,(cs.length:Int),0)=_:=e1
  have e2:=EU (a:=(v,(n,cs))) ht hs.2 (by dsimp only;omega) (0,(0,[])) v n
  have hbn:=EJ hb
  have hz:=CY (l:=cs) λc hc=>(ht c hc).sl
  have hsb:C4 (v,(n,cs.flatMap Bl)):=by
   refine⟨by dsimp only;omega,λd hd=>?_⟩
   obtain⟨c,hc,hd⟩:=List.mem_flatMap.1 hd
   rcases Dn hd with rfl|⟨p,q,hp,hq,rfl⟩
   ·exact hs.2 d hc
   ·have h5:=Dy (c.2.2.map (BA p q))
    have h6:=(ht c hc).many
    rw[List.length_map]at h5
    refine⟨by simp[CI,BA],by unfold CI;dsimp only;omega,λr hr=>?_⟩
    obtain⟨t,_,rfl⟩:=List.mem_map.1 (setL_mem.1 hr)
    simp[BA]
  have e3:=Cf hsb
  rw[hbn]at e3
  dsimp only at e3
  simp only[e1,e2,Option.bind_some,Bool.not_true,Bool.false_eq_true,if_false,Bool.true_and]
  unfold Bz CF
  simp only[e3,Option.bind_some]
  by_cases hle:(cs.flatMap Bl).length<=40
  ·rw[if_neg (by rw[decide_eq_true_eq];omega),if_pos (decide_eq_true hle),decide_eq_true hle,if_neg (by decide)]
   exact⟨rfl,rfl⟩
  ·rw[if_pos (by rw[decide_eq_true_eq];omega),decide_eq_false hle,if_neg (by decide),if_pos (by decide)]
   exact⟨rfl,rfl⟩
theorem Eb (hs:C4 a):C6 (DJ a).1:=by
 unfold DJ
 by_cases hb:(CM a&&decide ((a.2.2.flatMap Bl).length<=40))=true
 ·rw[if_pos hb]
  simp only[Bool.and_eq_true,decide_eq_true_eq]at hb
  have hok:=DS hb.1
  have ht:=EC hok
  refine⟨by dsimp only;omega,λd hd=>?_⟩
  obtain⟨c,hc,hd⟩:=List.mem_flatMap.1 hd
  have h1:=(ht c hc).many
  have h2:=(ht c hc).sl
  rcases Dn hd with rfl|⟨p,q,hp,hq,rfl⟩
  ·exact⟨by omega,by omega,λr hr=>by have:=(ht d hc).tl r hr;omega⟩
  ·have h5:=Dy (c.2.2.map (BA p q))
   rw[List.length_map]at h5
   refine⟨by simp[CI,BA],by unfold CI;dsimp only;omega,λr hr=>?_⟩
   obtain⟨t,_,rfl⟩:=List.mem_map.1 (setL_mem.1 hr)
   simp[BA]
 ·rw[if_neg hb]
  exact⟨by simp,by simp⟩
theorem FnExactBinaryPart_law (h:wfT Fl a):Bt a=some true:=by
 unfold Bt
 rw[Dz (a:=(a.1,(a.2.1,a.2.2))) h]
 simp only[Option.bind_some]
 rw[show CU (a.1,(a.2.1,a.2.2))=CU a from rfl]
 by_cases h:szR (CU a) 1048576<0
 ·rw[if_pos (by simpa using h)]
 ·obtain⟨hs,ht⟩:=CS h
  rw[if_neg (by simpa using h)]
  obtain⟨b,k,hm,hk0,hk1⟩:=C3 hs ht
  have hsm:C6 (DJ a).1:=Eb hs
  obtain⟨d,m,m1,m2,m3⟩:=DI hsm
  obtain⟨e1,e2⟩:=Ea hs
  generalize DJ a=R at*
  have e1:AQ (a.1,(a.2.1,a.2.2))=_:=e1
  have e2:Bi (a.1,(a.2.1,a.2.2))=_:=e2
  have q1:Ao (R.1.1,(R.1.2.1,R.1.2.2)) (R.1.1,(R.1.2.1,R.1.2.2))=_:=C0 (D8 hsm)
  have m1:An (R.1.1,(R.1.2.1,R.1.2.2)) 1=_:=m1
  have hm:An (a.1,(a.2.1,a.2.2)) 1=_:=hm
  have q2:Ao (a.1,(a.2.1,a.2.2)) (a.1,(a.2.1,a.2.2))=_:=C0 hs
  have q4:AB (a.1,(a.2.1,a.2.2))=_:=DA hs
  simp only[q4,e1,e2,q1,q2,hm,m1,m2,Option.bind_some]
  simp[show¬k<0 by omega,show¬m<0 by omega]
end
end T
open Go Go.Va
namespace T
section
variable {n:Nat} {t:List Int}
def EK (n:Nat) (t:List Int) (x y:Nat):Nat:=(t.getD (x*n+y) 0).toNat
structure TabOk (n:Nat) (t:List Int):Prop where
 hn:1<=n/\n<=4
 len:t.length=n*n
 val: ∀x∈t,0<=x/\x<(n:Int)
theorem ix2 (hn:n<=4) {x y:Nat} (hx:x<n) (hy:y<n):w64 (w64 ((x:Int)*(n:Int))+(y:Int))=((x*n+y:Nat):Int)/\x*n+y<n*n:=by
 have h1:x*n+y<n*n:=by
  calc x*n+y<x*n+n:=by omega
   _=(x+1)*n:=by rw[Nat.succ_mul]
   _<=n*n:=Nat.mul_le_mul_right _ hx
 have h2:n*n<=4*4:=Nat.mul_le_mul hn hn
 have e:(x:Int)*(n:Int)=((x*n:Nat):Int):=by simp
 have a1:w64 ((x*n:Nat):Int)=((x*n:Nat):Int):=Bf (by omega) (by omega)
 rw[e,a1,Bf (by omega) (by omega)]
 exact⟨by omega,h1⟩
theorem TabOk.at (h:TabOk n t) {x y:Nat} (hx:x<n) (hy:y<n):w64 (w64 ((x:Int)*(n:Int))+(y:Int))=((x*n+y:Nat):Int)/\inb ((x*n+y:Nat):Int) t/\gd t ((x*n+y:Nat):Int) 0=((EK n t x y:Nat):Int)/\EK n t x y<n:=by
 obtain⟨h1,h2⟩:=ix2 h.hn.2 hx hy
 have hl:x*n+y<t.length:=by rw[h.len];exact h2
 have hv:=h.val _ (List.getElem_mem hl)
 refine⟨h1,by rw[Ac];exact hl,?_,?_⟩
 ·rw[Ad hl];unfold EK;rw[AA hl];omega
 ·unfold EK;rw[AA hl];omega
end
end T
open Go Go.Va
namespace T
section
variable {a:Net} {K:Nat} {c:Con} {i p n:Nat} {st:ASt}
def ED (d:Dom) (V:Nat) (t:List Int):Prop:= ∀u,u<V->d2 d u (t.getD u 0).toNat=true
end
end T
open Go Go.Va
namespace T
section
variable {a:Net} {n s:Nat} {t:T4} {u:T3}
def Ff (a:Net) (i j k x y z:Nat):Prop:= ∀c∈a.2.2,(∀v∈c.1,v=(i:Int)∨v=(j:Int)∨v=(k:Int))-> ∀vs:List Int,EY vs (i:Int)=(x:Int)->EY vs (j:Int)=(y:Int)->EY vs (k:Int)=(z:Int)->Fg vs c=true
structure Fam (a:Net) (n s:Nat) (S:Nat->Nat->Nat->Nat->Prop):Prop where
 sym: ∀i j x y,S i j x y->S j i y x
 first: ∀i j x y,i<j->j<n->x<s->y<s->S i j x y->fB a n i j x y=true
 path: ∀i j k x y,i<n->j<n->k<n->i≠j->k≠i->k≠j->x<s->y<s->S i j x y-> ∃z,z<s/\S i k x z/\S j k y z/\Ff a i j k x y z
structure MinP (a:Net) (n s:Nat) (t:T4) (u:T3):Prop where
 rel:Rel34 n s t u
 sym: ∀i j x y,i<n->j<n->i≠j->x<s->y<s->r4 t i j x y=r4 t j i y x
 first: ∀i j x y,i<n->j<n->i≠j->x<s->y<s->r4 t i j x y=true->fB a n i j x y=true
 path: ∀i j k x y,i<n->j<n->k<n->i≠j->k≠i->k≠j->x<s->y<s->r4 t i j x y=true-> ∃z,z<s/\r4 t i k x z=true/\r4 t j k y z=true/\Ff a i j k x y z
 all: ∀S,Fam a n s S-> ∀i j x y,i<n->j<n->i≠j->x<s->y<s->S i j x y->r4 t i j x y=true
end
end T
open Go Go.Va
namespace T
section
variable {a:Net} {n s:Nat} {t:T4} {u:T3} {F:Nat->Nat->Nat->Nat}
theorem E2 (hM:MinP a n s t u) {w w' v x y:Nat} (hw:w<n) (hw':w'<n) (hv:v<n) (h1:w≠w') (h2:w≠v) (h3:w'≠v) (hx:x<s) (hy:y<s) (h:r4 t w' v y x=true): ∃z,z<s/\r4 t w v z x=true:=by
 obtain⟨z,hz,_,q,_⟩:=hM.path w' v w y x hw' hv hw h3 h1 h2 hy hx h
 exact⟨z,hz,by rw[hM.sym w v z x hw hv h2 hz hx];exact q⟩
theorem Fs (p q:Nat): ∃w,w<3/\w≠p/\w≠q:=by
 by_cases h0:0≠p/\0≠q
 ·exact⟨0,by omega,h0.1,h0.2⟩
 ·by_cases h1:1≠p/\1≠q
  ·exact⟨1,by omega,h1.1,h1.2⟩
  ·exact⟨2,by omega,by omega,by omega⟩
end
end T
open Go Go.Va
namespace T
section
variable {n:Int} {k:Nat} {ts W:List (List Int)}
def WitOf (ts:List (List Int)) (k:Nat) (W:List (List Int)):Prop:= ∀w,w∈W↔ ∃(i:Nat) (x y:Int) (p q:Nat),i<k/\Eu ts i x y=some (p,q)/\(w=ts.getD p []∨w=ts.getD q [])
theorem WitOf.sub (h:WitOf ts k W) {w:List Int} (hw:w∈W):w∈ts:=by
 obtain⟨i,x,y,p,q,_,h2,h3⟩:=(h w).1 hw
 obtain⟨g1,g2,_⟩:=DT h2
 rcases h3 with rfl|rfl
 ·exact DB g1
 ·exact DB g2
theorem WitOf.set {N:Int} {kk:Int} (h:WitOf ts kk.toNat W) (hs:E8 N kk ts=true) (hi:Bu W=true):E8 N kk W=true:=by
 unfold E8 at hs⊢
 simp only[Bool.and_eq_true,List.all_eq_true]at hs⊢
 exact⟨⟨hs.1.1,λw hw=>hs.1.2 w (h.sub hw)⟩,hi⟩
end
end T
