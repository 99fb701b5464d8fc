/- Plain lemmas on the typed functions of the program, and the plain law of FnExactRelabelNetwork; no conditions. -/
import Derived.Test.YtbfbcfnbcbdgjaaV1
import Derived.Test.YtbfbcfnbcbdgjaaV5
import Derived.KernelRfl
set_option linter.all false
namespace Go.Va
theorem E3 (x:Int):w64 x=(x+9223372036854775808)%18446744073709551616-9223372036854775808:=by
 simp[w64,IntKind.wrap,IntKind.bits,IntKind.signed]
 split<;>omega
theorem AQ {x:Int} (h1: -9223372036854775808<=x) (h2:x<=9223372036854775807):w64 x=x:=by
 rw[E3];omega
theorem Ab {k:Nat} (h:k<4611686018427387904):w64 ((k:Int)+1)=((k+1:Nat):Int):=by
 rw[AQ (by omega) (by omega)];rfl
theorem Ac {α:Type} {k:Nat} {xs:List α}:inb (k:Int) xs↔k<xs.length:=by
 unfold inb;omega
theorem Ad {α:Type} {k:Nat} {xs:List α} {d:α} (h:k<xs.length):gd xs (k:Int) d=xs[k]:=by
 unfold gd;simp[h]
theorem B2 {α:Type} {k:Nat} {xs:List α} {x:α}:stt xs (k:Int) x=xs.set k x:=by
 unfold stt;simp
def DB {α σ β:Type} (step:σ->α->Option (σ⊕β)) (fin:σ->Option β):List α->σ->Option β
 | [],s=>fin s
 |a::l,s=>match step s a with|some (.inl s')=>DB step fin l s'|some (.inr r)=>some r|none=>none
theorem Fl {α σ β:Type} (xs:List α) (L:Nat->σ->Int->Option β) (step:σ->α->Option (σ⊕β)) (fin:σ->Option β)
  (hs: ∀n s (k:Nat) (hk:k<xs.length),L (n+1) s k=match step s xs[k]with|some (.inl s')=>L n s' ((k+1:Nat):Int)|some (.inr r)=>some r|none=>none)
  (he: ∀n s,L (n+1) s (xs.length:Nat)=fin s): ∀(n k:Nat) (s:σ),k<=xs.length->xs.length-k<n->L n s k=DB step fin (xs.drop k) s:=by
 intro n
 induction n with
 |zero=>intro k s _ h;omega
 |succ n ih=>
  intro k s hk hn
  rcases Nat.lt_or_ge k xs.length with hlt|hge
  ·rw[hs n s k hlt,List.drop_eq_getElem_cons hlt]
   simp only[DB]
   cases step s xs[k]with
   |none=>rfl
   |some q=>
    cases q with
    |inl s'=>exact ih (k+1) s' hlt (by omega)
    |inr r=>rfl
  ·have:k=xs.length:=by omega
   subst this
   rw[he,List.drop_length];rfl
theorem EA {α σ β:Type} (xs:List α) (L:Nat->σ->Int->Option β) (step:σ->α->Option (σ⊕β)) (fin:σ->Option β)
  (hs: ∀n s (k:Nat) (hk:k<xs.length),L (n+1) s k=match step s xs[k]with|some (.inl s')=>L n s' ((k+1:Nat):Int)|some (.inr r)=>some r|none=>none)
  (he: ∀n s,L (n+1) s (xs.length:Nat)=fin s) {n:Nat} (hn:xs.length<n) (s:σ):L n s 0=DB step fin xs s:=by
 have:=Fl xs L step fin hs he n 0 s (Nat.zero_le _) (by omega)
 simpa using this
theorem DQ {α β:Type} {p:α->Bool} {step:Unit->α->Option (Unit⊕β)} {fin:Unit->Option β} {r:β}: ∀ {l:List α},(∀a∈l,step () a=if p a then some (.inl ())else some (.inr r))->DB step fin l ()=if l.all p then fin ()else some r
 | [],_=>rfl
 |a::l,h=>by
  simp only[DB]
  rw[h a (by simp)]
  cases hp:p a with
  |true=>simp only[if_true,List.all_cons,hp,Bool.true_and];exact DQ λb hb=>h b (List.mem_cons_of_mem _ hb)
  |false=>simp[List.all_cons,hp]
theorem Fi {α β γ:Type} (xs:List α) (L:Nat->List β->Int->Option γ) (g:α->β) (fin:List β->Option γ)
  (hs: ∀n (out:List β) (k:Nat) (hk:k<xs.length),out.length=xs.length->L (n+1) out k=L n (out.set k (g xs[k])) ((k+1:Nat):Int))
  (he: ∀n out,out.length=xs.length->L (n+1) out (xs.length:Nat)=fin out): ∀(n k:Nat) (out:List β),out.length=xs.length->k<=xs.length->xs.length-k<n->L n out k=fin (out.take k++(xs.drop k).map g):=by
 intro n
 induction n with
 |zero=>intro k out _ _ h;omega
 |succ n ih=>
  intro k out hl hk hn
  rcases Nat.lt_or_ge k xs.length with hlt|hge
  ·have:(out.set k (g xs[k])).take (k+1)=out.take k++ [g xs[k]]:=by
    rw[List.take_succ_eq_append_getElem (by simp;omega),List.take_set_of_le (Nat.le_refl _),List.getElem_set_self]
   rw[hs n out k hlt hl,ih (k+1) _ (by simpa using hl) hlt (by omega),List.drop_eq_getElem_cons hlt,this,List.map_cons,List.append_assoc,List.singleton_append]
  ·have:k=xs.length:=by omega
   subst this
   rw[he _ _ hl,List.drop_length,List.take_of_length_le (by omega)];simp
theorem Dt {α β γ:Type} (xs:List α) (L:Nat->List β->Int->Option γ) (g:α->β) (fin:List β->Option γ)
  (hs: ∀n (out:List β) (k:Nat) (hk:k<xs.length),out.length=xs.length->L (n+1) out k=L n (out.set k (g xs[k])) ((k+1:Nat):Int))
  (he: ∀n out,out.length=xs.length->L (n+1) out (xs.length:Nat)=fin out) {n:Nat} {out:List β} (hl:out.length=xs.length) (hn:xs.length<n):L n out 0=fin (xs.map g):=by
 have:=Fi xs L g fin hs he n 0 out hl (Nat.zero_le _) (by omega)
 simpa using this
theorem eqX {α:Type} [DecidableEq α] (a b:List α) (hl:a.length=b.length) (L:Nat->Int->Option (Unit⊕Bool))
  (hs: ∀n (k:Nat) (h1:k<a.length) (h2:k<b.length),L (n+1) k=if a[k]=b[k]then L n ((k+1:Nat):Int)else some (.inr false)) (he: ∀n,L (n+1) (a.length:Nat)=some (.inl ())) {n:Nat} (hn:a.length<n):
  L n 0=some (if a=b then .inl ()else .inr false):=by
 have key: ∀(n k:Nat),k<=a.length->a.length-k<n->L n k=some (if a.drop k=b.drop k then .inl ()else .inr false):=by
  intro n
  induction n with
  |zero=>intro k _ h;omega
  |succ n ih=>
   intro k hk hn
   rcases Nat.lt_or_ge k a.length with hlt|hge
   ·have h2:k<b.length:=by omega
    have e:(a.drop k=b.drop k)↔(a[k]=b[k]/\a.drop (k+1)=b.drop (k+1)):=by
     rw[List.drop_eq_getElem_cons hlt,List.drop_eq_getElem_cons h2];exact List.cons_eq_cons
    rw[hs n k hlt h2]
    by_cases h:a[k]=b[k]
    ·rw[if_pos h,ih (k+1) hlt (by omega)]
     by_cases h3:a.drop (k+1)=b.drop (k+1)
     ·rw[if_pos h3,if_pos (e.2 ⟨h,h3⟩)]
     ·rw[if_neg h3,if_neg λh'=>h3 (e.1 h').2]
    ·rw[if_neg h,if_neg λh'=>h (e.1 h').1]
   ·have:k=a.length:=by omega
    subst this
    rw[he,List.drop_length,hl,List.drop_length];rfl
 have:=key n 0 (Nat.zero_le _) (by omega)
 simpa using this
theorem Et {α β:Type} (xs:List α) (L:Nat->Int->Option β) (p:α->Bool) (r e:β)
  (hs: ∀n (k:Nat) (hk:k<xs.length),L (n+1) k=if p xs[k]then L n ((k+1:Nat):Int)else some r) (he: ∀n,L (n+1) (xs.length:Nat)=some e) {n:Nat} (hn:xs.length<n):
  L n 0=some (if xs.all p then e else r):=by
 have:=EA xs (λn (_:Unit) i=>L n i) (λ_ a=>if p a then some (.inl ())else some (.inr r)) (λ_=>some e) (λn s k hk=>by rw[hs n k hk];cases p xs[k]<;>simp) (λn s=>he n) hn ()
 rw[this,DQ (p:=p) (r:=r) λa _=>by cases p a<;>simp]
 cases xs.all p<;>simp
theorem Du {σ β:Type} (N:Nat) (L:Nat->σ->Int->Option β) (S:Nat->σ) {r:Option β}
  (hs: ∀n (k:Nat),k<N->L (n+1) (S k) k=L n (S (k+1)) ((k+1:Nat):Int)) (he: ∀n,L (n+1) (S N) (N:Nat)=r) {n:Nat} (hn:N<n):L n (S 0) 0=r:=by
 have key: ∀(n k:Nat),k<=N->N-k<n->L n (S k) k=r:=by
  intro n
  induction n with
  |zero=>intro k _ h;omega
  |succ n ih=>
   intro k hk hn
   rcases Nat.lt_or_ge k N with hlt|hge
   ·rw[hs n k hlt];exact ih (k+1) hlt (by omega)
   ·have:k=N:=by omega
    subst this;exact he n
 exact key n 0 (Nat.zero_le _) (by omega)
theorem Fw {σ β:Type} (N:Nat) (L:Nat->σ->Int->Option β) (S:Nat->σ) (p:Nat->Bool) {r e:Option β}
  (hs: ∀n (k:Nat),k<N->L (n+1) (S k) k=if p k then L n (S (k+1)) ((k+1:Nat):Int)else r) (he: ∀n,L (n+1) (S N) (N:Nat)=e) {n:Nat} (hn:N<n):
  L n (S 0) 0=if(List.range N).all p then e else r:=by
 have key: ∀(n k:Nat),k<=N->N-k<n->L n (S k) k=if(List.range' k (N-k)).all p then e else r:=by
  intro n
  induction n with
  |zero=>intro k _ h;omega
  |succ n ih=>
   intro k hk hn
   rcases Nat.lt_or_ge k N with hlt|hge
   ·rw[hs n k hlt,show N-k=(N-(k+1))+1 by omega,List.range'_succ,List.all_cons]
    cases hp:p k with
    |false=>simp
    |true=>simp only[if_true,Bool.true_and];exact ih (k+1) hlt (by omega)
   ·have:k=N:=by omega
    subst this;rw[he];simp
 have:=key n 0 (Nat.zero_le _) (by omega)
 rw[List.range_eq_range']
 simpa using this
theorem Fy {σ β:Type} (N:Nat) (L:Nat->σ->Int->Option β) (S:Nat->σ) (p:Nat->Bool) {r e:Option β}
  (hs: ∀n (k:Nat),k<N->(∀j,j<k->p j=true)->L (n+1) (S k) k=if p k then L n (S (k+1)) ((k+1:Nat):Int)else r) (he: ∀n,(∀j,j<N->p j=true)->L (n+1) (S N) (N:Nat)=e) {n:Nat} (hn:N<n):
  L n (S 0) 0=if(List.range N).all p then e else r:=by
 have key: ∀(n k:Nat),k<=N->N-k<n->(∀j,j<k->p j=true)->L n (S k) k=if(List.range' k (N-k)).all p then e else r:=by
  intro n
  induction n with
  |zero=>intro k _ h;omega
  |succ n ih=>
   intro k hk hn hb
   rcases Nat.lt_or_ge k N with hlt|hge
   ·rw[hs n k hlt hb,show N-k=(N-(k+1))+1 by omega,List.range'_succ,List.all_cons]
    cases hp:p k with
    |false=>simp
    |true=>
     simp only[if_true,Bool.true_and]
     refine ih (k+1) hlt (by omega) λj hj=>?_
     rcases Nat.lt_or_ge j k with h|h
     ·exact hb j h
     ·have:j=k:=by omega
      rw[this];exact hp
   ·have:k=N:=by omega
    subst this;rw[he n hb];simp
 have:=key n 0 (Nat.zero_le _) (by omega) (λj h=>by omega)
 rw[List.range_eq_range']
 simpa using this
theorem Fz {σ β:Type} (N:Nat) (L:Nat->σ->Int->Option β) (S:Nat->σ) (q:Nat->Option (Option β)) {e:Option β}
  (hs: ∀n (k:Nat),k<N->(∀j,j<k->q j=none)->L (n+1) (S k) k=match q k with|none=>L n (S (k+1)) ((k+1:Nat):Int)|some r=>r) (he: ∀n,L (n+1) (S N) (N:Nat)=e) {n:Nat} (hn:N<n):
  L n (S 0) 0=((List.range N).findSome? q).getD e:=by
 have key: ∀(n k:Nat),k<=N->N-k<n->(∀j,j<k->q j=none)->L n (S k) k=((List.range' k (N-k)).findSome? q).getD e:=by
  intro n
  induction n with
  |zero=>intro k _ h;omega
  |succ n ih=>
   intro k hk hn hq
   rcases Nat.lt_or_ge k N with hlt|hge
   ·rw[hs n k hlt hq,show N-k=(N-(k+1))+1 by omega,List.range'_succ,List.findSome?_cons]
    cases hp:q k with
    |some r=>simp
    |none=>
     refine ih (k+1) hlt (by omega) λj hj=>?_
     rcases Nat.lt_or_ge j k with h|h
     ·exact hq j h
     ·have:j=k:=by omega
      rw[this];exact hp
   ·have:k=N:=by omega
    subst this;rw[he];simp
 have:=key n 0 (Nat.zero_le _) (by omega) (λj h=>by omega)
 rw[List.range_eq_range']
 simpa using this
def szR (t:Nat) (left:Int):Int:=if(t:Int)<=left then left-t else-1
end Go.Va
set_option linter.unusedVariables false
open Go Go.Va
namespace T
def Aa:Nat:=1099511627776
def AO (a:List Int) (left:Int):Option (Int):=
 if decide ((w64 (left-(a.length:Int)))<0)then
 some (-1)
 else
 some (w64 (left-(a.length:Int)))
def AT:Nat->((List (List Int))×Int×Int)->Option ((Int)⊕(Int))
 |0,_=>none
 |n+1,(a,left,i)=>
 if decide (i<(a.length:Int))then
 if inb i a then
 (AO (gd a i []) left).bind λr1=>
 if decide (r1<0)then
 some (.inr (-1))
 else
 AT n (a,r1,w64 (i+1))
 else none
 else
 some (.inl left)
def B7 (a:List (List Int)) (left:Int):Option (Int):=
 if decide ((w64 (left-(a.length:Int)))<0)then
  some (-1)
 else
  (AT Aa (a,w64 (left-(a.length:Int)),0)).bind λs1=>
   match s1 with
   | .inl s2=>
    some s2
   | .inr s3=>
    some s3
def Bd:Nat->((List Int)×(List Int)×Int)->Option ((List Int))
 |0,_=>none
 |n+1,(a,out,i)=>
 if decide (i<(a.length:Int))then
 if inb i a then
 if inb i out then
 Bd n (a,stt out i (gd a i 0),w64 (i+1))
 else none
 else none
 else
 some out
def BG (a:List Int):Option ((List Int)):=
 if 0<=(a.length:Int)/\(a.length:Int)<=(a.length:Int)/\(a.length:Int)<=lim then
 (Bd Aa (a,List.replicate (Int.toNat (a.length:Int)) (0:Int),0)).bind λs1=>
 some s1
 else none
def AU:Nat->((List (List Int))×(List (List Int))×Int)->Option ((List (List Int)))
 |0,_=>none
 |n+1,(a,out,i)=>
 if decide (i<(a.length:Int))then
 if inb i a then
 (BG (gd a i [])).bind λr1=>
 if inb i out then
 AU n (a,stt out i r1,w64 (i+1))
 else none
 else none
 else
 some out
def B8 (a:List (List Int)):Option ((List (List Int))):=
 if 0<=(a.length:Int)/\(a.length:Int)<=(a.length:Int)/\(a.length:Int)<=lim then
 (AU Aa (a,List.replicate (Int.toNat (a.length:Int)) ([]:List Int),0)).bind λs1=>
 some s1
 else none
def Bn (x:Int) (a:Int) (b:Int):Option (Bool):=
 if decide (x≥a)then
 some (decide (x<=b))
 else
 some false
def AA:Nat->(Int×(List Int)×Int)->Option ((Unit)⊕(Bool))
 |0,_=>none
 |n+1,(n_,list,i)=>
 if decide (i<(list.length:Int))then
 if inb i list then
 (Bn (gd list i 0) 0 (w64 (n_-1))).bind λr1=>
 if !r1 then
 some (.inr false)
 else
 AA n (n_,list,w64 (i+1))
 else none
 else
 some (.inl ())
def Bm (n_:Int) (list:List Int):Option (Bool):=
 (AA Aa (n_,list,0)).bind λs1=>
  match s1 with
  | .inl s2=>
   some true
  | .inr s3=>
   some s3
def Cf (n_:Int) (k:Int) (t:List Int):Option (Bool):=
 if(t.length:Int)==k then
 (Bm n_ t).bind λr1=>
 some r1
 else
 some false
def A7:Nat->(Int×(List Int)×Int×Int)->Option ((Unit)⊕(Bool))
 |0,_=>none
 |n+1,(n_,t7,t8,t9)=>
 if decide (t9<t8)then
 if inb t9 t7 then
 if decide ((gd t7 t9 0)<0)then
 some (.inr false)
 else
 if decide ((gd t7 t9 0)≥n_)then
 some (.inr false)
 else
 A7 n (n_,t7,t8,w64 (t9+1))
 else none
 else
 some (.inl ())
def BD (list:List Int) (n_:Int):Option (Bool):=
 (A7 Aa (n_,list,(list.length:Int),0)).bind λs1=>
  match s1 with
  | .inl s2=>
   some true
  | .inr s3=>
   some s3
def A9:Nat->((List Int)×(List Int)×Int)->Option ((Unit)⊕(Bool))
 |0,_=>none
 |n+1,(a,b,i)=>
 if decide (i<(a.length:Int))then
 if inb i a then
 if inb i b then
 if(gd a i 0) !=(gd b i 0)then
 some (.inr false)
 else
 A9 n (a,b,w64 (i+1))
 else none
 else none
 else
 some (.inl ())
def BF (a:List Int) (b:List Int):Option (Bool):=
 if(a.length:Int) !=(b.length:Int)then
  some false
 else
  (A9 Aa (a,b,0)).bind λs1=>
   match s1 with
   | .inl s2=>
    some true
   | .inr s3=>
    some s3
def AS:Nat->((List (List Int))×(List (List Int))×Int)->Option ((Unit)⊕(Bool))
 |0,_=>none
 |n+1,(a,b,i)=>
 if decide (i<(a.length:Int))then
 if inb i a then
 if inb i b then
 (BF (gd a i []) (gd b i [])).bind λr1=>
 if !r1 then
 some (.inr false)
 else
 AS n (a,b,w64 (i+1))
 else none
 else none
 else
 some (.inl ())
def B6 (a:List (List Int)) (b:List (List Int)):Option (Bool):=
 if(a.length:Int) !=(b.length:Int)then
  some false
 else
  (AS Aa (a,b,0)).bind λs1=>
   match s1 with
   | .inl s2=>
    some true
   | .inr s3=>
    some s3
def BC:Nat->(Int×Int×Int)->Option (Int)
 |0,_=>none
 |n+1,(n_,k,out)=>
 if decide (k>0)then
 BC n (n_,w64 (k-1),w64 (out*n_))
 else
 some out
def BY (n_:Int) (k:Int):Option (Int):=
 (BC Aa (n_,k,1)).bind λs1=>
 some s1
def Bg:Nat->((List Int)×(List Int)×Int)->Option ((Unit)⊕(Bool))
 |0,_=>none
 |n+1,(a,b,i)=>
 if decide (i<(a.length:Int))then
 if inb i a then
 if inb i b then
 if(gd a i 0) !=(gd b i 0)then
 if inb i a then
 if inb i b then
 some (.inr (decide ((gd a i 0)<(gd b i 0))))
 else none
 else none
 else
 Bg n (a,b,w64 (i+1))
 else none
 else none
 else
 some (.inl ())
def CO (a:List Int) (b:List Int):Option (Bool):=
 (Bg Aa (a,b,0)).bind λs1=>
  match s1 with
  | .inl s2=>
   some false
  | .inr s3=>
   some s3
def Bf:Nat->((List Int)×(List Int)×Int)->Option ((Unit)⊕(Bool))
 |0,_=>none
 |n+1,(a,b,i)=>
 if decide (i<(a.length:Int))then
 if inb i a then
 if inb i b then
 if(gd a i 0) !=(gd b i 0)then
 some (.inr false)
 else
 Bf n (a,b,w64 (i+1))
 else none
 else none
 else
 some (.inl ())
def Cq (a:List Int) (b:List Int):Option (Bool):=
 if(a.length:Int) !=(b.length:Int)then
  some false
 else
  (Bf Aa (a,b,0)).bind λs1=>
   match s1 with
   | .inl s2=>
    some true
   | .inr s3=>
    some s3
def Ak:Nat->((List Int)×(List Int)×Int)->Option (((List Int)×(List Int))⊕(Int))
 |0,_=>none
 |n+1,(s,t,i)=>
 if decide (i<(s.length:Int))then
 if decide (i<(t.length:Int))then
 if inb i s then
 if inb i t then
 if(gd s i 0) !=(gd t i 0)then
 if inb i s then
 if inb i t then
 if decide ((gd s i 0)<(gd t i 0))then
 some (.inr (-1))
 else
 some (.inr 1)
 else none
 else none
 else
 Ak n (s,t,w64 (i+1))
 else none
 else none
 else
 some (.inl (s,t))
 else
 some (.inl (s,t))
def BZ (s:List Int) (t:List Int):Option (Int):=
 (Ak Aa (s,t,0)).bind λs1=>
  match s1 with
  | .inl s2=>
   if decide ((s2.1.length:Int)<(s2.2.length:Int))then
    some (-1)
   else
    if decide ((s2.1.length:Int)>(s2.2.length:Int))then
     some 1
    else
     some 0
  | .inr s3=>
   some s3
def Bz:Nat->(Int×Int×Int)->Option (Int)
 |0,_=>none
 |n+1,(n_,k,p)=>
 if decide (k>0)then
 Bz n (n_,w64 (k-1),w64 (p*n_))
 else
 some p
def B5 (n_:Int) (k:Int):Option (Int):=
 (Bz Aa (n_,k,1)).bind λs1=>
 some s1
end T
open Go Go.Va
namespace T
theorem CJ {a:List Int} {left:Int} (h0:0<=left) (h1:left<=4611686018427387904) (ha:a.length<=9223372036854775807):AO a left=some (szR a.length left):=by
 unfold AO szR
 rw[AQ (by omega) (by omega)]
 by_cases h:(a.length:Int)<=left
 ·rw[if_neg (by simp;omega),if_pos h]
 ·rw[if_pos (by simp;omega),if_neg h]
def CB (a:List (List Int)):Nat:=a.length+(a.map List.length).sum
theorem D6 {a:List (List Int)} {left:Int} (h0:0<=left) (h1:left<=1099511627775) (ha:a.length<=9223372036854775807) (hr: ∀r∈a,r.length<=9223372036854775807):B7 a left=some (szR (CB a) left):=by
 unfold B7
 rw[AQ (by omega) (by omega)]
 by_cases h:(a.length:Int)<=left
 ·rw[if_neg (by simp;omega)]
  have key:=EA a (λn s i=>AT n (a,s,i)) (λs r=>(AO r s).bind λq=>if q<0 then some (.inr (.inr (-1)))else some (.inl q)) (λs=>some (.inl s)) ?_ ?_ (n:=Aa) (by unfold Aa;omega) (left-a.length)
  ·rw[key]
   have run: ∀(l:List (List Int)) (s:Int),0<=s->s<=1099511627775->(∀r∈l,r.length<=9223372036854775807)->
     DB (λs r=>(AO r s).bind λq=>if q<0 then some (.inr (.inr (-1)))else some (.inl q)) (λs=>some (.inl s)) l s=some (if((l.map List.length).sum:Int)<=s then(.inl (s-(l.map List.length).sum):Int⊕Int)else .inr (-1)):=by
    intro l
    induction l with
    |nil=>intro s h0 _ _;simp[DB,h0]
    |cons r l ih=>
     intro s h0 h1 hr
     simp only[DB]
     rw[CJ h0 (by omega) (hr r (by simp))]
     unfold szR
     by_cases h:(r.length:Int)<=s
     ·rw[if_pos h]
      simp only[Option.bind_some]
      rw[if_neg (by omega)]
      dsimp only
      rw[ih (s-r.length) (by omega) (by omega) λr hr'=>hr r (List.mem_cons_of_mem _ hr')]
      simp only[List.map_cons,List.sum_cons]
      congr 1
      by_cases h2:(((l.map List.length).sum:Nat):Int)<=s-r.length
      ·rw[if_pos h2,if_pos (by omega)];congr 1;omega
      ·rw[if_neg h2,if_neg (by omega)]
     ·rw[if_neg h]
      simp only[List.map_cons,List.sum_cons]
      rw[if_neg (by omega)]
      rfl
   rw[run a _ (by omega) (by omega) hr]
   unfold szR CB
   by_cases h2:(((a.map List.length).sum:Nat):Int)<=left-a.length
   ·rw[if_pos h2,if_pos (by omega)]
    simp only[Option.bind_some,Option.some.injEq];omega
   ·rw[if_neg h2,if_neg (by omega)];rfl
  ·intro n s k hk
   simp only[AT,Ac,Ad hk,Ab (show k<4611686018427387904 by omega)]
   simp[hk]
   cases AO a[k] s with
   |none=>rfl
   |some q=>by_cases hq:q<0<;>simp[hq]
  ·intro n s
   simp[AT]
 ·rw[if_pos (by simp;omega)]
  unfold szR CB
  rw[if_neg (by omega)]
theorem CK {a:List Int} (ha:a.length<=1099511627775):BG a=some a:=by
 unfold BG
 rw[if_pos (by unfold lim;omega)]
 have key:=Dt a (λn out i=>Bd n (a,out,i)) id some ?_ ?_ (n:=Aa) (out:=List.replicate (Int.toNat (a.length:Int)) (0:Int)) (by simp) (by unfold Aa;omega)
 ·rw[key];simp
 ·intro n out k hk hl
  simp only[Bd,Ac,Ad hk,B2,Ab (show k<4611686018427387904 by omega)]
  simp[hk,hl]
 ·intro n out hl
  simp[Bd]
theorem D7 {a:List (List Int)} (ha:a.length<=1099511627775) (hr: ∀r∈a,r.length<=1099511627775):B8 a=some a:=by
 unfold B8
 rw[if_pos (by unfold lim;omega)]
 have key:=Dt a (λn out i=>AU n (a,out,i)) id some ?_ ?_ (n:=Aa) (out:=List.replicate (Int.toNat (a.length:Int)) ([]:List Int)) (by simp) (by unfold Aa;omega)
 ·rw[key];simp
 ·intro n out k hk hl
  simp only[AU,Ac,Ad hk,B2,Ab (show k<4611686018427387904 by omega)]
  simp[hk,hl,CK (hr _ (List.getElem_mem hk))]
 ·intro n out hl
  simp[AU]
theorem CD {a b:List Int} (ha:a.length<=1099511627775):BF a b=some (decide (a=b)):=by
 unfold BF
 by_cases hl:a.length=b.length
 ·rw[if_neg (by simp[hl]),eqX a b hl (λn i=>A9 n (a,b,i)) ?_ ?_ (by unfold Aa;omega)]
  ·by_cases h:a=b<;>simp[h]
  ·intro n k h1 h2
   simp only[A9,Ac,Ad h1,Ad h2,Ab (show k<4611686018427387904 by omega)]
   by_cases h:a[k]=b[k]<;>simp[h1,h2,h]
  ·intro n
   simp[A9]
 ·rw[if_pos (by simp;omega),decide_eq_false (λe=>hl (by rw[e]))]
theorem DZ {a b:List (List Int)} (ha:a.length<=1099511627775) (hr: ∀r∈a,r.length<=1099511627775):B6 a b=some (decide (a=b)):=by
 unfold B6
 by_cases hl:a.length=b.length
 ·rw[if_neg (by simp[hl]),eqX a b hl (λn i=>AS n (a,b,i)) ?_ ?_ (by unfold Aa;omega)]
  ·by_cases h:a=b<;>simp[h]
  ·intro n k h1 h2
   simp only[AS,Ac,Ad h1,Ad h2,Ab (show k<4611686018427387904 by omega),CD (hr _ (List.getElem_mem h1))]
   by_cases h:a[k]=b[k]<;>simp[h1,h2,h]
  ·intro n
   simp[AS]
 ·rw[if_pos (by simp;omega),decide_eq_false (λe=>hl (by rw[e]))]
abbrev Lin:=Int×Int×List (List Int)
theorem EW {l:List (List Int)}: ∀ {r:List Int},r∈l->r.length<=(l.map List.length).sum:=by
 induction l with
 |nil=>intro r h;cases h
 |cons x l ih=>
  intro r h
  rw[List.map_cons,List.sum_cons]
  rcases List.mem_cons.1 h with rfl|h
  ·omega
  ·have:=ih h;omega
theorem Bj (x a b:Int):Bn x a b=some (decide (a<=x/\x<=b)):=by
 unfold Bn
 by_cases h:a<=x<;>simp[h]
def Aw (n:Int) (l:List Int):Bool:=l.all λx=>decide (0<=x/\x<n)
theorem BP {l:List Int} (n:Int) (hl:l.length<=1099511627775):BD l n=some (Aw n l):=by
 unfold BD
 rw[Et l (λm i=>A7 m (n,l,(l.length:Int),i)) (λx=>decide (0<=x/\x<n)) (.inr false) (.inl ()) ?_ ?_ (by unfold Aa;omega)]
 ·unfold Aw;cases l.all (λx=>decide (0<=x/\x<n))<;>simp
 ·intro m k hk
  simp only[A7,Ac,Ad hk,Ab (show k<4611686018427387904 by omega)]
  by_cases h1:l[k]<0
  ·simp[hk,h1,show¬0<=l[k] by omega]
  ·by_cases h2:n<=l[k]
   ·simp[hk,h1,h2,show¬l[k]<n by omega]
   ·simp[hk,h1,h2,show 0<=l[k]/\l[k]<n by omega]
 ·intro m
  simp[A7]
theorem BX {l:List Int} {n:Int} (hn: -9223372036854775808<n) (hn':n<=9223372036854775807) (hl:l.length<=1099511627775):Bm n l=some (Aw n l):=by
 unfold Bm
 rw[Et l (λm i=>AA m (n,l,i)) (λx=>decide (0<=x/\x<n)) (.inr false) (.inl ()) ?_ ?_ (by unfold Aa;omega)]
 ·unfold Aw;cases l.all (λx=>decide (0<=x/\x<n))<;>simp
 ·intro m k hk
  simp only[AA,Ac,Ad hk,Ab (show k<4611686018427387904 by omega),Bj,AQ (show-9223372036854775808<=n-1 by omega) (show n-1<=9223372036854775807 by omega)]
  by_cases h1:0<=l[k]/\l[k]<n
  ·simp[hk,h1,show l[k]<=n-1 by omega]
  ·have: ¬(0<=l[k]/\l[k]<=n-1):=by omega
   simp[hk,h1,this]
 ·intro m
  simp[AA]
theorem CX {l:List Int} {n:Int} (k:Int) (hn: -9223372036854775808<n) (hn':n<=9223372036854775807) (hl:l.length<=1099511627775):Cf n k l=some (decide ((l.length:Int)=k)&&Aw n l):=by
 unfold Cf
 rw[BX hn hn' hl]
 by_cases h:(l.length:Int)=k<;>simp[h]
end T
open Go Go.Va
namespace T
theorem C3 {n:Int} {l:List Int} (h:Aw n l=true) (k:Nat) (hk:k<l.length):0<=l[k]/\l[k]<n:=by
 have:=(List.all_eq_true.1 h) l[k] (List.getElem_mem hk)
 simpa using this
section
variable {p v:Int} {rows:List (List Int)} {y:List Int}
end
end T
open Go Go.Va
namespace T
def cmpL:List Int->List Int->Int
 | [],[]=>0
 | [],_::_=> -1
 |_::_,[]=>1
 |a::s,b::t=>if a=b then cmpL s t else if a<b then-1 else 1
theorem DY {s t:List Int} (hs:s.length<=1099511627775): ∀(n k:Nat),k<=s.length->k<=t.length->s.length-k<n->
  (Ak n (s,t,(k:Int))).bind (λs1=>match s1 with
   | .inl s2=>if decide ((s2.1.length:Int)<(s2.2.length:Int))then some (-1)else if decide ((s2.1.length:Int)>(s2.2.length:Int))then some 1 else some 0
   | .inr s3=>some s3)=some (cmpL (s.drop k) (t.drop k)):=by
 intro n
 induction n with
 |zero=>intro k _ _ h;omega
 |succ n ih=>
  intro k h1 h2 hn
  by_cases k1:k<s.length
  ·by_cases k2:k<t.length
   ·rw[List.drop_eq_getElem_cons k1,List.drop_eq_getElem_cons k2]
    simp only[Ak,Ac,Ad k1,Ad k2,Ab (show k<4611686018427387904 by omega),cmpL]
    by_cases he:s[k]=t[k]
    ·have:=ih (k+1) k1 k2 (by omega)
     simp[k1,k2,he]
     simpa using this
    ·by_cases hl:s[k]<t[k]<;>simp[k1,k2,he,hl]
   ·rw[List.drop_eq_getElem_cons k1,List.drop_of_length_le (show t.length<=k by omega)]
    have e:k=t.length:=by omega
    simp only[Ak,cmpL]
    simp[k1,k2,show¬s.length<t.length by omega,show t.length<s.length by omega]
  ·rw[List.drop_of_length_le (show s.length<=k by omega)]
   simp only[Ak]
   by_cases k2:k<t.length
   ·rw[List.drop_eq_getElem_cons k2]
    simp[k1,cmpL,show s.length<t.length by omega]
   ·rw[List.drop_of_length_le (show t.length<=k by omega)]
    simp[k1,cmpL,show¬s.length<t.length by omega,show¬t.length<s.length by omega]
theorem Cl {s t:List Int} (hs:s.length<=1099511627775):BZ s t=some (cmpL s t):=by
 have:=DY (t:=t) hs Aa 0 (Nat.zero_le _) (Nat.zero_le _) (by unfold Aa;omega)
 rw[List.drop_zero,List.drop_zero]at this
 exact this
theorem Db {s t:List Int} (hs:s.length<=1099511627775) (hl:s.length=t.length):CO s t=some (decide (cmpL s t<0)):=by
 have key: ∀(n k:Nat),k<=s.length->s.length-k<n->(Bg n (s,t,(k:Int))).bind (λs1=>match s1 with| .inl _=>some false| .inr s3=>some s3)=some (decide (cmpL (s.drop k) (t.drop k)<0)):=by
  intro n
  induction n with
  |zero=>intro k _ h;omega
  |succ n ih=>
   intro k h1 hn
   by_cases k1:k<s.length
   ·have k2:k<t.length:=by omega
    rw[List.drop_eq_getElem_cons k1,List.drop_eq_getElem_cons k2]
    simp only[Bg,Ac,Ad k1,Ad k2,Ab (show k<4611686018427387904 by omega),cmpL]
    by_cases he:s[k]=t[k]
    ·have:=ih (k+1) k1 (by omega)
     simp[k1,k2,he]
     simpa using this
    ·by_cases hl:s[k]<t[k]<;>simp[k1,k2,he,hl]
   ·rw[List.drop_of_length_le (show s.length<=k by omega),List.drop_of_length_le (show t.length<=k by omega)]
    simp[Bg,k1,cmpL]
 have:=key Aa 0 (Nat.zero_le _) (by unfold Aa;omega)
 rw[List.drop_zero,List.drop_zero]at this
 exact this
theorem Da {a b:List Int} (ha:a.length<=1099511627775):Cq a b=some (decide (a=b)):=by
 unfold Cq
 by_cases hl:a.length=b.length
 ·rw[if_neg (by simp[hl]),eqX a b hl (λn i=>Bf n (a,b,i)) ?_ ?_ (by unfold Aa;omega)]
  ·by_cases h:a=b<;>simp[h]
  ·intro n k h1 h2
   simp only[Bf,Ac,Ad h1,Ad h2,Ab (show k<4611686018427387904 by omega)]
   by_cases h:a[k]=b[k]<;>simp[h1,h2,h]
  ·intro n
   simp[Bf]
 ·rw[if_pos (by simp;omega),decide_eq_false (λe=>hl (by rw[e]))]
theorem cmpL_refl: ∀s,cmpL s s=0
 | []=>rfl
 |a::s=>by simp[cmpL,cmpL_refl s]
theorem cmpL_eq: ∀ {s t},cmpL s t=0↔s=t
 | [],[]=>by simp[cmpL]
 | [],_::_=>by simp[cmpL]
 |_::_,[]=>by simp[cmpL]
 |a::s,b::t=>by
  simp only[cmpL]
  by_cases h:a=b
  ·rw[if_pos h,cmpL_eq];simp[h]
  ·rw[if_neg h];split<;>simp[h]
theorem cmpL_symm: ∀s t,cmpL t s= -cmpL s t
 | [],[]=>by simp[cmpL]
 | [],_::_=>by simp[cmpL]
 |_::_,[]=>by simp[cmpL]
 |a::s,b::t=>by
  simp only[cmpL]
  by_cases h:a=b
  ·rw[if_pos h,if_pos h.symm,cmpL_symm s t]
  ·rw[if_neg h,if_neg (Ne.symm h)]
   by_cases h2:a<b
   ·rw[if_pos h2,if_neg (by omega)];rfl
   ·rw[if_neg h2,if_pos (by omega)]
theorem cmpL_trans: ∀ {s t u},cmpL s t<0->cmpL t u<0->cmpL s u<0
 | [],[],_,h,_=>by simp[cmpL]at h
 | [],_::_,[],_,h=>by simp[cmpL]at h
 | [],_::_,_::_,_,_=>by simp[cmpL]
 |_::_,[],_,h,_=>by simp[cmpL]at h
 |_::_,_::_,[],_,h=>by simp[cmpL]at h
 |a::s,b::t,c::u,h1,h2=>by
  simp only[cmpL]at*
  by_cases e1:a=b
  ·rw[if_pos e1]at h1
   by_cases e2:b=c
   ·rw[if_pos e2]at h2;rw[if_pos (e1.trans e2)];exact cmpL_trans h1 h2
   ·rw[if_neg e2]at h2;rw[e1,if_neg e2];exact h2
  ·rw[if_neg e1]at h1
   have l1:a<b:=by
    by_cases h:a<b
    ·exact h
    ·rw[if_neg h]at h1;omega
   by_cases e2:b=c
   ·rw[←e2,if_neg e1,if_pos l1];omega
   ·rw[if_neg e2]at h2
    have l2:b<c:=by
     by_cases h:b<c
     ·exact h
     ·rw[if_neg h]at h2;omega
    rw[if_neg (by omega),if_pos (by omega)];omega
def Bw:List (List Int)->Bool
 |a::b::l=>decide (cmpL a b<0)&&Bw (b::l)
 |_=>true
theorem Em {a:List Int} {l:List (List Int)} (h:Bw (a::l)=true):Bw l=true:=by
 cases l with
 |nil=>rfl
 |cons b l=>simp only[Bw,Bool.and_eq_true]at h;exact h.2
theorem Dm: ∀ {a:List Int} {l:List (List Int)},Bw (a::l)=true-> ∀b∈l,cmpL a b<0
 |a,[],_,b,hb=>by cases hb
 |a,c::l,h,b,hb=>by
  simp only[Bw,Bool.and_eq_true,decide_eq_true_eq]at h
  rcases List.mem_cons.1 hb with rfl|hb
  ·exact h.1
  ·exact cmpL_trans h.1 (Dm h.2 b hb)
theorem CA: ∀ {l:List (List Int)},Bw l=true-> ∀(i j:Nat) (hi:i<j) (hj:j<l.length),cmpL (l[i]'(by omega)) l[j]<0
 | [],_,i,j,_,hj=>by simp at hj
 |a::l,h,0,j+1,_,hj=>by
  simp only[List.getElem_cons_zero,List.getElem_cons_succ]
  exact Dm h _ (List.getElem_mem _)
 |a::l,h,i+1,j+1,hi,hj=>by
  simp only[List.getElem_cons_succ]
  exact CA (Em h) i j (by omega) (by simpa using hj)
theorem DL {l:List (List Int)}:Bw l=true↔ ∀(i:Nat) (hi:i+1<l.length),cmpL (l[i]'(by omega)) l[i+1]<0:=by
 constructor
 ·exact λh i hi=>CA h i (i+1) (by omega) hi
 ·induction l with
  |nil=>intro _;rfl
  |cons a l ih=>
   intro h
   cases l with
   |nil=>rfl
   |cons b l=>
    simp only[Bw,Bool.and_eq_true,decide_eq_true_eq]
    exact⟨h 0 (by simp),ih λi hi=>by have:=h (i+1) (by simpa using hi);simpa using this⟩
end T
open Go Go.Va
namespace T
theorem Do {n:Int} (h0:0<=n) (h8:n<=8): ∀k:Nat,0<=n^k/\n^k<=8^k
 |0=>by simp
 |k+1=>by
  obtain⟨h1,h2⟩:=Do h0 h8 k
  rw[Int.pow_succ,Int.pow_succ]
  exact⟨Int.mul_nonneg h1 h0,Int.mul_le_mul h2 h8 h0 (by have:(0:Int)<=8^k:=Int.le_trans h1 h2;exact this)⟩
theorem EX: ∀k:Nat,k<=20->(8:Int)^k<=8^20:=by
 intro k hk
 have:((8^k:Nat):Int)<=((8^20:Nat):Int):=Int.ofNat_le.2 (Nat.pow_le_pow_right (by omega) hk)
 simpa using this
theorem D4 {n:Int} (h0:0<=n) (h8:n<=8) {k:Nat} (hk:k<=20):0<=n^k/\n^k<=1152921504606846976:=by
  obtain⟨h1,h2⟩:=Do h0 h8 k
  have:=EX k hk
  exact ⟨h1, by have e : (8 : Int) ^ 20 = 1152921504606846976 := by decide
                omega⟩
theorem EG {n:Int} (h0:0<=n) (h8:n<=8): ∀(m k j:Nat),j+k<=20->k<m->Bz m (n,(k:Int),n^j)=some (n^(j+k)):=by
 intro m
 induction m with
 |zero=>intro k j _ h;omega
 |succ m ih=>
  intro k j hj hk
  simp only[Bz]
  cases k with
  |zero=>simp
  |succ k=>
   have e:w64 (((k+1:Nat):Int)-1)=(k:Int):=by rw[AQ (by omega) (by omega)];omega
   have hb:=D4 h0 h8 (k:=j+1) (by omega)
   rw[Int.pow_succ]at hb
   rw[e,AQ (by omega) (by omega),←Int.pow_succ,if_pos (by simp),ih k (j+1) (by omega) (by omega)]
   congr 2<;>omega
theorem Dg {n:Int} (h0:0<=n) (h8:n<=8) {k:Nat} (hk:k<=20):B5 n (k:Int)=some (n^k):=by
 unfold B5
 have:=EG h0 h8 Aa k 0 (by omega) (by unfold Aa;omega)
 rw[Int.pow_zero]at this
 rw[this];simp
theorem Ez {n:Int} (h0:0<=n) (h8:n<=8): ∀(m k j:Nat),j+k<=20->k<m->BC m (n,(k:Int),n^j)=some (n^(j+k)):=by
 intro m
 induction m with
 |zero=>intro k j _ h;omega
 |succ m ih=>
  intro k j hj hk
  simp only[BC]
  cases k with
  |zero=>simp
  |succ k=>
   have e:w64 (((k+1:Nat):Int)-1)=(k:Int):=by rw[AQ (by omega) (by omega)];omega
   have hb:=D4 h0 h8 (k:=j+1) (by omega)
   rw[Int.pow_succ]at hb
   rw[e,AQ (by omega) (by omega),←Int.pow_succ,if_pos (by simp),ih k (j+1) (by omega) (by omega)]
   congr 2<;>omega
theorem Cu {n:Int} (h0:0<=n) (h8:n<=8) {k:Nat} (hk:k<=20):BY n (k:Int)=some (n^k):=by
 unfold BY
 have:=Ez h0 h8 Aa k 0 (by omega) (by unfold Aa;omega)
 rw[Int.pow_zero]at this
 rw[this];simp
def Dw (n:Int):Int->List Int->Int
 |i,[]=>i
 |i,a::l=>Dw n (i*n+a) l
def idx (n:Int) (l:List Int):Int:=Dw n 0 l
theorem Dx (n:Int): ∀(l:List Int) (i:Int),Dw n i l=i*n^l.length+Dw n 0 l
 | [],i=>by simp[Dw]
 |a::l,i=>by
  simp only[Dw,List.length_cons]
  rw[Dx n l (i*n+a),Dx n l (0*n+a),Int.pow_succ]
  simp only[Int.zero_mul,Int.zero_add]
  rw[Int.add_mul,Int.mul_assoc,Int.mul_comm n (n^l.length)]
  omega
theorem C7 (n a:Int) (l:List Int):idx n (a::l)=a*n^l.length+idx n l:=by
 unfold idx
 simp only[Dw]
 rw[Dx];simp
theorem Ck {n a:Int} {l:List Int}:Aw n (a::l)=true↔(0<=a/\a<n)/\Aw n l=true:=by
 unfold Aw;simp[List.all_cons]
theorem C6 {n:Int}: ∀ {l:List Int},Aw n l=true->0<=idx n l/\idx n l<n^l.length
 | [],_=>by simp[idx,Dw]
 |a::l,h=>by
  obtain⟨h1,h2⟩:=Ck.1 h
  obtain⟨h3,h4⟩:=C6 h2
  rw[C7,List.length_cons,Int.pow_succ]
  have hp:0<=n^l.length:=by omega
  have k1:=Int.mul_nonneg h1.1 hp
  have k2:=Int.mul_le_mul_of_nonneg_right (show a+1<=n by omega) hp
  rw[Int.add_mul,Int.one_mul,Int.mul_comm n]at k2
  exact⟨by omega,by omega⟩
theorem Eb {n:Int}: ∀ {s t:List Int},Aw n s=true->Aw n t=true->s.length=t.length->(cmpL s t<0↔idx n s<idx n t)/\(cmpL s t=0↔idx n s=idx n t)
 | [],[],_,_,_=>by simp[cmpL,idx,Dw]
 | [],_::_,_,_,h=>by simp at h
 |_::_,[],_,_,h=>by simp at h
 |a::s,b::t,hs,ht,hl=>by
  obtain⟨s1,s2⟩:=Ck.1 hs
  obtain⟨t1,t2⟩:=Ck.1 ht
  have hl':s.length=t.length:=by simpa using hl
  have ih:=Eb s2 t2 hl'
  obtain⟨b1,b2⟩:=C6 s2
  obtain⟨c1,c2⟩:=C6 t2
  rw[C7,C7,hl']
  rw[hl']at b2
  simp only[cmpL]
  have hp:0<=n^t.length:=by omega
  rcases Int.lt_trichotomy a b with h|h|h
  ·have:=Int.mul_le_mul_of_nonneg_right (show a+1<=b by omega) hp
   rw[Int.add_mul,Int.one_mul]at this
   rw[if_neg (by omega),if_pos h]
   exact⟨by constructor<;>intro<;>omega,by constructor<;>intro<;>omega⟩
  ·subst h
   rw[if_pos rfl]
   exact⟨by rw[ih.1];constructor<;>intro<;>omega,by rw[ih.2];constructor<;>intro<;>omega⟩
  ·have:=Int.mul_le_mul_of_nonneg_right (show b+1<=a by omega) hp
   rw[Int.add_mul,Int.one_mul]at this
   rw[if_neg (by omega),if_neg (by omega)]
   exact⟨by constructor<;>intro<;>omega,by constructor<;>intro<;>omega⟩
theorem Dn {n:Int} {k:Nat} {l:List (List Int)} (hi:Bw l=true) (hv: ∀t∈l,t.length=k/\Aw n t=true):(l.length:Int)<=n^k∨l= []:=by
 have key: ∀(i:Nat) (h:i<l.length),(i:Int)<=idx n l[i]:=by
  intro i
  induction i with
  |zero=>intro h;exact(C6 (hv _ (List.getElem_mem h)).2).1
  |succ i ih=>
   intro h
   have h1:=ih (by omega)
   obtain⟨l1,b1⟩:=hv _ (List.getElem_mem (show i<l.length by omega))
   obtain⟨l2,b2⟩:=hv _ (List.getElem_mem h)
   have:=(Eb b1 b2 (l1.trans l2.symm)).1.1 (CA hi i (i+1) (by omega) h)
   omega
 cases hn:l.length with
 |zero=>exact .inr (List.length_eq_zero_iff.1 hn)
 |succ m=>
  left
  have h:=key m (by omega)
  obtain⟨l1,b1⟩:=hv _ (List.getElem_mem (show m<l.length by omega))
  have:=(C6 b1).2
  rw[l1]at this
  omega
end T
open Go Go.Va
namespace T
def Fr (n:Int):Bool:=decide (1<=n/\n<=8)
def FE (n k:Int) (t:List Int):Bool:=decide ((t.length:Int)=k)&&Aw n t
def Fb (n k:Int) (ts:List (List Int)):Bool:=Fr n&&decide (1<=k/\k<=4)&&ts.all (FE n k)&&Bw ts
end T
set_option linter.unusedVariables false
open Go Go.Va
namespace T
def Ch (a:Int×(List (List Int))) (left:Int):Option (Int):=
 (B7 a.2 left).bind λr1=>
 if decide (r1<0)then
 some (-1)
 else
 some r1
def AY (a:(List Int)×Int×(List (List Int))) (left:Int):Option (Int):=
 (AO a.1 left).bind λr1=>
 if decide (r1<0)then
 some (-1)
 else
 (Ch (a.2.1,a.2.2) r1).bind λr2=>
 if decide (r2<0)then
 some (-1)
 else
 some r2
def Ar:Nat->((List ((List Int)×Int×(List (List Int))))×Int×Int)->Option ((Int)⊕(Int))
 |0,_=>none
 |n+1,(a,left,i)=>
 if decide (i<(a.length:Int))then
 if inb i a then
 (AY (gd a i ([],(0,[]))) left).bind λr1=>
 if decide (r1<0)then
 some (.inr (-1))
 else
 Ar n (a,r1,w64 (i+1))
 else none
 else
 some (.inl left)
def BS (a:List ((List Int)×Int×(List (List Int)))) (left:Int):Option (Int):=
 if decide ((w64 (left-(a.length:Int)))<0)then
  some (-1)
 else
  (Ar Aa (a,w64 (left-(a.length:Int)),0)).bind λs1=>
   match s1 with
   | .inl s2=>
    some s2
   | .inr s3=>
    some s3
def BT (a:Int×Int×(List ((List Int)×Int×(List (List Int))))) (left:Int):Option (Int):=
 (BS a.2.2 left).bind λr1=>
 if decide (r1<0)then
 some (-1)
 else
 some r1
def Ci (a:Int×(List (List Int))):Option ((Int×(List (List Int)))):=
 (B8 a.2).bind λr1=>
 some (a.1,r1)
def AZ (a:(List Int)×Int×(List (List Int))):Option (((List Int)×(Int×(List (List Int))))):=
 (BG a.1).bind λr1=>
 (Ci (a.2.1,a.2.2)).bind λr2=>
 some (r1,(r2.1,r2.2))
def As:Nat->((List ((List Int)×Int×(List (List Int))))×(List ((List Int)×Int×(List (List Int))))×Int)->Option ((List ((List Int)×Int×(List (List Int)))))
 |0,_=>none
 |n+1,(a,out,i)=>
 if decide (i<(a.length:Int))then
 if inb i a then
 (AZ (gd a i ([],(0,[])))).bind λr1=>
 if inb i out then
 As n (a,stt out i (r1.1,(r1.2.1,r1.2.2)),w64 (i+1))
 else none
 else none
 else
 some out
def BU (a:List ((List Int)×Int×(List (List Int)))):Option ((List ((List Int)×Int×(List (List Int))))):=
 if 0<=(a.length:Int)/\(a.length:Int)<=(a.length:Int)/\(a.length:Int)<=lim then
 (As Aa (a,List.replicate (Int.toNat (a.length:Int)) (([],(0,[])):(List Int)×Int×(List (List Int))),0)).bind λs1=>
 some s1
 else none
def Az (a:Int×Int×(List ((List Int)×Int×(List (List Int))))):Option ((Int×(Int×(List ((List Int)×Int×(List (List Int))))))):=
 (BU a.2.2).bind λr1=>
 some (a.1,(a.2.1,r1))
def AC:Nat->(Int×(Int×(List (List Int)))×Int)->Option ((Unit)⊕(Bool))
 |0,_=>none
 |n+1,(n_,r,i)=>
 if decide (i<(r.2.length:Int))then
 if inb i r.2 then
 (Cf n_ r.1 (gd r.2 i [])).bind λr3=>
 if !r3 then
 some (.inr false)
 else
 if decide (i>0)then
 if inb (w64 (i-1)) r.2 then
 if inb i r.2 then
 (CO (gd r.2 (w64 (i-1)) []) (gd r.2 i [])).bind λr4=>
 if !r4 then
 some (.inr false)
 else
 AC n (n_,(r.1,r.2),w64 (i+1))
 else none
 else none
 else
 AC n (n_,(r.1,r.2),w64 (i+1))
 else none
 else
 some (.inl ())
def Cb (n_:Int) (r:Int×(List (List Int))):Option (Bool):=
 (Bn r.1 1 3).bind λr1=>
  if !r1 then
   some false
  else
   (BY n_ r.1).bind λr2=>
    if decide ((r.2.length:Int)>r2)then
     some false
    else
     (AC Aa (n_,(r.1,r.2),0)).bind λs3=>
      match s3 with
      | .inl s4=>
       some true
      | .inr s5=>
       some s5
def Cy (vars:Int) (size:Int) (c:(List Int)×Int×(List (List Int))):Option (Bool):=
 (Cb size (c.2.1,c.2.2)).bind λr1=>
 if r1 then
 if(c.1.length:Int)==c.2.1 then
 (Bm vars c.1).bind λr2=>
 some r2
 else
 some false
 else
 some false
def AW:Nat->((Int×Int×(List ((List Int)×Int×(List (List Int)))))×Int)->Option ((Unit)⊕(Bool))
 |0,_=>none
 |n+1,(net,i)=>
 if decide (i<(net.2.2.length:Int))then
 if inb i net.2.2 then
 (Cy net.1 net.2.1 (gd net.2.2 i ([],(0,[])))).bind λr3=>
 if !r3 then
 some (.inr false)
 else
 AW n ((net.1,(net.2.1,net.2.2)),w64 (i+1))
 else none
 else
 some (.inl ())
def Cd (net:Int×Int×(List ((List Int)×Int×(List (List Int))))):Option (Bool):=
 (Bn net.1 0 9).bind λr1=>
  if !r1 then
   some false
  else
   (Bn net.2.1 1 4).bind λr2=>
    if !r2 then
     some false
    else
     if decide ((net.2.2.length:Int)>40)then
      some false
     else
      (AW Aa ((net.1,(net.2.1,net.2.2)),0)).bind λs3=>
       match s3 with
       | .inl s4=>
        some true
       | .inr s5=>
        some s5
def Ce (l:List Int):Option ((List Int)):=
 if([]:List Int).length+l.length<=lim then
 some ([]++l)
 else none
def BI (n_:Int):Option (Bool):=
 if decide (n_≥1)then
 some (decide (n_<=4))
 else
 some false
def Au:Nat->(Int×(Int×(List (List Int)))×(List (List Int))×Int×Int)->Option ((Unit)⊕(Bool))
 |0,_=>none
 |n+1,(n_,r,t16,t17,t18)=>
 if decide (t18<t17)then
 if inb t18 t16 then
 if((gd t16 t18 []).length:Int) !=r.1 then
 some (.inr false)
 else
 (BD (gd t16 t18 []) n_).bind λr1=>
 if !r1 then
 some (.inr false)
 else
 if decide (t18>0)then
 if inb (w64 (t18-1)) r.2 then
 (BZ (gd r.2 (w64 (t18-1)) []) (gd t16 t18 [])).bind λr2=>
 if decide (r2≥0)then
 some (.inr false)
 else
 Au n (n_,(r.1,r.2),t16,t17,w64 (t18+1))
 else none
 else
 Au n (n_,(r.1,r.2),t16,t17,w64 (t18+1))
 else none
 else
 some (.inl ())
def BH (n_:Int) (r:Int×(List (List Int))):Option (Bool):=
 if decide (r.1<1)then
  some false
 else
  if decide (r.1>3)then
   some false
  else
   (Au Aa (n_,(r.1,r.2),r.2,(r.2.length:Int),0)).bind λs1=>
    match s1 with
    | .inl s2=>
     some true
    | .inr s3=>
     some s3
def Bp (vars:Int) (size:Int) (c:(List Int)×Int×(List (List Int))):Option (Bool):=
 (BH size (c.2.1,c.2.2)).bind λr1=>
 if r1 then
 if(c.1.length:Int)==c.2.1 then
 (BD c.1 vars).bind λr2=>
 some r2
 else
 some false
 else
 some false
def AG:Nat->((Int×Int×(List ((List Int)×Int×(List (List Int)))))×(List ((List Int)×Int×(List (List Int))))×Int×Int)->Option ((Unit)⊕(Bool))
 |0,_=>none
 |n+1,(net,t26,t27,t28)=>
 if decide (t28<t27)then
 if inb t28 t26 then
 (Bp net.1 net.2.1 ((gd t26 t28 ([],(0,[]))).1,(((gd t26 t28 ([],(0,[]))).2).1,((gd t26 t28 ([],(0,[]))).2).2))).bind λr2=>
 if !r2 then
 some (.inr false)
 else
 AG n ((net.1,(net.2.1,net.2.2)),t26,t27,w64 (t28+1))
 else none
 else
 some (.inl ())
def BL (net:Int×Int×(List ((List Int)×Int×(List (List Int))))):Option (Bool):=
 if decide (net.1<0)then
  some false
 else
  if decide (net.1>9)then
   some false
  else
   (BI net.2.1).bind λr1=>
    if !r1 then
     some false
    else
     if decide ((net.2.2.length:Int)>40)then
      some false
     else
      (AG Aa ((net.1,(net.2.1,net.2.2)),net.2.2,(net.2.2.length:Int),0)).bind λs2=>
       match s2 with
       | .inl s3=>
        some true
       | .inr s4=>
        some s4
def Cg (a:Int×(List (List Int))) (b:Int×(List (List Int))):Option (Bool):=
 if a.1 !=b.1 then
 some false
 else
 (B6 a.2 b.2).bind λr1=>
 if !r1 then
 some false
 else
 some true
def AX (a:(List Int)×Int×(List (List Int))) (b:(List Int)×Int×(List (List Int))):Option (Bool):=
 (BF a.1 b.1).bind λr1=>
 if !r1 then
 some false
 else
 (Cg (a.2.1,a.2.2) (b.2.1,b.2.2)).bind λr2=>
 if !r2 then
 some false
 else
 some true
def Aq:Nat->((List ((List Int)×Int×(List (List Int))))×(List ((List Int)×Int×(List (List Int))))×Int)->Option ((Unit)⊕(Bool))
 |0,_=>none
 |n+1,(a,b,i)=>
 if decide (i<(a.length:Int))then
 if inb i a then
 if inb i b then
 (AX (gd a i ([],(0,[]))) (gd b i ([],(0,[])))).bind λr1=>
 if !r1 then
 some (.inr false)
 else
 Aq n (a,b,w64 (i+1))
 else none
 else none
 else
 some (.inl ())
def BQ (a:List ((List Int)×Int×(List (List Int)))) (b:List ((List Int)×Int×(List (List Int)))):Option (Bool):=
 if(a.length:Int) !=(b.length:Int)then
  some false
 else
  (Aq Aa (a,b,0)).bind λs1=>
   match s1 with
   | .inl s2=>
    some true
   | .inr s3=>
    some s3
def Ao (a:Int×Int×(List ((List Int)×Int×(List (List Int))))) (b:Int×Int×(List ((List Int)×Int×(List (List Int))))):Option (Bool):=
 if a.1 !=b.1 then
 some false
 else
 if a.2.1 !=b.2.1 then
 some false
 else
 (BQ a.2.2 b.2.2).bind λr1=>
 if !r1 then
 some false
 else
 some true
def AM:Nat->((List Int)×Int×Int)->Option ((List Int)×Int)
 |0,_=>none
 |n+1,(a,k,i)=>
 if decide (i<(a.length:Int))then
 if inb i a then
 AM n (stt a i k,w64 (k+1),w64 (i+1))
 else none
 else
 some (a,k)
def Bl (a:List Int) (k:Int):Option ((List Int)×Int):=
 (AM Aa (a,k,0)).bind λs1=>
 some (s1.1,s1.2)
def AI:Nat->((List (List Int))×Int×Int)->Option ((List (List Int))×Int)
 |0,_=>none
 |n+1,(a,k,i)=>
 if decide (i<(a.length:Int))then
 if inb i a then
 (Bl (gd a i []) k).bind λr1=>
 AI n (stt a i r1.1,r1.2,w64 (i+1))
 else none
 else
 some (a,k)
def BR (a:List (List Int)) (k:Int):Option ((List (List Int))×Int):=
 (AI Aa (a,k,0)).bind λs1=>
 some (s1.1,s1.2)
def Am:Nat->((List ((List Int)×Int×(List (List Int))))×Int×Int)->Option ((List ((List Int)×Int×(List (List Int))))×Int)
 |0,_=>none
 |n+1,(a,k,i)=>
 if decide (i<(a.length:Int))then
 if inb i a then
 (Bl ((gd a i ([],(0,[]))).1) k).bind λr1=>
 if inb i (stt a i (r1.1,(gd a i ([],(0,[]))).2))then
 if inb i (stt (stt a i (r1.1,(gd a i ([],(0,[]))).2)) i ((gd (stt a i (r1.1,(gd a i ([],(0,[]))).2)) i ([],(0,[]))).1,(r1.2,((gd (stt a i (r1.1,(gd a i ([],(0,[]))).2)) i ([],(0,[]))).2).2)))then
 (BR (((gd (stt (stt a i (r1.1,(gd a i ([],(0,[]))).2)) i ((gd (stt a i (r1.1,(gd a i ([],(0,[]))).2)) i ([],(0,[]))).1,(r1.2,((gd (stt a i (r1.1,(gd a i ([],(0,[]))).2)) i ([],(0,[]))).2).2))) i ([],(0,[]))).2).2) (w64 (r1.2+1))).bind λr2=>
 Am n (stt (stt (stt a i (r1.1,(gd a i ([],(0,[]))).2)) i ((gd (stt a i (r1.1,(gd a i ([],(0,[]))).2)) i ([],(0,[]))).1,(r1.2,((gd (stt a i (r1.1,(gd a i ([],(0,[]))).2)) i ([],(0,[]))).2).2))) i ((gd (stt (stt a i (r1.1,(gd a i ([],(0,[]))).2)) i ((gd (stt a i (r1.1,(gd a i ([],(0,[]))).2)) i ([],(0,[]))).1,(r1.2,((gd (stt a i (r1.1,(gd a i ([],(0,[]))).2)) i ([],(0,[]))).2).2))) i ([],(0,[]))).1,(((gd (stt (stt a i (r1.1,(gd a i ([],(0,[]))).2)) i ((gd (stt a i (r1.1,(gd a i ([],(0,[]))).2)) i ([],(0,[]))).1,(r1.2,((gd (stt a i (r1.1,(gd a i ([],(0,[]))).2)) i ([],(0,[]))).2).2))) i ([],(0,[]))).2).1,r2.1)),r2.2,w64 (i+1))
 else none
 else none
 else none
 else
 some (a,k)
def Bc (a:List ((List Int)×Int×(List (List Int)))) (k:Int):Option ((List ((List Int)×Int×(List (List Int))))×Int):=
 (Am Aa (a,k,0)).bind λs1=>
 some (s1.1,s1.2)
def An (a:Int×(Int×(List ((List Int)×Int×(List (List Int)))))) (k:Int):Option ((Unit×(Unit×(List ((List Int)×Int×(List (List Int))))))×Int):=
 (Bc a.2.2 k).bind λr1=>
 some (((),((),r1.1)),r1.2)
def AL:Nat->((List Int)×Int×Int)->Option ((Int)⊕(Int))
 |0,_=>none
 |n+1,(a,k,i)=>
 if decide (i<(a.length:Int))then
 if inb i a then
 if(gd a i 0) !=k then
 some (.inr (-1))
 else
 AL n (a,w64 (k+1),w64 (i+1))
 else none
 else
 some (.inl k)
def AJ (a:List Int) (k:Int):Option (Int):=
 (AL Aa (a,k,0)).bind λs1=>
  match s1 with
  | .inl s2=>
   some s2
  | .inr s3=>
   some s3
def AH:Nat->((List (List Int))×Int×Int)->Option ((Int)⊕(Int))
 |0,_=>none
 |n+1,(a,k,i)=>
 if decide (i<(a.length:Int))then
 if inb i a then
 (AJ (gd a i []) k).bind λr1=>
 if decide (r1<0)then
 some (.inr (-1))
 else
 AH n (a,r1,w64 (i+1))
 else none
 else
 some (.inl k)
def Bb (a:List (List Int)) (k:Int):Option (Int):=
 (AH Aa (a,k,0)).bind λs1=>
  match s1 with
  | .inl s2=>
   some s2
  | .inr s3=>
   some s3
end T
open Go Go.Va
namespace T
theorem szX {α:Type} (xs:List α) (f:α->Int->Option Int) (tot:α->Nat) (L:Nat->Int->Int->Option (Int⊕Int))
  (hf: ∀a∈xs,∀s,0<=s->s<=1099511627775->f a s=some (szR (tot a) s))
  (hs: ∀n s (k:Nat) (hk:k<xs.length),L (n+1) s k=(f xs[k] s).bind λq=>if q<0 then some (.inr (-1))else L n q ((k+1:Nat):Int))
  (he: ∀n s,L (n+1) s (xs.length:Nat)=some (.inl s)): ∀(n k:Nat) (s:Int),k<=xs.length->xs.length-k<n->0<=s->s<=1099511627775->
   L n s k=some (if(((xs.drop k).map tot).sum:Int)<=s then .inl (s-((xs.drop k).map tot).sum)else .inr (-1)):=by
 intro n
 induction n with
 |zero=>intro k s _ h;omega
 |succ n ih=>
  intro k s hk hn h0 h1
  rcases Nat.lt_or_ge k xs.length with hlt|hge
  ·rw[hs n s k hlt,hf _ (List.getElem_mem hlt) s h0 h1,List.drop_eq_getElem_cons hlt,List.map_cons,List.sum_cons]
   unfold szR
   simp only[Option.bind_some]
   by_cases h:(tot xs[k]:Int)<=s
   ·rw[if_pos h,if_neg (by omega),ih (k+1) _ hlt (by omega) (by omega) (by omega)]
    congr 1
    by_cases h2:((((xs.drop (k+1)).map tot).sum:Nat):Int)<=s-tot xs[k]
    ·rw[if_pos h2,if_pos (by omega)];congr 1;omega
    ·rw[if_neg h2,if_neg (by omega)]
   ·rw[if_neg h,if_pos (by omega),if_neg (by omega)]
  ·have:k=xs.length:=by omega
   subst this
   rw[he,List.drop_length];simp[h0]
theorem FD {α:Type} (xs:List α) (f:α->Int->Option Int) (tot:α->Nat) (L:Nat->Int->Int->Option (Int⊕Int)) (g:Option Int) {left:Int} (h0:0<=left) (h1:left<=1099511627775)
  (hf: ∀a∈xs,∀s,0<=s->s<=1099511627775->f a s=some (szR (tot a) s)) (hx:xs.length<=9223372036854775807)
  (hs: ∀n s (k:Nat) (hk:k<xs.length),k<4611686018427387904->L (n+1) s k=(f xs[k] s).bind λq=>if q<0 then some (.inr (-1))else L n q ((k+1:Nat):Int))
  (he: ∀n s,L (n+1) s (xs.length:Nat)=some (.inl s))
  (hg:g=if decide (w64 (left-(xs.length:Int))<0)then some (-1)else(L Aa (w64 (left-(xs.length:Int))) 0).bind λs1=>match s1 with| .inl s2=>some s2| .inr s3=>some s3):
  g=some (szR (xs.length+(xs.map tot).sum) left):=by
 rw[hg,AQ (by omega) (by omega)]
 by_cases h:(xs.length:Int)<=left
 ·rw[if_neg (by simp;omega)]
  have:=szX xs f tot L hf (λn s k hk=>hs n s k hk (by omega)) he Aa 0 (left-xs.length) (by omega) (by unfold Aa;omega) (by omega) (by omega)
  rw[show((0:Nat):Int)=0 from rfl,List.drop_zero]at this
  rw[this]
  unfold szR
  by_cases h2:(((xs.map tot).sum:Nat):Int)<=left-xs.length
  ·rw[if_pos h2,if_pos (by omega)]
   simp only[Option.bind_some,Option.some.injEq];omega
  ·rw[if_neg h2,if_neg (by omega)];rfl
 ·rw[if_pos (by simp;omega)]
  unfold szR
  rw[if_neg (by omega)]
theorem Ej {α:Type} (tot:α->Nat): ∀ {l:List α} {a:α},a∈l->tot a<=(l.map tot).sum
 |x::l,a,h=>by
  rw[List.map_cons,List.sum_cons]
  rcases List.mem_cons.1 h with rfl|h
  ·omega
  ·have:=Ej tot h;omega
theorem toX {α:Type} (xs:List α) (f:α->Option α) (d:α) (L:Nat->List α->Int->Option (List α)) (g:Option (List α)) (hx:xs.length<=1048576) (hf: ∀a∈xs,f a=some a)
  (hs: ∀n (out:List α) (k:Nat) (hk:k<xs.length),out.length=xs.length->k<4611686018427387904->L (n+1) out k=(f xs[k]).bind λr=>L n (out.set k r) ((k+1:Nat):Int))
  (he: ∀n out,out.length=xs.length->L (n+1) out (xs.length:Nat)=some out)
  (hg:g=if 0<=(xs.length:Int)/\(xs.length:Int)<=(xs.length:Int)/\(xs.length:Int)<=lim then(L Aa (List.replicate (Int.toNat (xs.length:Int)) d) 0).bind some else none):g=some xs:=by
 rw[hg,if_pos (by unfold lim;omega)]
 have key:=Dt xs L id some (λn out k hk hl=>by rw[hs n out k hk hl (by omega),hf _ (List.getElem_mem hk)];rfl) he (n:=Aa) (out:=List.replicate (Int.toNat (xs.length:Int)) d) (by simp) (by unfold Aa;omega)
 rw[key];simp
theorem Fv {α:Type} [DecidableEq α] (a b:List α) (f:α->α->Option Bool) (L:Nat->Int->Option (Unit⊕Bool)) (g:Option Bool) (hx:a.length<=1048576) (hf: ∀x∈a,∀y,f x y=some (decide (x=y)))
  (hs: ∀n (k:Nat) (h1:k<a.length) (h2:k<b.length),k<4611686018427387904->L (n+1) k=(f a[k] b[k]).bind λr=>if !r then some (.inr false)else L n ((k+1:Nat):Int))
  (he: ∀n,L (n+1) (a.length:Nat)=some (.inl ()))
  (hg:g=if(a.length:Int) !=(b.length:Int)then some false else(L Aa 0).bind λs1=>match s1 with| .inl _=>some true| .inr s3=>some s3):g=some (decide (a=b)):=by
 rw[hg]
 by_cases hl:a.length=b.length
 ·rw[if_neg (by simp[hl]),eqX a b hl L (λn k h1 h2=>?_) he (by unfold Aa;omega)]
  ·by_cases h:a=b<;>simp[h]
  ·rw[hs n k h1 h2 (by omega),hf _ (List.getElem_mem h1)]
   by_cases h:a[k]=b[k]<;>simp[h]
 ·rw[if_pos (by simp;omega),decide_eq_false (λe=>hl (by rw[e]))]
abbrev Con:=List Int×Int×List (List Int)
abbrev Net:=Int×Int×List Con
def EH (a:List (List Int)):Prop:=a.length<=1048576/\ ∀r∈a,r.length<=1048576
def DJ (c:Con):Prop:=c.1.length<=1048576/\EH c.2.2
def Di (a:Net):Prop:=a.2.2.length<=1048576/\ ∀c∈a.2.2,DJ c
abbrev Fm:Ty:= .pair .int (.pair .int (.slice (.pair (.slice .int) (.pair .int (.slice (.slice .int))))))
def Dk (c:Con):Nat:=c.1.length+CB c.2.2
def CL (a:Net):Nat:=a.2.2.length+(a.2.2.map Dk).sum
theorem CY {c:Con} {s:Int} (h0:0<=s) (h1:s<=1099511627775) (h:c.1.length<=9223372036854775807) (h2:c.2.2.length<=9223372036854775807) (hr: ∀r∈c.2.2,r.length<=9223372036854775807):
  AY c s=some (szR (Dk c) s):=by
 unfold AY
 rw[CJ h0 (by omega) h]
 unfold szR Dk
 simp only[Option.bind_some]
 by_cases hc:(c.1.length:Int)<=s
 ·rw[if_pos hc,if_neg (by simp;omega)]
  unfold Ch
  rw[D6 (by omega) (by omega) h2 hr]
  unfold szR
  by_cases hd:(CB c.2.2:Int)<=s-c.1.length
  ·rw[if_pos hd,if_pos (by omega)]
   simp only[Option.bind_some]
   rw[if_neg (by simp;omega)]
   simp only[Option.bind_some]
   rw[if_neg (by simp;omega)]
   congr 1;omega
  ·rw[if_neg hd,if_neg (show¬((c.1.length+CB c.2.2:Nat):Int)<=s by push_cast;omega)];rfl
 ·rw[if_neg hc,if_neg (show¬((c.1.length+CB c.2.2:Nat):Int)<=s by push_cast;omega)];rfl
theorem DG {a:Net} (h:wfT Fm a):BT a 1048576=some (szR (CL a) 1048576):=by
 unfold BT
 have hc: ∀c∈a.2.2,c.1.length<=9223372036854775807/\c.2.2.length<=9223372036854775807/\ ∀r∈c.2.2,r.length<=9223372036854775807:=λc hc=>by
  have:=h.2.2.2 c hc
  exact⟨this.1.1,this.2.2.1,λr hr=>(this.2.2.2 r hr).1⟩
 have key:BS a.2.2 1048576=some (szR (CL a) 1048576):=by
  refine FD a.2.2 AY Dk (λn s i=>Ar n (a.2.2,s,i)) _ (by omega) (by omega) (λc hm s h0 h1=>CY h0 h1 (hc c hm).1 (hc c hm).2.1 (hc c hm).2.2) h.2.2.1 (λn s k hk hk4=>?_) (λn s=>?_) rfl
  ·simp only[Ar,Ac,Ad hk,Ab hk4]
   simp[hk]
  ·simp[Ar]
 rw[key]
 unfold szR
 split
 ·simp only[Option.bind_some];rw[if_neg (by simp;omega)]
 ·rfl
theorem CZ {a:Net} (h: ¬szR (CL a) 1048576<0):Di a/\CL a<=1048576:=by
 unfold szR at h
 split at h
 ·refine⟨⟨by unfold CL at*;omega,λc hc=>?_⟩,by omega⟩
  have h1:=Ej Dk hc
  have h2:Dk c<=1048576:=by unfold CL at*;omega
  unfold Dk CB at h2
  exact⟨by omega,by omega,λr hr=>by have:=EW hr;omega⟩
 ·omega
theorem C0 {c:Con} (h:DJ c):AZ c=some c:=by
 unfold AZ Ci
 rw[CK (by have:=h.1;omega)]
 dsimp only
 rw[D7 (by have:=h.2.1;omega) λr hr=>by have:=h.2.2 r hr;omega]
 rfl
theorem DH {a:Net} (h:Di a):Az a=some a:=by
 unfold Az
 have key:BU a.2.2=some a.2.2:=by
  refine toX a.2.2 AZ ([],(0,[])) (λn out i=>As n (a.2.2,out,i)) _ h.1 (λc hc=>C0 (h.2 c hc)) (λn out k hk hl hk4=>?_) (λn out hl=>?_) rfl
  ·simp only[As,Ac,Ad hk,B2,Ab hk4]
   simp[hk,hl]
  ·simp[As]
 rw[key];rfl
theorem CQ {a b:Con} (h:DJ a):AX a b=some (decide (a=b)):=by
 unfold AX Cg
 rw[CD (by have:=h.1;omega)]
 dsimp only
 rw[DZ (by have:=h.2.1;omega) λr hr=>by have:=h.2.2 r hr;omega]
 obtain⟨a1,a2,a3⟩:=a
 obtain⟨b1,b2,b3⟩:=b
 by_cases h1:a1=b1
 ·by_cases h2:a2=b2
  ·by_cases h3:a3=b3<;>simp[h1,h2,h3]
  ·simp[h1,h2]
 ·simp[h1]
theorem Ds {a b:Net} (h:Di a):Ao a b=some (decide (a=b)):=by
 unfold Ao
 have key:BQ a.2.2 b.2.2=some (decide (a.2.2=b.2.2)):=by
  refine Fv a.2.2 b.2.2 AX (λn i=>Aq n (a.2.2,b.2.2,i)) _ h.1 (λc hc y=>CQ (h.2 c hc)) (λn k h1 h2 hk4=>?_) (λn=>?_) rfl
  ·simp only[Aq,Ac,Ad h1,Ad h2,Ab hk4]
   simp[h1,h2]
  ·simp[Aq]
 rw[key]
 obtain⟨a1,a2,a3⟩:=a
 obtain⟨b1,b2,b3⟩:=b
 by_cases h1:a1=b1
 ·by_cases h2:a2=b2
  ·by_cases h3:a3=b3<;>simp[h1,h2,h3]
  ·simp[h1,h2]
 ·simp[h1]
def DO (n:Int) (r:Int×List (List Int)):Bool:=decide (1<=r.1/\r.1<=3)&&(r.2.all λt=>decide ((t.length:Int)=r.1)&&Aw n t)&&Bw r.2
def De (n:Int) (r:Int×List (List Int)) (k:Nat):Bool:=decide (((r.2.getD k []).length:Int)=r.1)&&Aw n (r.2.getD k [])&&(decide (k=0)||decide (cmpL (r.2.getD (k-1) []) (r.2.getD k [])<0))
theorem AB {α:Type} {l:List α} {k:Nat} {d:α} (h:k<l.length):l.getD k d=l[k]:=by simp[List.getD_eq_getElem?_getD,h]
theorem Dp {n ar:Int} {ts:List (List Int)}:(List.range ts.length).all (De n (ar,ts))=((ts.all λt=>decide ((t.length:Int)=ar)&&Aw n t)&&Bw ts):=by
 rw[Bool.eq_iff_iff,Bool.and_eq_true,List.all_eq_true,List.all_eq_true,DL]
 unfold De
 constructor
 ·intro h
  refine⟨λt ht=>?_,λi hi=>?_⟩
  ·obtain⟨k,hk,rfl⟩:=List.getElem_of_mem ht
   have:=h k (List.mem_range.2 hk)
   rw[AB hk]at this
   simp only[Bool.and_eq_true]at this
   rw[Bool.and_eq_true];exact this.1
  ·have:=h (i+1) (List.mem_range.2 hi)
   rw[AB hi,Nat.add_sub_cancel,AB (show i<ts.length by omega)]at this
   simp at this
   exact this.2
 ·rintro ⟨h1,h2⟩ k hk
  have hk:=List.mem_range.1 hk
  have e:=h1 _ (List.getElem_mem hk)
  rw[AB hk]
  rw[Bool.and_eq_true]at e
  rw[Bool.and_eq_true,Bool.and_eq_true]
  refine⟨e,?_⟩
  cases k with
  |zero=>simp
  |succ i=>
   have:=h2 i hk
   rw[Nat.add_sub_cancel,AB (show i<ts.length by omega)]
   simp[this]
theorem Cw {n:Int} {r:Int×List (List Int)} (h:EH r.2):BH n r=some (DO n r):=by
 obtain⟨ar,ts⟩:=r
 unfold BH DO
 by_cases h1:ar<1
 ·simp[h1,show¬1<=ar by omega]
 ·by_cases h2:ar>3
  ·simp[h1,h2,show¬ar<=3 by omega]
  ·rw[if_neg (by simpa using h1),if_neg (by simpa using h2)]
   have key:=Fw ts.length (λm (_:Unit) i=>Au m (n,(ar,ts),ts,(ts.length:Int),i)) (λ_=>()) (De n (ar,ts)) (r:=some (.inr false)) (e:=some (.inl ())) (λm k hk=>?_) (λm=>?_) (n:=Aa) (by unfold Aa;have:=h.1;simp at this;omega)
   ·rw[key,Dp]
    simp only[show(1<=ar/\ar<=3)=True by simp;omega,decide_true,Bool.true_and]
    cases (ts.all λt=>decide ((t.length:Int)=ar)&&Aw n t)&&Bw ts<;>simp
   ·have hx:=h.2 ts[k] (List.getElem_mem hk)
    have hk':=h.1
    simp only at hk'
    simp only[Au,Ac,Ad hk,Ab (show k<4611686018427387904 by omega),BP n (show ts[k].length<=1099511627775 by omega),De,AB hk]
    by_cases hl:(ts[k].length:Int)=ar
    ·cases hb:Aw n ts[k]with
     |false=>simp[hk,hl]
     |true=>
      cases k with
      |zero=>simp[hk,hl]
      |succ i=>
       have hi:i<ts.length:=by omega
       have hx2:=h.2 ts[i] (List.getElem_mem hi)
       have e:w64 (((i+1:Nat):Int)-1)=(i:Int):=by rw[AQ (by omega) (by omega)];omega
       simp only[e,Ac,Ad hi,Nat.add_sub_cancel,AB hi,Cl (show ts[i].length<=1099511627775 by omega)]
       by_cases hc:cmpL ts[i] ts[i+1]<0
       ·simp[hk,hl,hi,hc,show¬cmpL ts[i] ts[i+1]≥0 by omega];omega
       ·simp[hk,hl,hi,hc,show cmpL ts[i] ts[i+1]≥0 by omega];omega
    ·simp[hk,hl]
   ·simp[Au]
theorem CT {n:Int} {r:Int×List (List Int)} (h:EH r.2) (hn:1<=n/\n<=8):Cb n r=some (DO n r):=by
 obtain⟨ar,ts⟩:=r
 unfold Cb DO
 rw[Bj]
 by_cases h1:1<=ar/\ar<=3
 ·simp only[h1,and_self,decide_true,Option.bind_some,Bool.not_true,Bool.false_eq_true,if_false,Bool.true_and]
  obtain⟨m,rfl⟩: ∃m:Nat,ar=m:=⟨ar.toNat,by omega⟩
  rw[Cu (by omega) (by omega) (by omega)]
  simp only[Option.bind_some]
  have key:=Fy ts.length (λm' (_:Unit) i=>AC m' (n,((m:Int),ts),i)) (λ_=>()) (De n ((m:Int),ts)) (r:=some (.inr false)) (e:=some (.inl ())) (λm' k hk hb0=>?_) (λm' _=>?_) (n:=Aa) (by unfold Aa;have:=h.1;simp at this;omega)
  ·by_cases hc:(ts.length:Int)>n^m
   ·rw[if_pos (by simpa using hc)]
    by_cases hv:((ts.all λt=>decide ((t.length:Int)=m)&&Aw n t)&&Bw ts)=true
    ·rw[Bool.and_eq_true,List.all_eq_true]at hv
     rcases Dn (k:=m) hv.2 λt ht=>by have:=hv.1 t ht;simp at this;exact⟨by omega,this.2⟩with h2|h2
     ·omega
     ·subst h2
      have:=D4 (n:=n) (by omega) (by omega) (k:=m) (by omega)
      simp at hc;omega
    ·simp only[Bool.not_eq_true]at hv;rw[hv]
   ·rw[if_neg (by simpa using hc),key,Dp]
    cases (ts.all λt=>decide ((t.length:Int)=m)&&Aw n t)&&Bw ts<;>simp
  ·have hx:=h.2 ts[k] (List.getElem_mem hk)
   have hk':=h.1
   simp only at hk'
   simp only[AC,Ac,Ad hk,Ab (show k<4611686018427387904 by omega),CX (n:=n) _ (by omega) (by omega) (show ts[k].length<=1099511627775 by omega),De,AB hk]
   by_cases hl:(ts[k].length:Int)=m
   ·cases hb:Aw n ts[k]with
    |false=>simp[hk,hl]
    |true=>
     cases k with
     |zero=>simp[hk,hl]
     |succ i=>
      have hi:i<ts.length:=by omega
      have hx2:=h.2 ts[i] (List.getElem_mem hi)
      have e:w64 (((i+1:Nat):Int)-1)=(i:Int):=by rw[AQ (by omega) (by omega)];omega
      simp only[e,Ac,Ad hi,Nat.add_sub_cancel,AB hi]
      have hb1:=hb0 i (by omega)
      simp only[De,AB hi,Bool.and_eq_true,decide_eq_true_eq]at hb1
      rw[Db (s:=ts[i]) (t:=ts[i+1]) (by omega) (by have:=hb1.1.1;omega)]
      by_cases hc:cmpL ts[i] ts[i+1]<0
      ·simp[hk,hl,hi,hc];omega
      ·simp[hk,hl,hi,hc];omega
   ·simp[hk,hl]
  ·simp[AC]
 ·have: ¬(1<=ar/\ar<=3):=h1
  simp[this]
end T
open Go Go.Va
namespace T
def CC (v n:Int) (c:Con):Bool:=DO n (c.2.1,c.2.2)&&decide ((c.1.length:Int)=c.2.1)&&Aw v c.1
def DA (a:Net):Bool:=decide (0<=a.1/\a.1<=9)&&decide (1<=a.2.1/\a.2.1<=4)&&decide (a.2.2.length<=40)&&a.2.2.all (CC a.1 a.2.1)
theorem Cm {v n:Int} {c:Con} (h:DJ c):Bp v n c=some (CC v n c):=by
 unfold Bp CC
 rw[Cw (r:=(c.2.1,c.2.2)) h.2]
 cases DO n (c.2.1,c.2.2)with
 |false=>simp
 |true=>
  by_cases hl:(c.1.length:Int)=c.2.1
  ·simp[hl,BP v (show c.1.length<=1099511627775 by have:=h.1;omega)]
  ·simp[hl]
theorem Dj {v n:Int} {c:Con} (h:DJ c) (hv:0<=v/\v<=9) (hn:1<=n/\n<=8):Cy v n c=some (CC v n c):=by
 unfold Cy CC
 rw[CT (r:=(c.2.1,c.2.2)) h.2 hn]
 cases DO n (c.2.1,c.2.2)with
 |false=>simp
 |true=>
  by_cases hl:(c.1.length:Int)=c.2.1
  ·simp[hl,BX (l:=c.1) (n:=v) (by omega) (by omega) (show c.1.length<=1099511627775 by have:=h.1;omega)]
  ·simp[hl]
theorem Cz {a:Net} (h:Di a):BL a=some (DA a):=by
 obtain⟨v,n,cs⟩:=a
 unfold BL DA
 by_cases h1:v<0
 ·simp[h1,show¬0<=v by omega]
 ·by_cases h2:v>9
  ·simp[h1,h2,show¬v<=9 by omega]
  ·rw[if_neg (by simpa using h1),if_neg (by simpa using h2)]
   unfold BI
   by_cases h3:1<=n/\n<=4
   ·by_cases h4:cs.length>40
    ·simp[h3,show¬cs.length<=40 by omega];omega
    ·have key:=Et cs (λm i=>AG m ((v,(n,cs)),cs,(cs.length:Int),i)) (CC v n) (.inr false) (.inl ()) ?_ ?_ (n:=Aa) (by unfold Aa;omega)
     ·simp only[h3,ge_iff_le,decide_true,if_true,Option.bind_some,Bool.not_true,Bool.false_eq_true,if_false]
      rw[if_neg (by simp;omega),key]
      cases cs.all (CC v n)<;>simp<;>omega
     ·intro m k hk
      simp only[AG,Ac,Ad hk,Ab (show k<4611686018427387904 by omega),Cm (c:=cs[k]) (h.2 _ (List.getElem_mem hk))]
      cases hb:CC v n cs[k]<;>simp[hk,hb]
     ·intro m
      simp[AG]
   ·by_cases h5:n≥1
    ·simp[h5,show¬n<=4 by omega]
    ·simp[h5,show¬1<=n by omega]
theorem CV {a:Net} (h:Di a):Cd a=some (DA a):=by
 obtain⟨v,n,cs⟩:=a
 unfold Cd DA
 rw[Bj,Bj]
 by_cases h1:0<=v/\v<=9
 ·by_cases h3:1<=n/\n<=4
  ·by_cases h4:cs.length>40
   ·simp[h1,h3,show¬cs.length<=40 by omega];omega
   ·have key:=Et cs (λm i=>AW m ((v,(n,cs)),i)) (CC v n) (.inr false) (.inl ()) ?_ ?_ (n:=Aa) (by unfold Aa;omega)
    ·simp only[h1,h3,and_self,decide_true,Option.bind_some,Bool.not_true,Bool.false_eq_true,if_false]
     rw[if_neg (by simp;omega),key]
     cases cs.all (CC v n)<;>simp<;>omega
    ·intro m k hk
     simp only[AW,Ac,Ad hk,Ab (show k<4611686018427387904 by omega),Dj (c:=cs[k]) (h.2 _ (List.getElem_mem hk)) h1 (show 1<=n/\n<=8 by omega)]
     cases hb:CC v n cs[k]<;>simp[hk,hb]
    ·intro m
     simp[AW]
  ·simp[h1,h3]
 ·simp[h1]
structure ConOk (v n:Int) (c:Con):Prop where
 ar:1<=c.2.1/\c.2.1<=3
 sl:(c.1.length:Int)=c.2.1
 sv: ∀(i:Nat) (hi:i<c.1.length),0<=c.1[i]/\c.1[i]<v
 tl: ∀t∈c.2.2,t.length=c.1.length
 tv: ∀t∈c.2.2,∀(i:Nat) (hi:i<t.length),0<=t[i]/\t[i]<n
 inc:Bw c.2.2=true
 many:c.2.2.length<=64
structure NetOk (a:Net):Prop where
 hv:0<=a.1/\a.1<=9
 hn:1<=a.2.1/\a.2.1<=4
 hc:a.2.2.length<=40
 con: ∀c∈a.2.2,ConOk a.1 a.2.1 c
theorem E9 {v n:Int} {c:Con} (hn:1<=n/\n<=4) (h:CC v n c=true):ConOk v n c:=by
 unfold CC DO at h
 simp only[Bool.and_eq_true,decide_eq_true_eq,List.all_eq_true]at h
 obtain⟨⟨⟨⟨h1,h2⟩,h3⟩,h4⟩,h5⟩:=h
 refine⟨h1,h4,λi hi=>C3 h5 i hi,λt ht=>by have:=(h2 t ht).1;omega,λt ht i hi=>C3 (h2 t ht).2 i hi,h3,?_⟩
 rcases Dn (n:=n) (k:=c.2.1.toNat) h3 λt ht=>⟨by have:=(h2 t ht).1;omega,(h2 t ht).2⟩with h6|h6
 ·have:n^c.2.1.toNat<=64:=by
   have h7:c.2.1.toNat=1∨c.2.1.toNat=2∨c.2.1.toNat=3:=by omega
   have h8:n=1∨n=2∨n=3∨n=4:=by omega
   rcases h7 with h7|h7|h7<;>rcases h8 with h8|h8|h8|h8<;>rw[h7,h8]<;>decide
  omega
 ·rw[h6];simp
theorem ED {a:Net} (h:DA a=true):NetOk a:=by
 unfold DA at h
 simp only[Bool.and_eq_true,decide_eq_true_eq,List.all_eq_true]at h
 obtain⟨⟨⟨h1,h2⟩,h3⟩,h4⟩:=h
 exact⟨h1,h2,h3,λc hc=>E9 h2 (h4 c hc)⟩
end T
open Go Go.Va
namespace T
theorem EP (a b:Int):(a==b)=decide (a=b):=by by_cases h:a=b<;>simp[h]
theorem EQ (a b:Int):(a !=b)=!decide (a=b):=by by_cases h:a=b<;>simp[h]
section
variable {v n up:Int} {c:Con} {vals:List Int}
theorem Ct {l:List Int} (h:l.length<=1099511627775):Ce l=some l:=by
 unfold Ce
 rw[if_pos (by unfold lim;simp;omega)];simp
end
end T
open Go Go.Va
namespace T
abbrev Dom:=List (List Bool)
def mk (bs:List Bool):List Int:=((List.range bs.length).filter λi=>bs.getD i false).map λi:Nat=>(i:Int)
def d2 (d:Dom) (v x:Nat):Bool:=(d.getD v []).getD x false
theorem Ag {α:Type} {l:List α} {i j:Nat} {y d:α}:(l.set i y).getD j d=if i=j/\j<l.length then y else l.getD j d:=by
 simp only[List.getD_eq_getElem?_getD,List.getElem?_set]
 by_cases h:i=j
 ·subst h
  by_cases h2:i<l.length
  ·simp[h2]
  ·simp[h2]
 ·simp[h]
end T
open Go Go.Va
namespace T
abbrev ASt:=Dom×List (Int×Int×Int)
section
variable {a:Net} {K:Nat} {c:Con}
end
end T
open Go Go.Va
namespace T
def mkL {α:Type} (f:α->Int->α×Int):List α->Int->List α×Int
 | [],k=>([],k)
 |x::l,k=>((f x k).1::(mkL f l (f x k).2).1,(mkL f l (f x k).2).2)
theorem DN {α:Type} (f:α->Int->α×Int): ∀(l:List α) (x:α) (k:Int),mkL f (l++ [x]) k=((mkL f l k).1++ [(f x (mkL f l k).2).1],(f x (mkL f l k).2).2)
 | [],x,k=>by simp[mkL]
 |y::l,x,k=>by
  simp only[List.cons_append,mkL]
  rw[DN f l x]
theorem BA {α:Type} (f:α->Int->α×Int): ∀(l:List α) (k:Int),(mkL f l k).1.length=l.length
 | [],_=>rfl
 |x::l,k=>by simp[mkL,BA f l]
theorem B9 {α:Type} {f:α->Int->α×Int} {w:α->Nat}: ∀(l:List α) (k:Int),(∀x∈l,∀k,(f x k).2=k+w x)->(mkL f l k).2=k+((l.map w).sum:Nat)
 | [],k,_=>by simp[mkL]
 |x::l,k,h=>by
  simp only[mkL,List.map_cons,List.sum_cons]
  rw[B9 l _ λy hy=>h y (List.mem_cons_of_mem _ hy),h x (by simp)];push_cast;omega
theorem EB {α β:Type} (N:Nat) (L:Nat->List α->Int->Int->Option β) (f:α->Int->α×Int) (w:α->Nat) (B:Int) (fin:List α->Int->Option β) (xs:List α) (k0:Int) (hN:xs.length=N) (hw: ∀x∈xs,∀k,(f x k).2=k+w x)
  (h0:0<=k0) (hB:k0+((xs.map w).sum:Nat)<=B)
  (hs: ∀n (a:List α) (k:Int) (i:Nat) (hi:i<N) (hl:a.length=N),a[i]'(by omega)∈xs->0<=k->k+w (a[i]'(by omega))<=B->L (n+1) a k i=L n (a.set i (f (a[i]'(by omega)) k).1) (f (a[i]'(by omega)) k).2 ((i+1:Nat):Int))
  (he: ∀n a k,a.length=N->L (n+1) a k (N:Nat)=fin a k) {n:Nat} (hn:N<n):L n xs k0 0=fin (mkL f xs k0).1 (mkL f xs k0).2:=by
 have far: ∀i,i<=N->(mkL f (xs.take i) k0).2=k0+(((xs.take i).map w).sum:Nat):=λi _=>B9 _ _ λx hx=>hw x (List.mem_of_mem_take hx)
 have:=Du N (λn (s:List α×Int) i=>L n s.1 s.2 i) (λi=>((mkL f (xs.take i) k0).1++xs.drop i,(mkL f (xs.take i) k0).2)) (r:=fin (mkL f xs k0).1 (mkL f xs k0).2) (λn i hi=>?_) (λn=>?_) hn
 ·simpa[mkL]using this
 ·have hix:i<xs.length:=by omega
  have hlen:(mkL f (xs.take i) k0).1.length=i:=by rw[BA];simp;omega
  have hl2:((mkL f (xs.take i) k0).1++xs.drop i).length=N:=by simp[hlen];omega
  have hget:((mkL f (xs.take i) k0).1++xs.drop i)[i]'(by omega)=xs[i]:=by
   rw[List.getElem_append_right (by omega)];simp[hlen]
  have hsum:(((xs.take i).map w).sum:Nat)+w xs[i]<=(xs.map w).sum:=by
   have h1:xs=xs.take i++xs[i]::xs.drop (i+1):=by rw[←List.drop_eq_getElem_cons hix,List.take_append_drop]
   have h2:(xs.map w).sum=((xs.take i).map w).sum+(w xs[i]+((xs.drop (i+1)).map w).sum):=by
    conv=>lhs;rw[h1]
    rw[List.map_append,List.sum_append,List.map_cons,List.sum_cons]
   omega
  have hf:=far i (by omega)
  dsimp only
  rw[hs n _ _ i hi hl2 (by rw[hget];exact List.getElem_mem hix) (by omega) (by rw[hget,hf];omega),hget,List.take_succ_eq_append_getElem hix,DN]
  congr 1
  rw[List.set_append_right _ _ (by omega),hlen,Nat.sub_self,List.drop_eq_getElem_cons hix,List.set_cons_zero,List.append_assoc];rfl
 ·dsimp only
  rw[List.take_of_length_le (by omega),List.drop_of_length_le (by omega),List.append_nil]
  exact he n _ _ (by rw[BA];exact hN)
theorem Ea {α:Type} (f:α->Int->α×Int) (h:α->Int->Option Int) (w:α->Nat) (B:Int): ∀(xs:List α) (k0:Int) (L:Nat->Int->Int->Option (Int⊕Int)) (j:Nat),(∀x∈xs,∀k,(f x k).2=k+w x)->0<=k0->k0+((xs.map w).sum:Nat)<=B->
  (∀x∈xs,∀k,0<=k->k+w x<=B->h (f x k).1 k=some (f x k).2)->
  (∀n k (i:Nat) (hi:i<xs.length),0<=k->k+w xs[i]<=B->L (n+1) k ((j+i:Nat):Int)=(h ((mkL f xs k0).1[i]'(by rw[BA];exact hi)) k).bind λq=>if q<0 then some (.inr (-1))else L n q ((j+i+1:Nat):Int))->
  (∀n k,L (n+1) k ((j+xs.length:Nat):Int)=some (.inl k))-> ∀n,xs.length<n->L n k0 (j:Int)=some (.inl (mkL f xs k0).2)
 | [],k0,L,j,_,_,_,_,_,he,n,hn=>by
  obtain⟨n,rfl⟩: ∃m,n=m+1:=⟨n-1,by simp at hn;omega⟩
  have:=he n k0
  simpa[mkL]using this
 |x::xs,k0,L,j,hw,h0,hB,hh,hs,he,n,hn=>by
  obtain⟨n,rfl⟩: ∃m,n=m+1:=⟨n-1,by simp at hn;omega⟩
  rw[List.map_cons,List.sum_cons]at hB
  have hx:=hw x (by simp) k0
  have h1:=hs n k0 0 (by simp) h0 (by simp only[List.getElem_cons_zero];omega)
  simp only[Nat.add_zero,mkL,List.getElem_cons_zero]at h1
  rw[h1,hh x (by simp) k0 h0 (by omega)]
  simp only[Option.bind_some]
  rw[if_neg (by omega)]
  have:=Ea f h w B xs (f x k0).2 L (j+1) (λy hy=>hw y (List.mem_cons_of_mem _ hy)) (by omega) (by rw[hx];omega) (λy hy=>hh y (List.mem_cons_of_mem _ hy))
   (λn k i hi hk0 hkB=>by
    have:=hs n k (i+1) (by simpa using hi) hk0 (by simpa using hkB)
    simp only[mkL,List.getElem_cons_succ]at this
    rw[show j+1+i=j+(i+1) by omega];exact this)
   (λn k=>by have:=he n k;rw[List.length_cons]at this;rw[show j+1+xs.length=j+(xs.length+1) by omega];exact this) n (by simp at hn;omega)
  exact this
abbrev BM:Int:=1152921504606846976
def En (_:Int) (k:Int):Int×Int:=(k,k+1)
def Bk (l:List Int) (k:Int):List Int×Int:=mkL En l k
def BV (l:List (List Int)) (k:Int):List (List Int)×Int:=mkL Bk l k
theorem C2 {α:Type}: ∀(l:List α),(l.map λ_=>1).sum=l.length
 | []=>rfl
 |_::l=>by rw[List.map_cons,List.sum_cons,C2 l,List.length_cons];omega
theorem By (l:List Int) (k:Int):(Bk l k).2=k+(l.length:Nat):=by
 unfold Bk
 rw[B9 (w:=λ_=>1) l k λ_ _ _=>rfl,C2]
theorem D1 (l:List (List Int)) (k:Int):(BV l k).2=k+((l.map List.length).sum:Nat):=by
 unfold BV
 rw[B9 (w:=List.length) l k λx _ k=>By x k]
theorem Co {l:List Int} {k:Int} (hl:l.length<=1048576) (h0:0<=k) (hB:k+l.length<=BM):Bl l k=some (Bk l k):=by
 unfold Bl
 have:=EB l.length (λn a k i=>AM n (a,k,i)) En (λ_=>1) BM (λa k=>some (a,k)) l k rfl (λ_ _ _=>rfl) h0 (by rw[C2];exact hB) (λn a k i hi hl' _ hk0 hkB=>?_) (λn a k hl'=>?_) (n:=Aa) (by unfold Aa;omega)
 ·rw[this];rfl
 ·have hk1:w64 (k+1)=k+1:=AQ (by omega) (by unfold BM at hkB;omega)
  simp only[AM,Ac,B2,Ab (show i<4611686018427387904 by omega),hk1,En]
  simp[hl',hi]
 ·simp[AM,hl']
theorem CN {l:List Int} {k:Int} (hl:l.length<=1048576) (h0:0<=k) (hB:k+l.length<=BM):AJ (Bk l k).1 k=some (Bk l k).2:=by
 unfold AJ
 have hlen:(Bk l k).1.length=l.length:=BA _ _ _
 have:=Ea En (λx k=>if x=k then some (k+1)else some (-1)) (λ_=>1) BM l k (λn k' i=>AL n ((Bk l k).1,k',i)) 0 (λ_ _ _=>rfl) h0 (by rw[C2];exact hB) (λx _ k' _ _=>by simp[En])
  (λn k' i hi hk0 hkB=>by
   have hi':i<(Bk l k).1.length:=by omega
   have hk1:w64 (k'+1)=k'+1:=AQ (by omega) (by unfold BM at hkB;omega)
   rw[Nat.zero_add]
   simp only[AL,Ac,Ad hi',Ab (show i<4611686018427387904 by omega),hk1]
   have e:(mkL En l k).1[i]'(by rw[BA];exact hi)=(Bk l k).1[i]:=rfl
   rw[e]
   by_cases h:(Bk l k).1[i]=k'
   ·simp[hi',hi,h,hlen,show¬k'+1<0 by omega]
   ·simp[hi',hi,h,hlen])
  (λn k'=>by rw[Nat.zero_add];simp[AL,hlen]) Aa (by unfold Aa;omega)
 rw[show((0:Nat):Int)=0 from rfl]at this
 rw[this];rfl
theorem Dz {l:List (List Int)} {k:Int} (hl:l.length<=1048576) (hr: ∀r∈l,r.length<=1048576) (h0:0<=k) (hB:k+((l.map List.length).sum:Nat)<=BM):BR l k=some (BV l k):=by
 unfold BR
 have:=EB l.length (λn a k i=>AI n (a,k,i)) Bk List.length BM (λa k=>some (a,k)) l k rfl (λx _ k=>By x k) h0 hB (λn a k i hi hl' hm hk0 hkB=>?_) (λn a k hl'=>?_) (n:=Aa) (by unfold Aa;omega)
 ·rw[this];rfl
 ·have hia:i<a.length:=by omega
  simp only[AI,Ac,B2,Ad hia,Ab (show i<4611686018427387904 by omega),Co (hr _ hm) hk0 hkB,Option.bind_some]
  simp[hl',hi]
 ·simp[AI,hl']
theorem Dv {l:List (List Int)} {k:Int} (hl:l.length<=1048576) (hr: ∀r∈l,r.length<=1048576) (h0:0<=k) (hB:k+((l.map List.length).sum:Nat)<=BM):Bb (BV l k).1 k=some (BV l k).2:=by
 unfold Bb
 have hlen:(BV l k).1.length=l.length:=BA _ _ _
 have:=Ea Bk AJ List.length BM l k (λn k' i=>AH n ((BV l k).1,k',i)) 0 (λx _ k=>By x k) h0 hB (λx hx k' hk0 hkB=>CN (hr x hx) hk0 hkB)
  (λn k' i hi hk0 hkB=>by
   have hi':i<(BV l k).1.length:=by omega
   rw[Nat.zero_add]
   simp only[AH,Ac,Ad hi',Ab (show i<4611686018427387904 by omega)]
   have e:(mkL Bk l k).1[i]'(by rw[BA];exact hi)=(BV l k).1[i]:=rfl
   rw[e]
   simp[hlen,hi])
  (λn k'=>by rw[Nat.zero_add];simp[AH,hlen]) Aa (by unfold Aa;omega)
 rw[show((0:Nat):Int)=0 from rfl]at this
 rw[this];rfl
def wC (c:Con):Nat:=c.1.length+1+(c.2.2.map List.length).sum
def Cj (c:Con) (k:Int):Con×Int:=
 (((Bk c.1 k).1,(Bk c.1 k).2,(BV c.2.2 ((Bk c.1 k).2+1)).1),(BV c.2.2 ((Bk c.1 k).2+1)).2)
theorem Cn (c:Con) (k:Int):(Cj c k).2=k+wC c:=by
 unfold Cj wC;dsimp only
 rw[D1,By];push_cast;omega
theorem BW {l:List Con} {k:Int} (hl:l.length<=1048576) (hr: ∀c∈l,DJ c) (h0:0<=k) (hB:k+((l.map wC).sum:Nat)<=BM):Bc l k=some (mkL Cj l k):=by
 unfold Bc
 have:=EB l.length (λn a k i=>Am n (a,k,i)) Cj wC BM (λa k=>some (a,k)) l k rfl (λx _ k=>Cn x k) h0 hB (λn a k i hi hl' hm hk0 hkB=>?_) (λn a k hl'=>?_) (n:=Aa) (by unfold Aa;omega)
 ·rw[this];rfl
 ·have hia:i<a.length:=by omega
  have hc:=hr _ hm
  have hkB':k+(a[i].1.length:Int)+1+((a[i].2.2.map List.length).sum:Nat)<=BM:=by unfold wC at hkB;push_cast at hkB;omega
  have e1:=By a[i].1 k
  have hk1:w64 ((Bk a[i].1 k).2+1)=(Bk a[i].1 k).2+1:=AQ (by omega) (by unfold BM at hkB';omega)
  have hia1: ∀y,i<(a.set i y).length:=λy=>by simpa using hia
  simp only[Am,Ac,B2,Ad hia,Ab (show i<4611686018427387904 by omega),Co hc.1 hk0 (show k+(a[i].1.length:Int)<=BM by omega),Option.bind_some,Ad (hia1 _),List.getElem_set_self,List.set_set,hk1,
   Dz hc.2.1 hc.2.2 (show 0<=(Bk a[i].1 k).2+1 by omega) (show(Bk a[i].1 k).2+1+((a[i].2.2.map List.length).sum:Nat)<=BM by omega)]
  simp[hl',hi,Cj]
 ·simp[Am,hl']
theorem Fe {a:Net}:(a.2.2.map wC).sum<=2*CL a:=by
 unfold CL
 have: ∀l:List Con,(l.map wC).sum<=l.length+(l.map Dk).sum:=by
  intro l
  induction l with
  |nil=>simp
  |cons c l ih=>
   simp only[List.map_cons,List.sum_cons,List.length_cons]
   have:wC c<=1+Dk c:=by unfold wC Dk CB;omega
   omega
 have:=this a.2.2;omega
theorem C8 {a:Net} (h:Di a) (ht:CL a<=1048576): ∃b k,An a 1=some (b,k)/\0<=k/\k<=2097153:=by
 unfold An
 have h1:= @Fe a
 rw[BW h.1 h.2 (by omega) (by unfold BM;omega)]
 refine⟨_,_,rfl,?_,?_⟩
 ·rw[B9 (w:=wC) _ _ λc _ k=>Cn c k];omega
 ·rw[B9 (w:=wC) _ _ λc _ k=>Cn c k];omega
end T
set_option linter.unusedVariables false
open Go Go.Va
namespace T
def CF (a:Int×(List Int)) (left:Int):Option (Int):=
 (AO a.2 left).bind λr1=>
 if decide (r1<0)then
 some (-1)
 else
 some r1
def Bx (a:Int×(List Int)):Option ((Int×(List Int))):=
 (BG a.2).bind λr1=>
 some (a.1,r1)
def Bu:Nat->(Int×(Int×(List Int))×Int)->Option ((Unit)⊕(Bool))
 |0,_=>none
 |n+1,(n_,op,i)=>
 if decide (i<(op.2.length:Int))then
 if inb i op.2 then
 (Bn (gd op.2 i 0) 0 (w64 (n_-1))).bind λr3=>
 if !r3 then
 some (.inr false)
 else
 Bu n (n_,(op.1,op.2),w64 (i+1))
 else none
 else
 some (.inl ())
def CI (n_:Int) (op:Int×(List Int)):Option (Bool):=
 (Bn op.1 0 3).bind λr1=>
  if !r1 then
   some false
  else
   (BY n_ op.1).bind λr2=>
    if(op.2.length:Int) !=r2 then
     some false
    else
     (Bu Aa (n_,(op.1,op.2),0)).bind λs3=>
      match s3 with
      | .inl s4=>
       some true
      | .inr s5=>
       some s5
def CE (f:Int×(List Int)) (n_:Int):Option (Bool):=
 if decide (f.1≥0)then
 if decide (f.1<=3)then
 (B5 n_ f.1).bind λr1=>
 if(f.2.length:Int)==r1 then
 (BD f.2 n_).bind λr2=>
 some r2
 else
 some false
 else
 some false
 else
 some false
def Cr (a:Int×(List Int)) (b:Int×(List Int)):Option (Bool):=
 if a.1 !=b.1 then
 some false
 else
 (BF a.2 b.2).bind λr1=>
 if !r1 then
 some false
 else
 some true
def B0 (a:Int×(List Int)) (k:Int):Option ((Unit×(List Int))×Int):=
 (Bl a.2 k).bind λr1=>
 some (((),r1.1),r1.2)
end T
open Go Go.Va
namespace T
abbrev Opn:=Int×List Int
def opB (n:Int) (f:Opn):Bool:=decide (0<=f.1/\f.1<=3)&&decide ((f.2.length:Int)=n^f.1.toNat)&&Aw n f.2
theorem Dy {n:Int} (hn:0<=n/\n<=8) {f:Opn} (h:f.2.length<=1048576):CE f n=some (opB n f):=by
 obtain⟨ar,l⟩:=f
 unfold CE opB
 by_cases h0:0<=ar
 ·by_cases h1:ar<=3
  ·obtain⟨m,rfl⟩: ∃m:Nat,ar=m:=⟨ar.toNat,by omega⟩
   have hm:B5 n (m:Int)=some (n^m):=Dg hn.1 hn.2 (by omega)
   simp only[ge_iff_le,h0,h1,decide_true,if_true,hm,Option.bind_some,BP n (show l.length<=1099511627775 by simp at h;omega),Int.toNat_natCast,and_self,Bool.true_and,EP]
   by_cases hl:(l.length:Int)=n^m<;>simp[hl]
  ·simp[h0,h1]
 ·simp[h0]
theorem DD {n:Int} (hn:0<=n/\n<=8) {f:Opn} (h:f.2.length<=1048576):CI n f=some (opB n f):=by
 obtain⟨ar,l⟩:=f
 unfold CI opB
 rw[Bj]
 by_cases h0:0<=ar/\ar<=3
 ·obtain⟨m,rfl⟩: ∃m:Nat,ar=m:=⟨ar.toNat,by omega⟩
  have hm:BY n (m:Int)=some (n^m):=Cu hn.1 hn.2 (by omega)
  have hw:w64 (n-1)=n-1:=AQ (by omega) (by omega)
  have key:=Et l (λk i=>Bu k (n,((m:Int),l),i)) (λx=>decide (0<=x/\x<n)) (.inr false) (.inl ()) ?_ ?_ (n:=Aa) (by unfold Aa;simp at h;omega)
  ·simp only[h0,and_self,decide_true,Option.bind_some,Bool.not_true,Bool.false_eq_true,if_false,hm,key,Int.toNat_natCast,Bool.true_and,EQ]
   by_cases hl:(l.length:Int)=n^m
   ·have:Aw n l=l.all λx=>decide (0<=x/\x<n):=rfl
    rw[this]
    cases l.all (λx=>decide (0<=x/\x<n))<;>simp[hl]
   ·simp[hl]
  ·intro k i hi
   simp only at h
   simp only[Bu,Ac,Ad hi,Bj,hw,Option.bind_some,Ab (show i<4611686018427387904 by omega)]
   by_cases hx:0<=l[i]/\l[i]<n
   ·simp[hi,hx,show l[i]<=n-1 by omega]
   ·have: ¬(0<=l[i]/\l[i]<=n-1):=by omega
    simp[hi,hx,this]
  ·intro k;simp[Bu]
 ·simp[h0]
section
variable {n:Int} {f:Opn}
variable {a:Net}
theorem E0 {s:Int} (h0:0<=s) (h1:s<=4611686018427387904) (h:f.2.length<=9223372036854775807):CF f s=some (szR f.2.length s):=by
 unfold CF
 rw[CJ h0 h1 h]
 unfold szR
 split
 ·simp only[Option.bind_some];rw[if_neg (by simp;omega)]
 ·rfl
theorem E1 (h:f.2.length<=1048576):Bx f=some f:=by
 unfold Bx;rw[CK (by omega)];rfl
theorem EV {g:Opn} (h:f.2.length<=1048576):Cr f g=some (decide (f=g)):=by
 unfold Cr
 rw[CD (by omega)]
 obtain⟨f1,f2⟩:=f
 obtain⟨g1,g2⟩:=g
 by_cases h1:f1=g1
 ·by_cases h2:f2=g2<;>simp[h1,h2]
 ·simp[h1]
theorem Eo {k:Int} (h:f.2.length<=1048576) (h0:0<=k) (hB:k<=1000000000): ∃b k',B0 f k=some (b,k')/\0<=k':=by
 unfold B0
 rw[Co h h0 (by unfold BM;omega)]
 exact⟨_,_,rfl,by rw[By];omega⟩
end
end T
set_option linter.unusedVariables false
open Go Go.Va
namespace T
def AR:Nat->((List Int)×(List Int)×(List Int)×Int×Int)->Option ((List Int))
 |0,_=>none
 |n+1,(g,h,t11,t12,t13)=>
 if decide (t13<t12)then
 if inb t13 t11 then
 if inb (gd t11 t13 0) g then
 if inb t13 h then
 AR n (g,stt h t13 (gd g (gd t11 t13 0) 0),t11,t12,w64 (t13+1))
 else none
 else none
 else none
 else
 some h
def BK (f:List Int) (g:List Int):Option ((List Int)):=
 if 0<=(f.length:Int)/\(f.length:Int)<=(f.length:Int)/\(f.length:Int)<=lim then
 (AR Aa (g,List.replicate (Int.toNat (f.length:Int)) (0:Int),f,(f.length:Int),0)).bind λs1=>
 some s1
 else none
def B3:Nat->((List Int)×(List Int)×Int×Int)->Option ((Unit)⊕(Bool))
 |0,_=>none
 |n+1,(b,t12,t13,t14)=>
 if decide (t14<t13)then
 if inb t14 t12 then
 if inb t14 b then
 if(gd b t14 0) !=(gd t12 t14 0)then
 some (.inr false)
 else
 B3 n (b,t12,t13,w64 (t14+1))
 else none
 else none
 else
 some (.inl ())
def EM (a:List Int) (b:List Int):Option (Bool):=
 if(a.length:Int) !=(b.length:Int)then
  some false
 else
  (B3 Aa (b,a,(a.length:Int),0)).bind λs1=>
   match s1 with
   | .inl s2=>
    some true
   | .inr s3=>
    some s3
end T
open Go Go.Va
namespace T
def DI (vs:List Int) (v:Int):Int:=vs.getD v.toNat 0
def Fh (vs:List Int) (c:Con):Bool:=decide (c.1.map (DI vs)∈c.2.2)
def FC (l:List Con) (vs:List Int):Bool:=l.all (Fh vs)
def FA (vars:List Int) (c:Con):Bool:=c.1.all λv=>decide (v∈vars)
def FB (a:Net) (vars:List Int):List Con:=a.2.2.filter (FA vars)
section
variable {a:Net}
theorem CR {f g:List Int} (hf:f.length<=1048576) (hg: ∀v∈f,0<=v/\v<g.length):BK f g=some (f.map (DI g)):=by
 unfold BK
 rw[if_pos (by unfold lim;omega)]
 have:=Dt f (λn o i=>AR n (g,o,f,(f.length:Int),i)) (DI g) some (λn o k hk hlo=>?_) (λn o hlo=>?_) (n:=Aa) (out:=List.replicate (Int.toNat (f.length:Int)) (0:Int)) (by simp) (by unfold Aa;omega)
 ·simp only[this,Option.bind_some]
 ·have hko:k<o.length:=by omega
  have hv:=hg _ (List.getElem_mem hk)
  have e:gd g f[k] 0=DI g f[k]:=rfl
  simp only[AR,Ac,Ad hk,B2,Ab (show k<4611686018427387904 by omega),e]
  rw[if_pos (by simp;omega),if_pos hk,if_pos (show inb f[k] g from hv),if_pos hko]
 ·simp[AR]
end
end T
open Go Go.Va
namespace T
abbrev T3:=List (List (List Bool))
abbrev T4:=List (List (List (List Bool)))
def E4 (s:Nat) (c:List (List Bool)):Prop:=c.length=s/\ ∀x,x<s->(c.getD x []).length=s
def Ff (n s:Nat) (r:T3):Prop:=r.length=n/\ ∀j,j<n->E4 s (r.getD j [])
def Ok4 (n s:Nat) (t:T4):Prop:=t.length=n/\ ∀i,i<n->Ff n s (t.getD i [])
def r4 (t:T4) (i j x y:Nat):Bool:=(((t.getD i []).getD j []).getD x []).getD y false
def s4 (t:T4) (i j x y:Nat) (b:Bool):T4:=t.set i ((t.getD i []).set j (((t.getD i []).getD j []).set x ((((t.getD i []).getD j []).getD x []).set y b)))
def Ok3 (n m:Nat) (u:T3):Prop:=u.length=n/\ ∀i,i<n->(u.getD i []).length=n/\ ∀j,j<n->((u.getD i []).getD j []).length=m
def r3 (u:T3) (i j p:Nat):Bool:=((u.getD i []).getD j []).getD p false
def s3 (u:T3) (i j p:Nat) (b:Bool):T3:=u.set i ((u.getD i []).set j (((u.getD i []).getD j []).set p b))
section
variable {n s m:Nat} {t:T4} {u:T3}
theorem Ok4.at (h:Ok4 n s t) {i j x:Nat} (hi:i<n) (hj:j<n) (hx:x<s):i<t.length/\j<(t.getD i []).length/\x<((t.getD i []).getD j []).length/\(((t.getD i []).getD j []).getD x []).length=s:=
 ⟨by rw[h.1];exact hi,by rw[(h.2 i hi).1];exact hj,by rw[((h.2 i hi).2 j hj).1];exact hx,((h.2 i hi).2 j hj).2 x hx⟩
theorem Ok3.at (h:Ok3 n m u) {i j:Nat} (hi:i<n) (hj:j<n):i<u.length/\j<(u.getD i []).length/\((u.getD i []).getD j []).length=m:=
 ⟨by rw[h.1];exact hi,by rw[(h.2 i hi).1];exact hj,(h.2 i hi).2 j hj⟩
theorem Ef (h:Ok4 n s t) {i j x y:Nat} {b:Bool}:Ok4 n s (s4 t i j x y b):=by
 unfold s4
 refine⟨by rw[List.length_set];exact h.1,λi' hi'=>?_⟩
 rw[Ag]
 split
 ·rename_i hc
  obtain⟨rfl,_⟩:=hc
  have hr:=h.2 i hi'
  refine⟨by rw[List.length_set];exact hr.1,λj' hj'=>?_⟩
  rw[Ag]
  split
  ·rename_i hc
   obtain⟨rfl,_⟩:=hc
   have hcl:=hr.2 j hj'
   refine⟨by rw[List.length_set];exact hcl.1,λx' hx'=>?_⟩
   rw[Ag]
   split
   ·rename_i hc
    obtain⟨rfl,_⟩:=hc
    rw[List.length_set];exact hcl.2 x hx'
   ·exact hcl.2 x' hx'
  ·exact hr.2 j' hj'
 ·exact h.2 i' hi'
theorem Fq (h:Ok3 n m u) {i j p:Nat} {b:Bool}:Ok3 n m (s3 u i j p b):=by
 unfold s3
 refine⟨by rw[List.length_set];exact h.1,λi' hi'=>?_⟩
 rw[Ag]
 split
 ·rename_i hc
  obtain⟨rfl,_⟩:=hc
  have hr:=h.2 i hi'
  refine⟨by rw[List.length_set];exact hr.1,λj' hj'=>?_⟩
  rw[Ag]
  split
  ·rename_i hc
   obtain⟨rfl,_⟩:=hc
   rw[List.length_set];exact hr.2 j hj'
  ·exact hr.2 j' hj'
 ·exact h.2 i' hi'
theorem Ee (h:Ok4 n s t) {i j x y:Nat} {b:Bool} (hi:i<n) (hj:j<n) (hx:x<s) (hy:y<s) (i' j' x' y':Nat):
  r4 (s4 t i j x y b) i' j' x' y'=if i=i'/\j=j'/\x=x'/\y=y' then b else r4 t i' j' x' y':=by
 obtain⟨h1,h2,h3,h4⟩:=h.at hi hj hx
 unfold r4 s4
 rw[Ag]
 by_cases e1:i=i'
 ·subst e1
  rw[if_pos ⟨rfl,h1⟩,Ag]
  by_cases e2:j=j'
  ·subst e2
   rw[if_pos ⟨rfl,h2⟩,Ag]
   by_cases e3:x=x'
   ·subst e3
    rw[if_pos ⟨rfl,h3⟩,Ag]
    by_cases e4:y=y'
    ·subst e4;rw[if_pos ⟨rfl,by omega⟩,if_pos ⟨rfl,rfl,rfl,rfl⟩]
    ·rw[if_neg (by omega),if_neg (by omega)]
   ·rw[if_neg (by omega),if_neg (by omega)]
  ·rw[if_neg (by omega),if_neg (by omega)]
 ·rw[if_neg (by omega),if_neg (by omega)]
theorem Fo (h:Ok3 n m u) {i j p:Nat} {b:Bool} (hi:i<n) (hj:j<n) (hp:p<m) (i' j' p':Nat):
  r3 (s3 u i j p b) i' j' p'=if i=i'/\j=j'/\p=p' then b else r3 u i' j' p':=by
 obtain⟨h1,h2,h3⟩:=h.at hi hj
 unfold r3 s3
 rw[Ag]
 by_cases e1:i=i'
 ·subst e1
  rw[if_pos ⟨rfl,h1⟩,Ag]
  by_cases e2:j=j'
  ·subst e2
   rw[if_pos ⟨rfl,h2⟩,Ag]
   by_cases e3:p=p'
   ·subst e3;rw[if_pos ⟨rfl,by omega⟩,if_pos ⟨rfl,rfl,rfl⟩]
   ·rw[if_neg (by omega),if_neg (by omega)]
  ·rw[if_neg (by omega),if_neg (by omega)]
 ·rw[if_neg (by omega),if_neg (by omega)]
end
structure Rel34 (n s:Nat) (t:T4) (u:T3):Prop where
 o4:Ok4 n s t
 o3:Ok3 n (s*s) u
 eq: ∀i j x y,i<j->j<n->x<s->y<s->r4 t i j x y=r3 u i j (x*s+y)/\r4 t j i y x=r3 u i j (x*s+y)
theorem ET {s x y:Nat} (hx:x<s) (hy:y<s):x*s+y<s*s:=by
 have:(x+1)*s<=s*s:=Nat.mul_le_mul_right _ hx
 rw[Nat.succ_mul]at this;omega
theorem Eu {s x y x' y':Nat} (hy:y<s) (hy':y'<s) (h:x*s+y=x'*s+y'):x=x'/\y=y':=by
 have h1:(x*s+y)/s=x:=by rw[Nat.mul_comm,Nat.mul_add_div (by omega),Nat.div_eq_of_lt hy];omega
 have h2:(x'*s+y')/s=x':=by rw[Nat.mul_comm,Nat.mul_add_div (by omega),Nat.div_eq_of_lt hy'];omega
 have:x=x':=by rw[←h1,←h2,h]
 subst this
 exact⟨rfl,by omega⟩
theorem Rel34.drop {n s:Nat} {t:T4} {u:T3} (h:Rel34 n s t u) {i j x y:Nat} (hij:i<j) (hj:j<n) (hx:x<s) (hy:y<s):
  Rel34 n s (s4 (s4 t i j x y false) j i y x false) (s3 u i j (x*s+y) false):=by
 refine⟨Ef (Ef h.o4),Fq h.o3,λi' j' x' y' h1 h2 h3 h4=>?_⟩
 have hi:i<n:=by omega
 rw[Ee (Ef h.o4) hj hi hy hx,Ee h.o4 hi hj hx hy,Ee (Ef h.o4) hj hi hy hx,Ee h.o4 hi hj hx hy,Fo h.o3 hi hj (ET hx hy)]
 obtain⟨e1,e2⟩:=h.eq i' j' x' y' h1 h2 h3 h4
 by_cases e:i=i'/\j=j'/\x=x'/\y=y'
 ·obtain⟨rfl,rfl,rfl,rfl⟩:=e
  simp
 ·have e3: ¬(i=i'/\j=j'/\x*s+y=x'*s+y'):=λ⟨q1,q2,q3⟩=>by
   have:=Eu hy h4 q3
   exact e ⟨q1,q2,this.1,this.2⟩
  have e4: ¬(j=i'/\i=j'/\y=x'/\x=y'):=by omega
  have e5: ¬(i=j'/\j=i'/\x=y'/\y=x'):=by omega
  have e6: ¬(j=j'/\i=i'/\y=y'/\x=x'):=by omega
  simp only[if_neg e,if_neg e3,if_neg e4,if_neg e5,if_neg e6]
  exact⟨e1,e2⟩
end T
open Go Go.Va
namespace T
section
variable {a:Net} {n s:Nat} {t:T4} {u:T3}
def V2 (n i j x y:Nat):List Int:=((List.replicate n (0:Int)).set i (x:Int)).set j (y:Int)
def fB (a:Net) (n i j x y:Nat):Bool:=FC (FB a [(i:Int),(j:Int)]) (V2 n i j x y)
end
end T
open Go Go.Va
namespace T
section
variable {a:Net} {n s:Nat} {t:T4} {u:T3}
def PA (n s i:Nat) (t:T4):Prop:=t.length=n/\ ∀i',i'<i->Ff n s (t.getD i' [])
def PB (n s i j:Nat) (t:T4):Prop:=PA n s i t/\(t.getD i []).length=n/\ ∀j',j'<j->E4 s ((t.getD i []).getD j' [])
theorem PA.set {i:Nat} (h:PA n s i t) (r:T3):PA n s i (t.set i r):=by
 refine⟨by rw[List.length_set];exact h.1,λi' hi'=>?_⟩
 rw[Ag,if_neg (by omega)];exact h.2 i' hi'
theorem PB.set {i j:Nat} (h:PB n s i j t) (hi:i<n) (c:List (List Bool)):PB n s i j (t.set i ((t.getD i []).set j c)):=by
 have hl:=h.1.1
 refine⟨h.1.set _,?_,λj' hj'=>?_⟩
 ·rw[Ag,if_pos ⟨rfl,by omega⟩,List.length_set];exact h.2.1
 ·rw[Ag,if_pos ⟨rfl,by omega⟩,Ag,if_neg (by omega)];exact h.2.2 j' hj'
end
end T
set_option linter.unusedVariables false
open Go Go.Va
namespace T
def Cs:Nat->((List Int)×(List Int)×Int×Int)->Option ((List Int))
 |0,_=>none
 |n+1,(b,t10,t11,t12)=>
 if decide (t12<t11)then
 if inb t12 t10 then
 if(0:Int)<=8 then
 if b.length+ [IntKind.wrap .u8 (YiD .i64 (gd t10 t12 0) 8),IntKind.wrap .u8 (gd t10 t12 0)].length<=lim then
 Cs n (b++ [IntKind.wrap .u8 (YiD .i64 (gd t10 t12 0) 8),IntKind.wrap .u8 (gd t10 t12 0)],t10,t11,w64 (t12+1))
 else none
 else none
 else none
 else
 some b
def D0 (list:List Int):Option (ByteArray):=
 if(0:Int)<=0/\(0:Int)<=(w64 (2*(list.length:Int)))/\(w64 (2*(list.length:Int)))<=lim then
 (Cs Aa (List.replicate (Int.toNat 0) (0:Int),list,(list.length:Int),0)).bind λs1=>
 some (Ybp s1)
 else none
end T
set_option linter.unusedVariables false
open Go Go.Va
namespace T
def Bv (list:List Int):Option ((List Int)):=
 if([]:List Int).length+list.length<=lim then
 some ([]++list)
 else none
end T
open Go Go.Va
namespace T
abbrev EO:=Int×List (List Int)
section
variable {n k m:Nat} {r:EO}
end
end T
open Go Go.Va
namespace T
section
variable {n:Int} {rels:List EO}
end
def CS (V:List Int) (x:Nat):Int:=match V.findIdx? (λy=>y==(x:Int))with|some i=>(i:Int)|none=> -1
section
variable {n:Nat} {t:List Int}
end
section
variable {n m:Nat} {t:List Int} {r:EO} {rels:List EO}
end
end T
set_option linter.unusedVariables false
open Go Go.Va
namespace T
def Av:Nat->((List (List Int))×(List (List Int))×Int×Int)->Option ((List (List Int)))
 |0,_=>none
 |n+1,(list,t7,t8,t9)=>
 if decide (t9<t8)then
 if inb t9 t7 then
 (Bv (gd t7 t9 [])).bind λr1=>
 if list.length+ [r1].length<=lim then
 Av n (list++ [r1],t7,t8,w64 (t9+1))
 else none
 else none
 else
 some list
def BN (rows:List (List Int)):Option ((List (List Int))):=
 (Av Aa ([],rows,(rows.length:Int),0)).bind λs1=>
 some s1
end T
open Go Go.Va
namespace T
section
variable {α:Type} {nw old:Nat->α} {N i:Nat}
end
def pr4 (p:Int):Prop:=p=2∨p=3∨p=5∨p=7
def Ec (p:Int) (W:Nat) (r:List Int):Prop:=r.length=W/\ ∀x∈r,0<=x/\x<p
section
variable {p:Int} {W:Nat} {r row:List Int}
theorem Fa (h:Ec p W r) {i:Nat} (hi:i<W):0<=r.getD i 0/\r.getD i 0<p:=by
 have:i<r.length:=by rw[h.1];exact hi
 rw[AB this];exact h.2 _ (List.getElem_mem this)
end
abbrev ES:=List (List Int)×List Int×List (List Int)
structure ESok (p:Int) (W N v:Nat) (s:ES):Prop where
 t: ∀r∈s.1,Ec p W r
 l: ∀r∈s.2.2,Ec p W r
 bl:s.2.1.length=s.1.length
 n:s.1.length+s.2.2.length=N
 bv: ∀x∈s.2.1,0<=x/\x<(v:Int)
 bn:s.2.1.Nodup
section
variable {p:Int} {W N:Nat}
end
end T
open Go Go.Va
namespace T
section
variable {p:Int} {W N V:Nat}
theorem Ep {b:List Int} {u:Nat} (h:(u:Int)∉b):CS b u= -1:=by
 unfold CS
 have h1:(b.findIdx? λy=>y==(u:Int))=none:=by
  rw[List.findIdx?_eq_none_iff]
  intro y hy
  simp only[beq_eq_false_iff_ne]
  intro e;exact h (e▸hy)
 rw[h1]
theorem Ed {b:List Int} {u:Nat} (h:(u:Int)∈b): ∃i,∃hi:i<b.length,CS b u=(i:Int)/\b[i]=(u:Int):=by
 unfold CS
 have h1:(b.findIdx? λy=>y==(u:Int)).isSome=true:=by
  rw[List.findIdx?_isSome,List.any_eq_true]
  exact⟨_,h,by simp⟩
 obtain⟨i,hi⟩:=Option.isSome_iff_exists.1 h1
 rw[hi]
 obtain⟨g1,g2,_⟩:=List.findIdx?_eq_some_iff_getElem.1 hi
 exact⟨i,g1,rfl,by simpa using g2⟩
theorem Dq {rows:List (List Int)} (hN:rows.length<=100000) (hr: ∀r∈rows,r.length<=100000):BN rows=some rows:=by
 unfold BN
 have:=Du rows.length (λf o i=>Av f (o,rows,(rows.length:Int),i)) (λk=>rows.take k) (r:=some rows) (λf k hk=>by
  have hl:=hr _ (List.getElem_mem hk)
  have hcl:Bv rows[k]=some rows[k]:=by
   unfold Bv
   rw[if_pos (by simp;unfold lim;omega)];simp
  simp only[Av,Ac,hk,Ad hk,hcl,Option.bind_some,List.take_succ_eq_append_getElem hk,if_true,Ab (show k<4611686018427387904 by omega)]
  rw[if_pos (by simp;omega),if_pos (by simp;unfold lim;omega)]) (λf=>by
  simp only[Av,List.take_length]
  rw[if_neg (by simp)]) (n:=Aa) (by unfold Aa;omega)
 have this:Av Aa ([],rows,(rows.length:Int),0)=_:=this
 rw[this];rfl
end
end T
open Go Go.Va
namespace T
def Fj (N:Nat) (b:List Int):List Int:=((List.range N).filter λv:Nat=>!decide ((v:Int)∈b)).map λv:Nat=>(v:Int)
section
variable {p:Int} {W N V:Nat}
theorem EF {b:List Int} {u:Nat}:CS b u<0↔(u:Int)∉b:=by
 by_cases h:(u:Int)∈b
 ·obtain⟨i,hi,h1,_⟩:=Ed h
  rw[h1];simp[h]
 ·rw[Ep h];simp[h]
def EI (V:Nat) (s:ES) (u:Nat):Int:=if CS s.2.1 u<0 then 0 else(s.1.getD (CS s.2.1 u).toNat []).getD V 0
def Fs (V:Nat) (s:ES):List Int:=(List.range V).map (EI V s)
end
end T
open Go Go.Va
namespace T
def cg (p a b:Int):Prop:= ∃k,a=b+p*k
section
variable {p a b c d:Int}
theorem Ev (h:a=b):cg p a b:=⟨0,by rw[h];simp⟩
theorem E7 (h:cg p a b) (g:cg p c d):cg p (a+c) (b+d):=by obtain⟨k,h⟩:=h;obtain⟨m,g⟩:=g;exact⟨k+m,by grind⟩
theorem E8 (x:Int) (h:cg p a b):cg p (x*a) (x*b):=by obtain⟨k,h⟩:=h;exact⟨x*k,by grind⟩
end
inductive Sp (p:Int) (V:Nat) (A:List (List Int)):(Nat->Int)->Prop
 |zero:Sp p V A λ_=>0
 |add {f:Nat->Int} (r:List Int) (c:Int):r∈A->Sp p V A f->Sp p V A λi=>f i+c*r.getD i 0
 |cgr {f g:Nat->Int}:Sp p V A f->(∀i,i<V->cg p (g i) (f i))->Sp p V A g
section
variable {p:Int} {V W N:Nat} {A B:List (List Int)} {f g:Nat->Int}
theorem Sp.lin (hf:Sp p V A f) (hg:Sp p V A g) (c:Int):Sp p V A λi=>f i+c*g i:=by
 induction hg with
 |zero=>exact hf.cgr λi _=>Ev (by simp)
 |add r d hr _ ih=>exact(ih.add r (c*d) hr).cgr λi _=>Ev (by grind)
 |cgr _ h ih=>exact ih.cgr λi hi=>E7 (Ev rfl) (E8 c (h i hi))
theorem Sp.sub (h: ∀r∈A,Sp p V B λi=>r.getD i 0) (hf:Sp p V A f):Sp p V B f:=by
 induction hf with
 |zero=>exact .zero
 |add r c hr _ ih=>exact ih.lin (h r hr) c
 |cgr _ h ih=>exact ih.cgr h
def eqSp (p:Int) (V:Nat) (A B:List (List Int)):Prop:= ∀f,Sp p V A f↔Sp p V B f
end
end T
open Go Go.Va
namespace T
section
variable {p:Int} {V W N:Nat} {A B:List (List Int)} {f g:Nat->Int}
theorem DK {α:Type} {l:List α} {i:Nat} {d:α} (hi:i<l.length):l.getD i d∈l:=by rw[AB hi];exact List.getElem_mem hi
end
end T
open Go Go.Va
namespace T
section
variable {p:Int} {V W N:Nat} {A B C D:List (List Int)} {f g:Nat->Int}
theorem eqSp.symm (h:eqSp p V A B):eqSp p V B A:=λf=>(h f).symm
theorem eqSp.trans (h:eqSp p V A B) (g:eqSp p V B C):eqSp p V A C:=λf=>(h f).trans (g f)
end
end T
open Go Go.Va
namespace T
def i64 (x:Int):Prop:= -9223372036854775808<=x/\x<=9223372036854775807
section
variable {c:List Int} {ar:Int}
end
end T
open Go Go.Va
namespace T
abbrev NS:=Bool×Int×List (List (List Int))×List (List (List ByteArray))
abbrev NIn (σ:Type):=Int×List Int×σ×NS×List Int×Unit
abbrev EN (σ:Type):=List Int×σ×NS×List Int×Bool
def hM {σ:Type}:Nat->(Int×List Int×σ×NS×List Int×Unit×Int×Bool×List (List Int)×Int×Int)->Option (Int×List Int×σ×NS×List Int×Unit×Int×Bool)
 |0,_=>none
 |n+1,(t0,t1,t2,t3,t4,t5,t8,t9,t50,t51,t52)=>
 if decide (t52<t51)then
 if inb t52 t50 then
 if t9 then
 if t3.1=true then
 if inb t0 t3.2.2.2 then
 if inb t52 (gd t3.2.2.2 t0 [])then
 (BK (gd t50 t52 []) t1).bind λr2=>
 (D0 r2).bind λr3=>
 hM n (t0,t1,t2,t3,t4,(),t8,Xs (gd (gd t3.2.2.2 t0 []) t52 []) r3,t50,t51,w64 (t52+1))
 else none
 else none
 else none
 else
 hM n (t0,t1,t2,t3,t4,(),t8,false,t50,t51,w64 (t52+1))
 else none
 else
 some (t0,t1,t2,t3,t4,(),t8,t9)
def hL {σ:Type} (rec:NIn σ->Option (EN σ)):Nat->(Int×List Int×σ×NS×List Int×Unit×Int)->Option ((List Int×σ×NS×List Int×Unit)⊕(List Int×σ×NS×List Int×Unit×Bool))
 |0,_=>none
 |n+1,(t0,t1,t2,t3,t4,t5,t8)=>
 if t3.1=true then
 if decide (t8<t3.2.1)then
 if inb t0 t4 then
 if decide ((gd t4 t0 0)≥0)then
 if inb t0 t4 then
 if(gd t4 t0 0) !=t8 then
 hL rec n (t0,t1,t2,t3,t4,(),w64 (t8+1))
 else
 if inb t0 t1 then
 if t3.1=true then
 if inb t0 t3.2.2.1 then
 (hM Aa (t0,stt t1 t0 t8,t2,t3,t4,(),t8,true,gd t3.2.2.1 t0 [],((gd t3.2.2.1 t0 []).length:Int),0)).bind λs2=>
 if s2.2.2.2.2.2.2.2 then
 (rec (w64 (s2.1+1),s2.2.1,s2.2.2.1,s2.2.2.2.1,s2.2.2.2.2.1,())).bind λr3=>
 if !r3.2.2.2.2 then
 some (.inr (r3.1,r3.2.1,r3.2.2.1,r3.2.2.2.1,(),false))
 else
 hL rec n (s2.1,r3.1,r3.2.1,r3.2.2.1,r3.2.2.2.1,(),w64 (s2.2.2.2.2.2.2.1+1))
 else
 hL rec n (s2.1,s2.2.1,s2.2.2.1,s2.2.2.2.1,s2.2.2.2.2.1,(),w64 (s2.2.2.2.2.2.2.1+1))
 else none
 else none
 else none
 else none
 else
 if inb t0 t1 then
 if t3.1=true then
 if inb t0 t3.2.2.1 then
 (hM Aa (t0,stt t1 t0 t8,t2,t3,t4,(),t8,true,gd t3.2.2.1 t0 [],((gd t3.2.2.1 t0 []).length:Int),0)).bind λs4=>
 if s4.2.2.2.2.2.2.2 then
 (rec (w64 (s4.1+1),s4.2.1,s4.2.2.1,s4.2.2.2.1,s4.2.2.2.2.1,())).bind λr5=>
 if !r5.2.2.2.2 then
 some (.inr (r5.1,r5.2.1,r5.2.2.1,r5.2.2.2.1,(),false))
 else
 hL rec n (s4.1,r5.1,r5.2.1,r5.2.2.1,r5.2.2.2.1,(),w64 (s4.2.2.2.2.2.2.1+1))
 else
 hL rec n (s4.1,s4.2.1,s4.2.2.1,s4.2.2.2.1,s4.2.2.2.2.1,(),w64 (s4.2.2.2.2.2.2.1+1))
 else none
 else none
 else none
 else none
 else
 some (.inl (t1,t2,t3,t4,()))
 else none
def Fk {σ:Type} (cb:List Int->σ->Option (σ×Bool)) (rec:NIn σ->Option (EN σ)) (x:NIn σ):Option (EN σ):=
 if x.1==(x.2.1.length:Int)then
  (cb x.2.1 x.2.2.1).bind λr1=>some (x.2.1,r1.1,x.2.2.2.1,x.2.2.2.2.1,r1.2)
 else
  (hL rec Aa (x.1,x.2.1,x.2.2.1,x.2.2.2.1,x.2.2.2.2.1,(),0)).bind λs2=>
   match s2 with
   | .inl s3=>some (s3.1,s3.2.1,s3.2.2.1,s3.2.2.2.1,true)
   | .inr s4=>some (s4.1,s4.2.1,s4.2.2.1,s4.2.2.2.1,s4.2.2.2.2.2)
def hF {σ:Type} (cb:List Int->σ->Option (σ×Bool)):Nat->NIn σ->Option (EN σ)
 |0,_=>none
 |d+1,x=>Fk cb (hF cb d) x
section
variable {V n:Nat} {cs:List Con} {given:List Int}
end
end T
open Go Go.Va
namespace T
def Zn (cmp:List Int->List Int->Int) (rows:List (List Int)):List (List Int):=rows.mergeSort (λx y=>!decide (cmp y x<0))
def ZX (s t:List Int):Int:=if s.length<t.length then-1 else if t.length<s.length then 1 else cmpL s t
theorem cmpT_refl (s:List Int):ZX s s=0:=by unfold ZX;rw[if_neg (by omega),if_neg (by omega),cmpL_refl]
theorem cmpT_symm (s t:List Int):ZX t s= -ZX s t:=by
 unfold ZX
 by_cases h1:s.length<t.length
 ·rw[if_neg (by omega),if_pos h1,if_pos h1];rfl
 ·by_cases h2:t.length<s.length
  ·rw[if_pos h2,if_neg h1,if_pos h2]
  ·rw[if_neg h2,if_neg h1,if_neg h1,if_neg h2,cmpL_symm]
theorem cmpT_eq {s t:List Int} (h:ZX s t=0):s=t:=by
 unfold ZX at h
 by_cases h1:s.length<t.length
 ·rw[if_pos h1]at h;exact absurd h (by decide)
 ·rw[if_neg h1]at h
  by_cases h2:t.length<s.length
  ·rw[if_pos h2]at h;exact absurd h (by decide)
  ·rw[if_neg h2]at h;exact cmpL_eq.1 h
theorem cmpT_trans {s t u:List Int} (h1:ZX s t<0) (h2:ZX t u<0):ZX s u<0:=by
 unfold ZX at*
 by_cases a1:s.length<u.length
 ·rw[if_pos a1];decide
 ·rw[if_neg a1]
  by_cases b1:s.length<t.length
  ·have b2:u.length<t.length:=by omega
   rw[if_neg (by omega),if_pos b2]at h2;exact absurd h2 (by decide)
  ·rw[if_neg b1]at h1
   by_cases b3:t.length<s.length
   ·rw[if_pos b3]at h1;exact absurd h1 (by decide)
   ·rw[if_neg b3]at h1
    by_cases c1:t.length<u.length
    ·omega
    ·rw[if_neg c1]at h2
     by_cases c2:u.length<t.length
     ·rw[if_pos c2]at h2;exact absurd h2 (by decide)
     ·rw[if_neg c2]at h2
      rw[if_neg (by omega)]
      exact cmpL_trans h1 h2
end T
open Go Go.Va
namespace T
theorem B4 {l:List (List Int)}:Bw l=true↔l.Pairwise (λa b=>cmpL a b<0):=by
 constructor
 ·intro h
  rw[List.pairwise_iff_getElem]
  exact λi j hi hj hij=>CA h i j hij hj
 ·intro h
  rw[DL]
  rw[List.pairwise_iff_getElem]at h
  exact λi hi=>h i (i+1) (by omega) hi (by omega)
theorem Ek {x y:List Int} (h1: ¬cmpL y x<0) (h2: ¬cmpL x y<0):x=y:=by
 have:=cmpL_symm x y
 exact cmpL_eq.1 (by omega)
theorem Cp {out l:List (List Int)} (hi:Bw out=true) (hp:out.Perm l):Zn cmpL l=out:=by
 have hs:(Zn cmpL l).Pairwise λx y=>(!decide (cmpL y x<0))=true:=by
  unfold Zn
  refine List.pairwise_mergeSort (λa b c h1 h2=>?_) (λa b=>?_) l
  ·simp only[Bool.not_eq_true',decide_eq_false_iff_not]at*
   intro h3
   have q1:=cmpL_symm a b
   have q2:=cmpL_symm b c
   by_cases e:cmpL a b=0
   ·rw[cmpL_eq.1 e]at h3;exact h2 h3
   ·exact h2 (cmpL_trans h3 (by omega))
  ·simp only[Bool.or_eq_true,Bool.not_eq_true',decide_eq_false_iff_not]
   have q1:=cmpL_symm a b
   omega
 have ho:out.Pairwise λx y=>(!decide (cmpL y x<0))=true:=by
  refine(B4.1 hi).imp ?_
  intro a b h
  simp only[Bool.not_eq_true',decide_eq_false_iff_not]
  have q1:=cmpL_symm a b
  omega
 have hpp:(Zn cmpL l).Perm out:=(List.mergeSort_perm l _).trans hp.symm
 refine List.Perm.eq_of_pairwise (λa b _ _ h1 h2=>?_) hs ho hpp
 simp only[Bool.not_eq_true',decide_eq_false_iff_not]at h1 h2
 exact Ek h1 h2
end T
set_option linter.unusedVariables false
open Go Go.Va
namespace T
def Ap (a0:List (List Int)) (a1:Unit):Option (List (List Int)):=
 if List.length a0<=lim/\List.all a0 (λx=>decide (List.length x<=lim))=true then some (Zn cmpL a0)else none
end T
open Go Go.Va
namespace T
section
variable {p:Int} {W N V:Nat}
def coG (p:Int) (s:ES) (u:Nat) (f:Int):Int:=if CS s.2.1 u<0 then(if f=(u:Int)then 1 else 0)else p-(s.1.getD (CS s.2.1 u).toNat []).getD f.toNat 0
def Fd (p:Int) (V:Nat) (s:ES) (F x:List Int) (u:Nat):Nat->Int
 |0=>EI V s u
 |k+1=>Fd p V s F x u k+coG p s u (F.getD k 0)*x.getD k 0
def Fu (p:Int) (V:Nat) (s:ES) (F x:List Int) (k:Nat):List Int:=(List.range V).map λu=>Fd p V s F x u k%p
structure GenOk (p:Int) (W N V:Nat) (s:ES) (F x:List Int):Prop where
 hp:pr4 p
 hs:ESok p W N V s
 hV:V<W
 hW:W<=1000
 hN:N<=100000
 hF:F=Fj V s.2.1
 hx:x.length=F.length
 xb: ∀v∈x,0<=v/\v<p
variable {s:ES} {F x:List Int}
theorem GenOk.pb (g:GenOk p W N V s F x):2<=p/\p<=7:=by have:=g.hp;unfold pr4 at this;omega
theorem GenOk.row (g:GenOk p W N V s F x) {u:Nat} (hu: ¬CS s.2.1 u<0):(CS s.2.1 u).toNat<s.1.length/\Ec p W (s.1.getD (CS s.2.1 u).toNat []):=by
 have hm:(u:Int)∈s.2.1:=by
  rcases Decidable.em ((u:Int)∈s.2.1)with h|h
  ·exact h
  ·exact absurd (EF.2 h) hu
 obtain⟨i,hi,g1,_⟩:=Ed hm
 rw[g1,Int.toNat_natCast]
 have:=g.hs.bl
 exact⟨by omega,by rw[AB (by omega)];exact g.hs.t _ (List.getElem_mem _)⟩
theorem GenOk.base (g:GenOk p W N V s F x) (u:Nat):0<=EI V s u/\EI V s u<p:=by
 have:=g.pb
 unfold EI
 split
 ·omega
 ·rename_i h
  exact Fa (g.row h).2 g.hV
end
end T
open Go Go.Va
namespace T
section
variable {p:Int} {W N V:Nat} {s:ES} {F x:List Int}
theorem GenOk.zero (g:GenOk p W N V s F x):Fu p V s F x 0=Fs V s:=by
 unfold Fu Fs
 refine List.map_congr_left λu _=>?_
 have:=g.base u
 simp only[Fd]
 exact Int.emod_eq_of_lt this.1 this.2
end
end T
open Go Go.Va
namespace T
section
variable {a:Lin} {p:Int} {W N V:Nat} {s:ES} {F:List Int}
theorem D5 (l:List (List Int)):(Zn cmpL l).Perm l:=List.mergeSort_perm l _
end
end T
open Go Go.Va
namespace T
def Zm (xs:List (List Int)):List Nat:=(List.range xs.length).filter λi=>i==0||xs.getD (i-1) [] !=xs.getD i []
def Zx (xs:List (List Int)):List (List Int):=(Zm xs).map λi=>xs.getD i []
def dgP:List Int->List (List Int)->List (List Int)
 |_,[]=> []
 |p,x::l=>if p=x then dgP x l else x::dgP x l
theorem Dl: ∀(l pre:List (List Int)) (p:List Int),((List.range' (pre++ [p]).length l.length).filter λi=>i==0||(pre++ [p]++l).getD (i-1) [] !=(pre++ [p]++l).getD i []).map (λi=>(pre++ [p]++l).getD i [])=dgP p l
 | [],_,_=>rfl
 |x::l,pre,p=>by
  have ih:=Dl l (pre++ [p]) x
  have e:pre++ [p]++ [x]++l=pre++ [p]++(x::l):=by simp
  rw[e]at ih
  have e2:(pre++ [p]++ [x]).length=(pre++ [p]).length+1:=by simp
  rw[e2]at ih
  have g1:(pre++ [p]++(x::l)).getD ((pre++ [p]).length-1) []=p:=by
   rw[List.getD_eq_getElem?_getD,List.getElem?_append_left (by simp),List.length_append,List.length_singleton,Nat.add_sub_cancel,List.getElem?_append_right (Nat.le_refl _),Nat.sub_self];rfl
  have g2:(pre++ [p]++(x::l)).getD (pre++ [p]).length []=x:=by
   rw[List.getD_eq_getElem?_getD,List.getElem?_append_right (Nat.le_refl _),Nat.sub_self];rfl
  have g3:((pre++ [p]).length==0)=false:=by simp
  rw[List.length_cons,List.range'_succ,List.filter_cons,g1,g2,g3,dgP]
  by_cases h:p=x
  ·rw[if_neg (by simp[h]),if_pos h];exact ih
  ·rw[if_pos (by simp[h]),if_neg h,List.map_cons,g2];exact congrArg _ ih
theorem C4 {x:List Int} {l:List (List Int)}:Zx (x::l)=x::dgP x l:=by
 have h:=Dl l [] x
 unfold Zx Zm
 rw[List.range_eq_range',List.length_cons,List.range'_succ,List.filter_cons,if_pos (by simp),List.map_cons]
 exact congrArg _ h
theorem D9: ∀ {l:List (List Int)} {p u:List Int},(u∈dgP p l∨u=p)↔(u∈l∨u=p)
 | [],_,_=>Iff.rfl
 |x::l,p,u=>by
  have ih:=D9 (l:=l) (p:=x) (u:=u)
  unfold dgP
  by_cases h:p=x
  ·subst h
   rw[if_pos rfl,ih,List.mem_cons]
   exact⟨λh=>h.elim (λh=>Or.inl (Or.inr h)) Or.inr,λh=>h.elim (λh=>h.elim Or.inr Or.inl) Or.inr⟩
  ·rw[if_neg h,List.mem_cons,List.mem_cons]
   constructor
   ·rintro ((h|h)|h)
    ·exact Or.inl (Or.inl h)
    ·exact Or.inl ((ih.1 (Or.inl h)).elim Or.inr Or.inl)
    ·exact Or.inr h
   ·rintro ((h|h)|h)
    ·exact Or.inl (Or.inl h)
    ·exact Or.inl ((ih.2 (Or.inl h)).elim Or.inr Or.inl)
    ·exact Or.inr h
theorem El {l:List (List Int)} {u:List Int}:u∈Zx l↔u∈l:=by
 cases l with
 |nil=>exact Iff.rfl
 |cons x l=>
  rw[C4,List.mem_cons,List.mem_cons]
  have:=D9 (l:=l) (p:=x) (u:=u)
  exact⟨λh=>(this.1 h.symm).symm,λh=>(this.2 h.symm).symm⟩
theorem D8: ∀ {l:List (List Int)} {p:List Int},(p::l).Pairwise (λa b=> ¬cmpL b a<0)->(p::dgP p l).Pairwise λa b=>cmpL a b<0
 | [],_,_=>List.pairwise_singleton _ _
 |x::l,p,h=>by
  have h1:=List.pairwise_cons.1 h
  have ih:=D8 (l:=l) (p:=x) h1.2
  unfold dgP
  by_cases e:p=x
  ·subst e;rw[if_pos rfl];exact ih
  ·rw[if_neg e]
   refine List.pairwise_cons.2 ⟨λb hb=>?_,ih⟩
   have hlt:cmpL p x<0:=by
    have h2:=h1.1 x (List.mem_cons_self ..)
    have h3:=cmpL_symm p x
    have h4:cmpL p x≠0:=λh=>e (cmpL_eq.1 h)
    omega
   rcases List.mem_cons.1 hb with rfl|hb
   ·exact hlt
   ·exact cmpL_trans hlt ((List.pairwise_cons.1 ih).1 b hb)
theorem EJ (l:List (List Int)):(Zn cmpL l).Pairwise λa b=> ¬cmpL b a<0:=by
 have hs:(Zn cmpL l).Pairwise λx y=>(!decide (cmpL y x<0))=true:=by
  unfold Zn
  refine List.pairwise_mergeSort (λa b c h1 h2=>?_) (λa b=>?_) l
  ·simp only[Bool.not_eq_true',decide_eq_false_iff_not]at*
   intro h3
   have q1:=cmpL_symm a b
   have q2:=cmpL_symm b c
   by_cases e:cmpL a b=0
   ·rw[cmpL_eq.1 e]at h3;exact h2 h3
   ·exact h2 (cmpL_trans h3 (by omega))
  ·simp only[Bool.or_eq_true,Bool.not_eq_true',decide_eq_false_iff_not]
   have q1:=cmpL_symm a b
   omega
 exact hs.imp fun {a b} h=>by simpa using h
def Ca (l:List (List Int)):List (List Int):=Zx (Zn cmpL l)
theorem setL_mem {l:List (List Int)} {u:List Int}:u∈Ca l↔u∈l:=by
 unfold Ca;rw[El];exact(List.mergeSort_perm l _).mem_iff
theorem DS (l:List (List Int)):Bw (Ca l)=true:=by
 rw[B4]
 unfold Ca
 have h:=EJ l
 generalize Zn cmpL l=s at h
 cases s with
 |nil=>exact List.Pairwise.nil
 |cons x s=>rw[C4];exact D8 h
theorem Ey: ∀ {a b:List (List Int)},Bw a=true->Bw b=true->(∀u,u∈a↔u∈b)->a=b:=by
 intro a b ha hb h
 have pa:=B4.1 ha
 have pb:=B4.1 hb
 have na:a.Nodup:=pa.imp fun {x y} h e=>by rw[e,cmpL_refl]at h;omega
 have nb:b.Nodup:=pb.imp fun {x y} h e=>by rw[e,cmpL_refl]at h;omega
 have hp:a.Perm b:=(List.perm_ext_iff_of_nodup na nb).2 h
 rw[←Cp ha (List.Perm.refl _),←Cp hb (List.Perm.refl _)]
 have h1:=Cp ha hp
 have h2:=Cp hb (List.Perm.refl b)
 have h3:=Cp ha (List.Perm.refl a)
 rw[h2,h3,←h1,h2]
theorem Eh {out l:List (List Int)} (hi:Bw out=true) (hm: ∀u,u∈out↔u∈l):Ca l=out:=
 Ey (DS l) hi λu=>setL_mem.trans (hm u).symm
theorem Ex (l:List (List Int)):(Zx l).length<=l.length:=by
 unfold Zx Zm
 rw[List.length_map]
 exact Nat.le_trans (List.length_filter_le _ _) (by rw[List.length_range];exact Nat.le_refl _)
theorem Eg (l:List (List Int)):(Ca l).length<=l.length:=by
 unfold Ca
 have:=Ex (Zn cmpL l)
 rwa [show(Zn cmpL l).length=l.length from(List.mergeSort_perm l _).length_eq]at this
end T
set_option linter.unusedVariables false
open Go Go.Va
namespace T
def BO (a0:List (List Int)):Option (List (List Int)):=
 if List.length a0<=lim/\List.all a0 (λx=>decide (List.length x<=lim))=true then some (Zx a0)else none
end T
open Go Go.Va
namespace T
section
variable {n:Int} {k:Nat} {ts:List (List Int)}
def EY (ts:List (List Int)) (i j:Nat):List Int:=(ts.getD j []).take i
def E2 (ts:List (List Int)) (i j:Nat):Int:=(ts.getD j []).getD i 0
end
end T
open Go Go.Va
namespace T
theorem CM {α β:Type} {p:α->Bool} {g:α->β}: ∀ {l:List α},l.findSome? (λa=>if p a then some (g a)else none)=(l.find? p).map g
 | []=>rfl
 |a::l=>by
  rw[List.findSome?_cons,List.find?_cons]
  cases h:p a with
  |true=>rfl
  |false=>exact CM
section
variable {n:Int} {k:Nat} {ts:List (List Int)}
def E5 (ts:List (List Int)) (i:Nat) (x y:Int) (a b:Nat):Bool:=E2 ts i a==x&&(E2 ts i b==y&&decide (EY ts i a=EY ts i b))
def bO (ts:List (List Int)) (i:Nat) (x y:Int) (a:Nat):Option Nat:=(List.range ts.length).find? (E5 ts i x y a)
def EE (ts:List (List Int)) (i:Nat) (x y:Int):Option (Nat×Nat):=(List.range ts.length).findSome? λa=>(bO ts i x y a).map λb=>(a,b)
theorem D3 {i:Nat} {x y:Int} {a b:Nat} (h:EE ts i x y=some (a,b)):a<ts.length/\b<ts.length/\E2 ts i a=x/\E2 ts i b=y/\EY ts i a=EY ts i b:=by
 unfold EE at h
 obtain⟨a',ha,h⟩:=List.exists_of_findSome?_eq_some h
 obtain⟨b',hb,h⟩:=Option.map_eq_some_iff.1 h
 obtain⟨rfl,rfl⟩:=Prod.mk.inj h
 have h1:=List.find?_some hb
 have h2:=List.mem_of_find?_eq_some hb
 unfold E5 at h1
 simp only[Bool.and_eq_true,beq_iff_eq,decide_eq_true_eq]at h1
 exact⟨List.mem_range.1 ha,List.mem_range.1 h2,h1.1,h1.2.1,h1.2.2⟩
end
end T
set_option linter.unusedVariables false
open Go Go.Va
namespace T
def AF:Nat->((List ((List Int)×Int×(List (List Int))))×(List ((List Int)×Int×(List (List Int))))×Int×((List Int)×(Int×(List (List Int))))×Int)->Option ((List ((List Int)×Int×(List (List Int))))×(List ((List Int)×Int×(List (List Int))))×Int×((List Int)×(Int×(List (List Int)))))
 |0,_=>none
 |n+1,(list,out,i,c,k)=>
 if inb i list then
 if decide (k<((((gd list i ([],(0,[]))).2).2).length:Int))then
 if inb i list then
 if inb k (((gd list i ([],(0,[]))).2).2)then
 (Ce (gd (((gd list i ([],(0,[]))).2).2) k [])).bind λr2=>
 if c.2.2.length+ [r2].length<=lim then
 AF n (list,out,i,(c.1,(c.2.1,c.2.2++ [r2])),w64 (k+1))
 else none
 else none
 else none
 else
 some (list,out,i,(c.1,(c.2.1,c.2.2)))
 else none
def AE:Nat->((List ((List Int)×Int×(List (List Int))))×(List ((List Int)×Int×(List (List Int))))×Int)->Option ((List ((List Int)×Int×(List (List Int)))))
 |0,_=>none
 |n+1,(list,out,i)=>
 if decide (i<(list.length:Int))then
 if inb i list then
 (Ce ((gd list i ([],(0,[]))).1)).bind λr1=>
 if inb i list then
 (AF Aa (list,out,i,(r1,(((gd list i ([],(0,[]))).2).1,[])),0)).bind λs2=>
 if s2.2.1.length+ [(s2.2.2.2.1,(s2.2.2.2.2.1,s2.2.2.2.2.2))].length<=lim then
 AE n (s2.1,s2.2.1++ [(s2.2.2.2.1,(s2.2.2.2.2.1,s2.2.2.2.2.2))],w64 (s2.2.2.1+1))
 else none
 else none
 else none
 else
 some out
def Cc (list:List ((List Int)×Int×(List (List Int)))):Option ((List ((List Int)×Int×(List (List Int))))):=
 (AE Aa (list,[],0)).bind λs1=>
 some s1
def Ay:Nat->((List (List Int))×(List Int)×Int)->Option ((Unit)⊕(Int))
 |0,_=>none
 |n+1,(tables,t,i)=>
 if decide (i<(tables.length:Int))then
 if inb i tables then
 (Cq (gd tables i []) t).bind λr1=>
 if r1 then
 some (.inr i)
 else
 Ay n (tables,t,w64 (i+1))
 else none
 else
 some (.inl ())
def BB (tables:List (List Int)) (t:List Int):Option (Int):=
 (Ay Aa (tables,t,0)).bind λs1=>
  match s1 with
  | .inl s2=>
   some (-1)
  | .inr s3=>
   some s3
def Bh:Nat->((List Int)×(List Int)×Int)->Option ((Unit)⊕(Bool))
 |0,_=>none
 |n+1,(a,b,i)=>
 if decide (i<(a.length:Int))then
 if inb i a then
 if inb i b then
 if(gd a i 0) !=(gd b i 0)then
 if inb i a then
 if inb i b then
 some (.inr (decide ((gd a i 0)<(gd b i 0))))
 else none
 else none
 else
 Bh n (a,b,w64 (i+1))
 else none
 else none
 else
 some (.inl ())
def CP (a:List Int) (b:List Int):Option (Bool):=
 (Bh Aa (a,b,0)).bind λs1=>
  match s1 with
  | .inl s2=>
   some false
  | .inr s3=>
   some s3
def AN:Nat->((List (List Int))×(List Int)×Int)->Option ((List (List Int))×(List Int)×Int)
 |0,_=>none
 |n+1,(lists,l,k)=>
 if decide (k>0)then
 if inb (w64 (k-1)) lists then
 if decide ((l.length:Int)<((gd lists (w64 (k-1)) []).length:Int))then
 AN n (lists,l,w64 (k-1))
 else
 if inb (w64 (k-1)) lists then
 if(l.length:Int)==((gd lists (w64 (k-1)) []).length:Int)then
 if inb (w64 (k-1)) lists then
 (CP l (gd lists (w64 (k-1)) [])).bind λr1=>
 if r1 then
 AN n (lists,l,w64 (k-1))
 else
 some (lists,l,k)
 else none
 else
 some (lists,l,k)
 else none
 else none
 else
 some (lists,l,k)
def B1 (lists:List (List Int)) (l:List Int):Option ((List (List Int))):=
 (AN Aa (lists,l,(lists.length:Int))).bind λs1=>
 if(0:Int)<=0/\0<=s1.2.2/\s1.2.2<=(s1.1.length:Int)then
 if([]:List (List Int)).length+((s1.1.take (Int.toNat s1.2.2)).drop (Int.toNat 0)).length<=lim then
 if([]++((s1.1.take (Int.toNat s1.2.2)).drop (Int.toNat 0))).length+ [s1.2.1].length<=lim then
 if(0:Int)<=s1.2.2/\s1.2.2<=(s1.1.length:Int)/\(s1.1.length:Int)<=(s1.1.length:Int)then
 if(([]++((s1.1.take (Int.toNat s1.2.2)).drop (Int.toNat 0)))++ [s1.2.1]).length+((s1.1.take (Int.toNat (s1.1.length:Int))).drop (Int.toNat s1.2.2)).length<=lim then
 some ((([]++((s1.1.take (Int.toNat s1.2.2)).drop (Int.toNat 0)))++ [s1.2.1])++((s1.1.take (Int.toNat (s1.1.length:Int))).drop (Int.toNat s1.2.2)))
 else none
 else none
 else none
 else none
 else none
def Ah:Nat->((Int×(List Int))×(Int×(Int×(List ((List Int)×Int×(List (List Int))))))×(Int×(Int×(List ((List Int)×Int×(List (List Int))))))×Int×(List (List Int))×Int×(List Int)×Int)->Option ((Int×(List Int))×(Int×(Int×(List ((List Int)×Int×(List (List Int))))))×(Int×(Int×(List ((List Int)×Int×(List (List Int))))))×Int×(List (List Int))×Int×(List Int))
 |0,_=>none
 |n+1,(t3,t4,t6,t7,t8,t9,t10,t11)=>
 if inb t7 t6.2.2 then
 if inb t9 (((gd t6.2.2 t7 ([],(0,[]))).2).2)then
 if decide (t11<((gd (((gd t6.2.2 t7 ([],(0,[]))).2).2) t9 []).length:Int))then
 if inb t7 t6.2.2 then
 if inb t9 (((gd t6.2.2 t7 ([],(0,[]))).2).2)then
 if inb t11 (gd (((gd t6.2.2 t7 ([],(0,[]))).2).2) t9 [])then
 if inb (gd (gd (((gd t6.2.2 t7 ([],(0,[]))).2).2) t9 []) t11 0) t3.2 then
 if t10.length+ [gd t3.2 (gd (gd (((gd t6.2.2 t7 ([],(0,[]))).2).2) t9 []) t11 0) 0].length<=lim then
 Ah n ((t3.1,t3.2),(t4.1,(t4.2.1,t4.2.2)),(t6.1,(t6.2.1,t6.2.2)),t7,t8,t9,t10++ [gd t3.2 (gd (gd (((gd t6.2.2 t7 ([],(0,[]))).2).2) t9 []) t11 0) 0],w64 (t11+1))
 else none
 else none
 else none
 else none
 else none
 else
 some ((t3.1,t3.2),(t4.1,(t4.2.1,t4.2.2)),(t6.1,(t6.2.1,t6.2.2)),t7,t8,t9,t10)
 else none
 else none
def Af:Nat->((Int×(List Int))×(Int×(Int×(List ((List Int)×Int×(List (List Int))))))×(Int×(Int×(List ((List Int)×Int×(List (List Int))))))×Int×(List (List Int))×Int)->Option ((Int×(List Int))×(Int×(Int×(List ((List Int)×Int×(List (List Int))))))×(Int×(Int×(List ((List Int)×Int×(List (List Int))))))×Int×(List (List Int)))
 |0,_=>none
 |n+1,(t3,t4,t6,t7,t8,t9)=>
 if inb t7 t6.2.2 then
 if decide (t9<((((gd t6.2.2 t7 ([],(0,[]))).2).2).length:Int))then
 (Ah Aa ((t3.1,t3.2),(t4.1,(t4.2.1,t4.2.2)),(t6.1,(t6.2.1,t6.2.2)),t7,t8,t9,[],0)).bind λs4=>
 (BB s4.2.2.2.2.1 s4.2.2.2.2.2.2).bind λr5=>
 if decide (r5<0)then
 (B1 s4.2.2.2.2.1 s4.2.2.2.2.2.2).bind λr6=>
 Af n ((s4.1.1,s4.1.2),(s4.2.1.1,(s4.2.1.2.1,s4.2.1.2.2)),(s4.2.2.1.1,(s4.2.2.1.2.1,s4.2.2.1.2.2)),s4.2.2.2.1,r6,w64 (s4.2.2.2.2.2.1+1))
 else
 Af n ((s4.1.1,s4.1.2),(s4.2.1.1,(s4.2.1.2.1,s4.2.1.2.2)),(s4.2.2.1.1,(s4.2.2.1.2.1,s4.2.2.1.2.2)),s4.2.2.2.1,s4.2.2.2.2.1,w64 (s4.2.2.2.2.2.1+1))
 else
 some ((t3.1,t3.2),(t4.1,(t4.2.1,t4.2.2)),(t6.1,(t6.2.1,t6.2.2)),t7,t8)
 else none
def Ai:Nat->((Int×(List Int))×(Int×(Int×(List ((List Int)×Int×(List (List Int))))))×(Int×(Int×(List ((List Int)×Int×(List (List Int))))))×Int)->Option ((Int×(Int×(List ((List Int)×Int×(List (List Int))))))×(Int×(Int×(List ((List Int)×Int×(List (List Int)))))))
 |0,_=>none
 |n+1,(t3,t4,t6,t7)=>
 if decide (t7<(t6.2.2.length:Int))then
 (Af Aa ((t3.1,t3.2),(t4.1,(t4.2.1,t4.2.2)),(t6.1,(t6.2.1,t6.2.2)),t7,[],0)).bind λs4=>
 if inb s4.2.2.2.1 s4.2.2.1.2.2 then
 Ai n ((s4.1.1,s4.1.2),(s4.2.1.1,(s4.2.1.2.1,s4.2.1.2.2)),(s4.2.2.1.1,(s4.2.2.1.2.1,stt s4.2.2.1.2.2 s4.2.2.2.1 ((gd s4.2.2.1.2.2 s4.2.2.2.1 ([],(0,[]))).1,(((gd s4.2.2.1.2.2 s4.2.2.2.1 ([],(0,[]))).2).1,s4.2.2.2.2)))),w64 (s4.2.2.2.1+1))
 else none
 else
 some ((t4.1,(t4.2.1,t4.2.2)),(t6.1,(t6.2.1,t6.2.2)))
def AK (t0:Int×Int×(List ((List Int)×Int×(List (List Int))))) (t1:Int×(List Int)):Option ((Int×(Int×(List ((List Int)×Int×(List (List Int))))))×Bool):=
 (Cd (t0.1,(t0.2.1,t0.2.2))).bind λr1=>
 if !r1 then
 some ((0,(0,[])),false)
 else
 if t1.1 !=1 then
 some ((0,(0,[])),false)
 else
 (CI t0.2.1 (t1.1,t1.2)).bind λr2=>
 if !r2 then
 some ((0,(0,[])),false)
 else
 (Cc t0.2.2).bind λr3=>
 (Ai Aa ((t1.1,t1.2),(0,(0,[])),(t0.1,(t0.2.1,r3)),0)).bind λs4=>
 some ((s4.2.1,(s4.2.2.1,s4.2.2.2)),true)
def Bs (list:List (List Int)):Option ((List (List Int))):=
 (BN list).bind λr1=>
 (Ap r1 ()).bind λr2=>
 some r2
def Bq (arity:Int) (tuples:List (List Int)):Option ((Int×(List (List Int)))):=
 (Bs tuples).bind λr1=>
 (BO r1).bind λr2=>
 some (arity,r2)
def Aj:Nat->((List Int)×(Int×(List (List Int)))×(Int×(List (List Int)))×(List (List Int))×(List (List Int))×Int×Int)->Option ((Int×(List (List Int)))×(Int×(List (List Int)))×(List (List Int)))
 |0,_=>none
 |n+1,(f,r,t4,tuples,t10,t11,t12)=>
 if decide (t12<t11)then
 if inb t12 t10 then
 (BK (gd t10 t12 []) f).bind λr1=>
 if tuples.length+ [r1].length<=lim then
 Aj n (f,(r.1,r.2),(t4.1,t4.2),tuples++ [r1],t10,t11,w64 (t12+1))
 else none
 else none
 else
 some ((r.1,r.2),(t4.1,t4.2),tuples)
def AP (r:Int×(List (List Int))) (f:List Int):Option ((Int×(List (List Int)))):=
 (Aj Aa (f,(r.1,r.2),(0,[]),[],r.2,(r.2.length:Int),0)).bind λs1=>
 (Bq s1.1.1 s1.2.2).bind λr2=>
 some (r2.1,r2.2)
def BE (net:Int×Int×(List ((List Int)×Int×(List (List Int))))) (list:List ((List Int)×Int×(List (List Int)))):Option ((Int×(Int×(List ((List Int)×Int×(List (List Int))))))×Bool):=
 if decide ((list.length:Int)>40)then
 some ((0,(0,[])),false)
 else
 some ((net.1,(net.2.1,list)),true)
def Ae:Nat->((Int×Int×(List ((List Int)×Int×(List (List Int)))))×(Int×(List Int))×(Int×(Int×(List ((List Int)×Int×(List (List Int))))))×(List ((List Int)×Int×(List (List Int))))×(List ((List Int)×Int×(List (List Int))))×Int×Int)->Option ((Int×Int×(List ((List Int)×Int×(List (List Int)))))×(Int×(Int×(List ((List Int)×Int×(List (List Int))))))×(List ((List Int)×Int×(List (List Int)))))
 |0,_=>none
 |n+1,(net,f,t4,list,t27,t28,t29)=>
 if decide (t29<t28)then
 if inb t29 t27 then
 (Bv ((gd t27 t29 ([],(0,[]))).1)).bind λr3=>
 (AP (((gd t27 t29 ([],(0,[]))).2).1,((gd t27 t29 ([],(0,[]))).2).2) f.2).bind λr4=>
 if list.length+ [(r3,(r4.1,r4.2))].length<=lim then
 Ae n ((net.1,(net.2.1,net.2.2)),(f.1,f.2),(t4.1,(t4.2.1,t4.2.2)),list++ [(r3,(r4.1,r4.2))],t27,t28,w64 (t29+1))
 else none
 else none
 else
 some ((net.1,(net.2.1,net.2.2)),(t4.1,(t4.2.1,t4.2.2)),list)
def Ax (net:Int×Int×(List ((List Int)×Int×(List (List Int))))) (f:Int×(List Int)):Option ((Int×(Int×(List ((List Int)×Int×(List (List Int))))))×Bool):=
 (BL (net.1,(net.2.1,net.2.2))).bind λr1=>
 if !r1 then
 some ((0,(0,[])),false)
 else
 if f.1 !=1 then
 some ((0,(0,[])),false)
 else
 (CE (f.1,f.2) net.2.1).bind λr2=>
 if !r2 then
 some ((0,(0,[])),false)
 else
 (Ae Aa ((net.1,(net.2.1,net.2.2)),(f.1,f.2),(0,(0,[])),[],net.2.2,(net.2.2.length:Int),0)).bind λs3=>
 (BE (s3.1.1,(s3.1.2.1,s3.1.2.2)) s3.2.2).bind λr4=>
 some ((r4.1.1,(r4.1.2.1,r4.1.2.2)),r4.2)
def Al:Nat->((List ((List Int)×Int×(List (List Int))))×Int×Int)->Option ((Int)⊕(Int))
 |0,_=>none
 |n+1,(a,k,i)=>
 if decide (i<(a.length:Int))then
 if inb i a then
 (AJ ((gd a i ([],(0,[]))).1) k).bind λr1=>
 if decide (r1<0)then
 some (.inr (-1))
 else
 if inb i a then
 if(((gd a i ([],(0,[]))).2).1) !=r1 then
 some (.inr (-1))
 else
 if inb i a then
 (Bb (((gd a i ([],(0,[]))).2).2) (w64 (r1+1))).bind λr2=>
 if decide (r2<0)then
 some (.inr (-1))
 else
 Al n (a,r2,w64 (i+1))
 else none
 else none
 else none
 else
 some (.inl k)
def Ba (a:List ((List Int)×Int×(List (List Int)))) (k:Int):Option (Int):=
 (Al Aa (a,k,0)).bind λs1=>
  match s1 with
  | .inl s2=>
   some s2
  | .inr s3=>
   some s3
def Bi (a:Int×Int×(List ((List Int)×Int×(List (List Int))))) (k:Int):Option (Int):=
 (Ba a.2.2 k).bind λr1=>
 if decide (r1<0)then
 some (-1)
 else
 some r1
def A8 (t0:Int×Int×(List ((List Int)×Int×(List (List Int))))) (t1:Int×(List Int)):Option (Bool):=
 (BT (t0.1,(t0.2.1,t0.2.2)) 1048576).bind λr1=>
 if decide (r1<0)then
 some true
 else
 (CF (t1.1,t1.2) r1).bind λr2=>
 if decide (r2<0)then
 some true
 else
 (Az (t0.1,(t0.2.1,t0.2.2))).bind λr3=>
 (Bx (t1.1,t1.2)).bind λr4=>
 (AK (r3.1,(r3.2.1,r3.2.2)) (r4.1,r4.2)).bind λr5=>
 (Az (t0.1,(t0.2.1,t0.2.2))).bind λr6=>
 (Bx (t1.1,t1.2)).bind λr7=>
 (Ax (r6.1,(r6.2.1,r6.2.2)) (r7.1,r7.2)).bind λr8=>
 (Ao (r8.1.1,(r8.1.2.1,r8.1.2.2)) (r5.1.1,(r5.1.2.1,r5.1.2.2))).bind λr9=>
 if !r9 then
 some false
 else
 if r8.2 !=r5.2 then
 some false
 else
 (Az (t0.1,(t0.2.1,t0.2.2))).bind λr10=>
 (Ao (r6.1,(r6.2.1,r6.2.2)) (r10.1,(r10.2.1,r10.2.2))).bind λr11=>
 if !r11 then
 some false
 else
 (Bx (t1.1,t1.2)).bind λr12=>
 (Cr (r7.1,r7.2) (r12.1,r12.2)).bind λr13=>
 if !r13 then
 some false
 else
 (An (r6.1,(r6.2.1,r6.2.2)) 1).bind λr14=>
 (B0 (r7.1,r7.2) r14.2).bind λr15=>
 if decide (r15.2<0)then
 some false
 else
 (Ao (r8.1.1,(r8.1.2.1,r8.1.2.2)) (r5.1.1,(r5.1.2.1,r5.1.2.2))).bind λr16=>
 if !r16 then
 some false
 else
 if r8.2 !=r5.2 then
 some false
 else
 (An (r8.1.1,(r8.1.2.1,r8.1.2.2)) 1).bind λr17=>
 (Bi (r8.1.1,(r8.1.2.1,r17.1.2.2)) 1).bind λr18=>
 if decide (r18<0)then
 some false
 else
 if r18 !=r17.2 then
 some false
 else
 (Az (t0.1,(t0.2.1,t0.2.2))).bind λr19=>
 (Bx (t1.1,t1.2)).bind λr20=>
 (Ax (r19.1,(r19.2.1,r19.2.2)) (r20.1,r20.2)).bind λr21=>
 (Ao (r21.1.1,(r21.1.2.1,r21.1.2.2)) (r5.1.1,(r5.1.2.1,r5.1.2.2))).bind λr22=>
 if !r22 then
 some false
 else
 if r21.2 !=r5.2 then
 some false
 else
 (Bi (r8.1.1,(r8.1.2.1,r17.1.2.2)) 1).bind λr23=>
 if decide (r23<0)then
 some false
 else
 if r23 !=r17.2 then
 some false
 else
 some true
end T
open Go Go.Va
namespace T
theorem Dc {s t:List Int} (hs:s.length<=1099511627775) (hl:s.length=t.length):CP s t=some (decide (cmpL s t<0)):=by
 have key: ∀(n k:Nat),k<=s.length->s.length-k<n->(Bh n (s,t,(k:Int))).bind (λs1=>match s1 with| .inl _=>some false| .inr s3=>some s3)=some (decide (cmpL (s.drop k) (t.drop k)<0)):=by
  intro n
  induction n with
  |zero=>intro k _ h;omega
  |succ n ih=>
   intro k h1 hn
   by_cases k1:k<s.length
   ·have k2:k<t.length:=by omega
    rw[List.drop_eq_getElem_cons k1,List.drop_eq_getElem_cons k2]
    simp only[Bh,Ac,Ad k1,Ad k2,Ab (show k<4611686018427387904 by omega),cmpL]
    by_cases he:s[k]=t[k]
    ·have:=ih (k+1) k1 (by omega)
     simp[k1,k2,he]
     simpa using this
    ·by_cases hl:s[k]<t[k]<;>simp[k1,k2,he,hl]
   ·rw[List.drop_of_length_le (show s.length<=k by omega),List.drop_of_length_le (show t.length<=k by omega)]
    simp[Bh,k1,cmpL]
 have:=key Aa 0 (Nat.zero_le _) (by unfold Aa;omega)
 rw[List.drop_zero,List.drop_zero]at this
 exact this
theorem CH {ts:List (List Int)} {t:List Int} (hl:ts.length<=1000000) (hr: ∀r∈ts,r.length<=1000000): ∃r,BB ts t=some r/\(r<0↔t∉ts):=by
 have:=Fz ts.length (λf (_:Unit) i=>Ay f (ts,t,i)) (λ_=>()) (λi=>if decide (ts.getD i []=t)then some (some (.inr (i:Int)))else none) (e:=some (.inl ())) (λf i hi _=>?_) (λf=>?_) (n:=Aa) (by unfold Aa;omega)
 ·have this:Ay Aa (ts,t,0)=_:=this
  unfold BB
  rw[this,CM]
  cases h:(List.range ts.length).find? (λi=>decide (ts.getD i []=t))with
  |none=>
   refine⟨-1,rfl,λ_ hm=>?_,λ_=>by decide⟩
   rw[List.find?_eq_none]at h
   obtain⟨i,hi,e⟩:=List.mem_iff_getElem.1 hm
   have:=h i (List.mem_range.2 hi)
   rw[AB hi]at this
   simp[e]at this
  |some i=>
   have h1:=List.find?_some h
   have h2:=List.mem_range.1 (List.mem_of_find?_eq_some h)
   simp only[decide_eq_true_eq]at h1
   refine⟨(i:Int),rfl,λh=>by omega,λhm=>?_⟩
   rw[AB h2]at h1
   exact(hm (h1▸List.getElem_mem h2)).elim
 ·have e:=Da (a:=ts[i]) (b:=t) (by have:=hr _ (List.getElem_mem hi);omega)
  simp only[Ay,Ac,hi,Ad hi,if_true,e,Option.bind_some]
  rw[if_pos (by simp;omega),AB hi]
  by_cases h:ts[i]=t
  ·simp[h]
  ·rw[if_neg (by simpa using h),if_neg (by simpa using h),Ab (show i<4611686018427387904 by omega)]
 ·simp only[Ay]
  rw[if_neg (by simp)]
theorem Dd {list:List (List Int)} {t:List Int} {m:Nat} (hl:list.length<=1000000) (hm:m<=1000000) (hv: ∀u∈list,u.length=m) (ht:t.length=m) (hi:Bw list=true) (hn:t∉list):
  ∃out,B1 list t=some out/\Bw out=true/\(∀u,u∈out↔u=t∨u∈list)/\out.length=list.length+1:=by
 have hlim:lim=1099511627776:=rfl
 have key: ∀(k f:Nat),k<f->k<=list.length->(∀j (hj:j<list.length),k<=j->cmpL t list[j]<0)-> ∃c:Nat,AN f (list,t,(k:Int))=some (list,t,(c:Int))/\c<=list.length/\(∀j (hj:j<list.length),c<=j->cmpL t list[j]<0)/\(∀j (hj:j<list.length),j<c->cmpL list[j] t<0):=by
  intro k
  induction k with
  |zero=>
   intro f hf hk h
   obtain⟨f,rfl⟩: ∃z,f=z+1:=⟨f-1,by omega⟩
   refine⟨0,?_,by omega,h,λj hj h=>by omega⟩
   simp only[AN]
   rw[if_neg (by simp)]
  |succ k ih=>
   intro f hf hk h
   obtain⟨f,rfl⟩: ∃z,f=z+1:=⟨f-1,by omega⟩
   have hk1:k<list.length:=by omega
   have lk:=hv _ (List.getElem_mem hk1)
   have e:=Dc (s:=t) (t:=list[k]) (by omega) (by omega)
   have ew:w64 (((k+1:Nat):Int)-1)=(k:Int):=by rw[AQ (by omega) (by omega)];omega
   simp only[AN,ew,Ac,hk1,Ad hk1,if_true,e,Option.bind_some]
   rw[if_pos (by simp),if_neg (by simp;omega),if_pos (by simp;omega)]
   by_cases hlt:cmpL t list[k]<0
   ·rw[if_pos (by simpa using hlt)]
    refine ih f (by omega) (by omega) λj hj hkj=>?_
    rcases Nat.lt_or_ge k j with h1|h1
    ·exact h j hj (by omega)
    ·have:j=k:=by omega
     subst this;exact hlt
   ·rw[if_neg (by simpa using hlt)]
    refine⟨k+1,rfl,hk,h,λj hj hjk=>?_⟩
    have hne:t≠list[k]:=λe=>hn (e▸List.getElem_mem hk1)
    have h1:=cmpL_symm t list[k]
    have h2:cmpL t list[k]≠0:=λe=>hne (cmpL_eq.1 e)
    have h3:cmpL list[k] t<0:=by omega
    rcases Nat.lt_or_ge j k with h4|h4
    ·exact cmpL_trans (CA hi j k h4 hk1) h3
    ·have:j=k:=by omega
     subst this;exact h3
 obtain⟨c,e,hc,h1,h2⟩:=key list.length Aa (by unfold Aa;omega) (Nat.le_refl _) (λj hj h=>by omega)
 have e1:(list.take (Int.toNat (c:Int))).drop (Int.toNat 0)=list.take c:=by simp
 have e2:(list.take (Int.toNat (list.length:Int))).drop (Int.toNat (c:Int))=list.drop c:=by simp
 have t1:(list.take c).length=c:=by rw[List.length_take];omega
 unfold B1
 rw[e]
 simp only[Option.bind_some,e1,e2]
 rw[if_pos (by omega),if_pos (by simp;omega),if_pos (by simp;omega),if_pos (by omega),if_pos (by simp;omega)]
 refine⟨_,rfl,?_,λu=>?_,by simp;omega⟩
 ·rw[B4]at hi⊢
  simp only[List.nil_append]
  have hsp:list=list.take c++list.drop c:=(List.take_append_drop c list).symm
  rw[hsp,List.pairwise_append]at hi
  have h4: ∀u∈list.take c,cmpL u t<0:=λu hu=>by
   obtain⟨i,hi',rfl⟩:=List.mem_iff_getElem.1 hu
   rw[List.getElem_take]
   exact h2 i _ (by omega)
  have h5: ∀u∈list.drop c,cmpL t u<0:=λu hu=>by
   obtain⟨i,hi',rfl⟩:=List.mem_iff_getElem.1 hu
   rw[List.length_drop]at hi'
   rw[List.getElem_drop]
   exact h1 _ _ (by omega)
  rw[List.pairwise_append,List.pairwise_append]
  refine⟨⟨hi.1,List.pairwise_singleton _ _,λa ha b hb=>by rw[List.mem_singleton.1 hb];exact h4 a ha⟩,hi.2.1,λa ha b hb=>?_⟩
  rcases List.mem_append.1 ha with ha|ha
  ·exact hi.2.2 a ha b hb
  ·rw[List.mem_singleton.1 ha];exact h5 b hb
 ·have hsp:u∈list↔u∈list.take c∨u∈list.drop c:=by rw[←List.mem_append,List.take_append_drop]
  simp only[List.nil_append,List.mem_append,List.mem_singleton,hsp]
  constructor
  ·rintro ((h|h)|h)
   ·exact Or.inr (Or.inl h)
   ·exact Or.inl h
   ·exact Or.inr (Or.inr h)
  ·rintro (h|h|h)
   ·exact Or.inl (Or.inr h)
   ·exact Or.inl (Or.inl h)
   ·exact Or.inr h
theorem EZ {list l:List (List Int)} {t:List Int} {m:Nat} (hl:list.length<=100000) (hm:m<=1000000) (hv: ∀u∈l,u.length=m) (ht:t.length=m) (hi:Ca l=list):
  ∃r,BB list t=some r/\((r<0/\B1 list t=some (Ca (l++ [t])))∨(¬r<0/\Ca (l++ [t])=list)):=by
 have hv': ∀u∈list,u.length=m:=λu hu=>hv u (setL_mem.1 (hi▸hu))
 have hinc:Bw list=true:=hi▸DS l
 obtain⟨r,e,hr⟩:=CH (t:=t) (show list.length<=1000000 by omega) λu hu=>by rw[hv' u hu];exact hm
 refine⟨r,e,?_⟩
 by_cases h:r<0
 ·obtain⟨out,e2,g1,g2,_⟩:=Dd (by omega) hm hv' ht hinc (hr.1 h)
  refine Or.inl ⟨h,?_⟩
  rw[e2]
  refine congrArg some (Eh g1 λu=>?_).symm
  rw[g2,List.mem_append,List.mem_singleton,←hi,setL_mem]
  exact⟨λh=>h.symm,λh=>h.symm⟩
 ·refine Or.inr ⟨h,Eh hinc λu=>?_⟩
  have hm:t∈list:=by
   by_cases hm:t∈list
   ·exact hm
   ·exact absurd (hr.2 hm) h
  rw[List.mem_append,List.mem_singleton,←hi,setL_mem]
  rw[←hi,setL_mem]at hm
  exact⟨Or.inl,λh=>h.elim id λe=>e▸hm⟩
theorem Es {l:List (List Int)} (hl:l.length<=100000) (hr: ∀r∈l,r.length<=100000):Bs l=some (Zn cmpL l):=by
 unfold Bs
 rw[Dq hl hr]
 have:Ap l ()=some (Zn cmpL l):=by
  unfold Ap
  rw[if_pos]
  refine⟨by unfold lim;omega,?_⟩
  rw[List.all_eq_true]
  intro r h
  rw[decide_eq_true_iff]
  have:=hr r h;unfold lim;omega
 simp only[Option.bind_some,this]
theorem Dr {l:List (List Int)} (hl:l.length<=100000) (hr: ∀r∈l,r.length<=100000):BO l=some (Zx l):=by
 unfold BO
 rw[if_pos]
 refine⟨by unfold lim;omega,?_⟩
 rw[List.all_eq_true]
 intro r h
 rw[decide_eq_true_iff]
 have:=hr r h;unfold lim;omega
theorem D2 {ar:Int} {l:List (List Int)} (hl:l.length<=100000) (hr: ∀r∈l,r.length<=100000):Bq ar l=some (ar,Ca l):=by
 have hp:=D5 l
 unfold Bq
 rw[Es hl hr]
 simp only[Option.bind_some]
 rw[Dr (by rw[hp.length_eq];exact hl) λr h=>hr r (hp.mem_iff.1 h)]
 rfl
theorem Cv {l:List Con} {k:Int} (hl:l.length<=1048576) (hr: ∀c∈l,DJ c) (h0:0<=k) (hB:k+((l.map wC).sum:Nat)<=BM):Ba (mkL Cj l k).1 k=some (mkL Cj l k).2:=by
 unfold Ba
 have hlen:(mkL Cj l k).1.length=l.length:=BA _ _ _
 have:=Ea Cj (λc k=>(AJ c.1 k).bind λr1=>if r1<0 then some (-1)else if c.2.1=r1 then Bb c.2.2 (w64 (r1+1))else some (-1)) wC BM l k (λn k' i=>Al n ((mkL Cj l k).1,k',i)) 0 (λc _ k=>Cn c k) h0 hB (λc hc k' hk0 hkB=>?_) (λn k' i hi hk0 hkB=>?_) (λn k'=>by rw[Nat.zero_add];simp[Al,hlen]) Aa (by unfold Aa;omega)
 ·rw[show((0:Nat):Int)=0 from rfl]at this
  rw[this];rfl
 ·have hcs:=hr c hc
  have e1:=By c.1 k'
  have hkB2:=hkB
  unfold wC BM at hkB2
  unfold wC at hkB
  push_cast at hkB hkB2
  unfold Cj
  dsimp only
  rw[CN hcs.1 hk0 (by omega)]
  simp only[Option.bind_some]
  rw[if_neg (by omega),if_pos True.intro,AQ (by omega) (by omega)]
  exact Dv hcs.2.1 hcs.2.2 (by omega) (by omega)
 ·have hi':i<(mkL Cj l k).1.length:=by omega
  rw[Nat.zero_add]
  simp only[Al,Ac,hi',Ad hi',if_true,Ab (show i<4611686018427387904 by omega)]
  rw[if_pos (by simp;omega)]
  have e:(mkL Cj l k).1[i]'(by rw[BA];exact hi)=(mkL Cj l k).1[i]:=rfl
  rw[e]
  generalize (mkL Cj l k).1[i]=c
  cases h:AJ c.1 k' with
  |none=>rfl
  |some r1=>
   simp only[Option.bind_some]
   by_cases h1:r1<0
   ·rw[if_pos (by simpa using h1),if_pos h1];rfl
   ·rw[if_neg (by simpa using h1),if_neg h1]
    by_cases h2:c.2.1=r1
    ·rw[if_neg (by simp[h2]),if_pos h2]
     cases Bb c.2.2 (w64 (r1+1))with
     |none=>rfl
     |some r2=>
      simp only[Option.bind_some]
      by_cases h3:r2<0
      ·rw[if_pos (by simpa using h3),if_pos h3]
      ·rw[if_neg (by simpa using h3),if_neg h3]
    ·rw[if_pos (by simpa using h2),if_neg h2];rfl
end T
open Go Go.Va
namespace T
section
variable {a:Net} {f:Opn} {n:Int}
def BJ (g:List Int) (t:List Int):List Int:=t.map (DI g)
def Be (g:List Int) (c:Con):Con:=(c.1,(c.2.1,Ca (c.2.2.map (BJ g))))
def Bt (a:Net) (f:Opn):Net×Bool:=if DA a&&(decide (f.1=1)&&opB a.2.1 f)then((a.1,(a.2.1,a.2.2.map (Be f.2))),true)else((0,(0,[])),false)
structure TabC (g:List Int) (c:Con):Prop where
 sl:c.1.length<=1000
 tl: ∀t∈c.2.2,t.length=c.1.length
 tv: ∀t∈c.2.2,∀v∈t,0<=v/\v<g.length
 many:c.2.2.length<=64
theorem C1 {g t:List Int}:(BJ g t).length=t.length:=by simp[BJ]
theorem Df {g:List Int} {c:Con} (h:TabC g c):AP c.2 g=some (Be g c).2:=by
 obtain⟨sc,ar,ts⟩:=c
 have hl:=h.many
 have hsl:=h.sl
 dsimp only at hl hsl
 have:=Du ts.length (λm (o:List (List Int)) i=>Aj m (g,(ar,ts),(0,[]),o,ts,(ts.length:Int),i)) (λk=>(ts.take k).map (BJ g)) (r:=some ((ar,ts),(0,[]),ts.map (BJ g))) (λm k hk=>?_) (λm=>?_) (n:=Aa) (by unfold Aa;omega)
 ·have this:Aj Aa (g,(ar,ts),(0,[]),[],ts,(ts.length:Int),0)=_:=this
  unfold AP Be
  dsimp only
  rw[this]
  simp only[Option.bind_some]
  rw[D2 (by simp;omega) λr hr=>by
   obtain⟨t,ht,rfl⟩:=List.mem_map.1 hr
   have h1:=h.tl t ht
   dsimp only at h1
   rw[C1];omega]
  rfl
 ·have hm:=List.getElem_mem hk
  have h1:=h.tl _ hm
  dsimp only at h1
  have e:=CR (f:=ts[k]) (g:=g) (by omega) (h.tv _ hm)
  simp only[Aj,Ac,hk,Ad hk,if_true,e,Option.bind_some,List.take_succ_eq_append_getElem hk,List.map_append,List.map_cons,List.map_nil,Ab (show k<4611686018427387904 by omega)]
  rw[if_pos (by simp;omega),if_pos (by simp;unfold lim;omega)]
  rfl
 ·simp only[Aj,List.take_length]
  rw[if_neg (by simp)]
theorem Ew {l:List Int} (h:l.length<=1000000):Bv l=some l:=by
 unfold Bv
 rw[if_pos (by simp;unfold lim;omega)];simp
theorem Dh {g:List Int} (hc: ∀c∈a.2.2,TabC g c) (hl:a.2.2.length<=1000):Ae Aa (a,(1,g),(0,(0,[])),[],a.2.2,(a.2.2.length:Int),0)=some (a,(0,(0,[])),a.2.2.map (Be g)):=by
 have:=Du a.2.2.length (λm (o:List Con) i=>Ae m (a,(1,g),(0,(0,[])),o,a.2.2,(a.2.2.length:Int),i)) (λk=>(a.2.2.take k).map (Be g)) (r:=some (a,(0,(0,[])),a.2.2.map (Be g))) (λm k hk=>?_) (λm=>?_) (n:=Aa) (by unfold Aa;omega)
 ·exact this
 ·have h:=hc _ (List.getElem_mem hk)
  have e1:=Ew (l:=a.2.2[k].1) (by have:=h.sl;omega)
  have e2:=Df h
  have e2:AP (a.2.2[k].2.1,a.2.2[k].2.2) g=_:=e2
  simp only[Ae,Ac,hk,Ad hk,if_true,e1,e2,Option.bind_some,List.take_succ_eq_append_getElem hk,List.map_append,List.map_cons,List.map_nil,Ab (show k<4611686018427387904 by omega)]
  rw[if_pos (by simp;omega),if_pos (by simp;unfold lim;omega)]
  rfl
 ·simp only[Ae,List.take_length]
  rw[if_neg (by simp)]
theorem EU {l out:List Con} {i:Nat} (hi:i<l.length) (hr: ∀r∈l[i].2.2,r.length<=1048576) (hl:l[i].2.2.length<=1048576) (s:List Int) (ar:Int):AF Aa (l,out,(i:Int),(s,(ar,[])),0)=some (l,out,(i:Int),(s,(ar,l[i].2.2))):=by
 have:=Du l[i].2.2.length (λm (o:List (List Int)) k=>AF m (l,out,(i:Int),(s,(ar,o)),k)) (λk=>l[i].2.2.take k) (r:=some (l,out,(i:Int),(s,(ar,l[i].2.2)))) (λm k hk=>?_) (λm=>?_) (n:=Aa) (by unfold Aa;omega)
 ·exact this
 ·have e:=Ct (l:=l[i].2.2[k]) (by have:=hr _ (List.getElem_mem hk);omega)
  simp only[AF,Ac,hi,Ad hi,hk,Ad hk,if_true,e,Option.bind_some,Ab (show k<4611686018427387904 by omega)]
  rw[if_pos (by simp;omega),if_pos (by simp;unfold lim;omega),List.take_succ_eq_append_getElem hk]
 ·simp only[AF,Ac,hi,Ad hi,if_true,List.take_length]
  rw[if_neg (by simp)]
theorem CU {l:List Con} (hl:l.length<=1000000) (hc: ∀c∈l,DJ c):Cc l=some l:=by
 have:=Du l.length (λm (o:List Con) i=>AE m (l,o,i)) (λk=>l.take k) (r:=some l) (λm k hk=>?_) (λm=>?_) (n:=Aa) (by unfold Aa;omega)
 ·have this:AE Aa (l,[],0)=_:=this
  unfold Cc
  rw[this];rfl
 ·have h:=hc _ (List.getElem_mem hk)
  have e1:=Ct (l:=l[k].1) (by have:=h.1;omega)
  have e2:=EU (out:=l.take k) hk (λr hr=>by have:=h.2.2 r hr;omega) (by have:=h.2.1;omega) l[k].1 l[k].2.1
  simp only[AE,Ac,hk,Ad hk,if_true,e1,e2,Option.bind_some,Ab (show k<4611686018427387904 by omega)]
  rw[if_pos (by simp;omega),if_pos (by simp;unfold lim;omega),List.take_succ_eq_append_getElem hk]
 ·simp only[AE,List.take_length]
  rw[if_neg (by simp)]
def CG (h:Con->Con) (l:List Con) (k:Nat):List Con:=(l.take k).map h++l.drop k
theorem C9 {h:Con->Con} {l:List Con} {k:Nat} (hk:k<=l.length):(CG h l k).length=l.length:=by simp[CG];omega
theorem DM {h:Con->Con} {l:List Con} {k:Nat} (hk:k<l.length) (d:Con):gd (CG h l k) (k:Int) d=l[k]:=by
 have hl:=C9 (h:=h) (show k<=l.length by omega)
 rw[Ad (by omega)]
 unfold CG
 rw[List.getElem_append_right (by simp;omega)]
 simp only[List.length_map,List.length_take,List.getElem_drop]
 congr 1;omega
theorem EC {h:Con->Con} {l:List Con} {k:Nat} (hk:k<l.length):(CG h l k).set k (h l[k])=CG h l (k+1):=by
 unfold CG
 rw[List.set_append_right _ _ (by simp;omega),List.drop_eq_getElem_cons hk,List.take_succ_eq_append_getElem hk,List.map_append]
 have e:k-((l.take k).map h).length=0:=by simp;omega
 rw[e,List.set_cons_zero,List.append_assoc];rfl
theorem DE {C:List Con} {g:List Int} {c:Con} (h:TabC g c) {i j:Nat} (hi:i<C.length) (hg:gd C (i:Int) ([],(0,[]))=c) (hj:j<c.2.2.length) (F:Int) (t4:Net) (v n:Int) (T8:List (List Int)):
  Ah Aa ((F,g),t4,(v,(n,C)),(i:Int),T8,(j:Int),[],0)=some ((F,g),t4,(v,(n,C)),(i:Int),T8,(j:Int),BJ g c.2.2[j]):=by
 have hsl:=h.sl
 have htl:=h.tl _ (List.getElem_mem hj)
 have:=Du c.2.2[j].length (λm (o:List Int) x=>Ah m ((F,g),t4,(v,(n,C)),(i:Int),T8,(j:Int),o,x)) (λk=>BJ g (c.2.2[j].take k)) (r:=some ((F,g),t4,(v,(n,C)),(i:Int),T8,(j:Int),BJ g c.2.2[j])) (λm k hk=>?_) (λm=>?_) (n:=Aa) (by unfold Aa;omega)
 ·exact this
 ·have hv:=h.tv _ (List.getElem_mem hj) _ (List.getElem_mem hk)
  have hin:inb c.2.2[j][k] g:=hv
  have eg:gd g c.2.2[j][k] 0=DI g c.2.2[j][k]:=rfl
  simp only[Ah,Ac,hi,hg,hj,Ad hj,hk,Ad hk,if_true,hin,eg,Ab (show k<4611686018427387904 by omega)]
  rw[if_pos (by simp;omega),if_pos (by simp[BJ];unfold lim;omega),List.take_succ_eq_append_getElem hk]
  simp only[BJ,List.map_append,List.map_cons,List.map_nil]
 ·simp only[Ah,Ac,hi,hg,hj,Ad hj,if_true,List.take_length]
  rw[if_neg (by simp)]
theorem DW {C:List Con} {g:List Int} {c:Con} (h:TabC g c) {i:Nat} (hi:i<C.length) (hg:gd C (i:Int) ([],(0,[]))=c) (F:Int) (t4:Net) (v n:Int):
  Af Aa ((F,g),t4,(v,(n,C)),(i:Int),[],0)=some ((F,g),t4,(v,(n,C)),(i:Int),Ca (c.2.2.map (BJ g))):=by
 have hsl:=h.sl
 have hm:=h.many
 have:=Du c.2.2.length (λm (o:List (List Int)) x=>Af m ((F,g),t4,(v,(n,C)),(i:Int),o,x)) (λk=>Ca ((c.2.2.take k).map (BJ g))) (r:=some ((F,g),t4,(v,(n,C)),(i:Int),Ca (c.2.2.map (BJ g)))) (λm k hk=>?_) (λm=>?_) (n:=Aa) (by unfold Aa;omega)
 ·have e0:Ca ((c.2.2.take 0).map (BJ g))= []:=by rw[List.take_zero,List.map_nil];simp[Ca,Zn,Zx,Zm]
  rw[e0]at this
  exact this
 ·have e1:=DE h hi hg hk F t4 v n (Ca ((c.2.2.take k).map (BJ g)))
  have hvl: ∀u∈(c.2.2.take k).map (BJ g),u.length=c.1.length:=λu hu=>by
   obtain⟨t,ht,rfl⟩:=List.mem_map.1 hu
   rw[C1];exact h.tl t (List.mem_of_mem_take ht)
  have hle:=Eg ((c.2.2.take k).map (BJ g))
  rw[List.length_map,List.length_take]at hle
  obtain⟨r,e2,e3⟩:=EZ (list:=Ca ((c.2.2.take k).map (BJ g))) (l:=(c.2.2.take k).map (BJ g)) (t:=BJ g c.2.2[k]) (m:=c.1.length) (by omega) (by omega) hvl (by rw[C1];exact h.tl _ (List.getElem_mem hk)) rfl
  have e4:(c.2.2.take (k+1)).map (BJ g)=(c.2.2.take k).map (BJ g)++ [BJ g c.2.2[k]]:=by rw[List.take_succ_eq_append_getElem hk,List.map_append];rfl
  simp only[Af,Ac,hi,hg,if_true,e1,e2,Option.bind_some,Ab (show k<4611686018427387904 by omega)]
  rw[if_pos (by simp;omega),e4]
  rcases e3 with ⟨h1,h2⟩|⟨h1,h2⟩
  ·rw[if_pos (by simpa using h1),h2];rfl
  ·rw[if_neg (by simpa using h1),h2]
 ·simp only[Af,Ac,hi,hg,if_true,List.take_length]
  rw[if_neg (by simp)]
theorem DU {l:List Con} {g:List Int} (hc: ∀c∈l,TabC g c) (hl:l.length<=1000) (F:Int) (t4:Net) (v n:Int):
  Ai Aa ((F,g),t4,(v,(n,l)),0)=some (t4,(v,(n,l.map (Be g)))):=by
 have:=Du l.length (λm (o:List Con) x=>Ai m ((F,g),t4,(v,(n,o)),x)) (CG (Be g) l) (r:=some (t4,(v,(n,l.map (Be g))))) (λm k hk=>?_) (λm=>?_) (n:=Aa) (by unfold Aa;omega)
 ·have e0:CG (Be g) l 0=l:=by simp[CG]
  rw[e0]at this
  exact this
 ·have hml:=C9 (h:=Be g) (show k<=l.length by omega)
  have hkm:k<(CG (Be g) l k).length:=by omega
  have e1:=DW (hc _ (List.getElem_mem hk)) hkm (DM hk _) F t4 v n
  simp only[Ai,e1,Option.bind_some,Ac,hkm,if_true,DM hk,B2,Ab (show k<4611686018427387904 by omega)]
  rw[if_pos (by simp;omega),←EC hk]
  rfl
 ·have hml:=C9 (h:=Be g) (Nat.le_refl l.length)
  simp only[Ai]
  rw[if_neg (by simp;omega)]
  have e0:CG (Be g) l l.length=l.map (Be g):=by simp[CG]
  rw[e0]
theorem EK (h:NetOk a) (hf:opB a.2.1 f=true) (h1:f.1=1): ∀c∈a.2.2,TabC f.2 c:=by
 intro c hc
 have hco:=h.con c hc
 unfold opB at hf
 simp only[Bool.and_eq_true,decide_eq_true_eq]at hf
 have hlen:(f.2.length:Int)=a.2.1:=by have:=hf.1.2;rw[h1]at this;rw[this];exact Int.pow_succ a.2.1 0|>.trans (by simp)
 refine⟨by have:=hco.sl;have:=hco.ar;omega,hco.tl,λt ht v hv=>?_,hco.many⟩
 obtain⟨i,hi,rfl⟩:=List.mem_iff_getElem.1 hv
 rw[hlen]
 exact hco.tv t ht i hi
theorem DX (hs:Di a) (hl:f.2.length<=1048576):Ax a f=some (Bt a f)/\AK a f=some (Bt a f):=by
 obtain⟨v,n,cs⟩:=a
 obtain⟨F,g⟩:=f
 unfold Ax AK Bt
 dsimp only
 rw[Cz hs,CV hs]
 simp only[Option.bind_some]
 cases hb:DA (v,(n,cs))with
 |false=>exact⟨rfl,rfl⟩
 |true=>
  have hok:=ED hb
  have hn:=hok.hn
  have hcl:=hok.hc
  dsimp only at hn hcl
  by_cases h1:F=1
  ·subst h1
   have o1:=Dy (n:=n) (f:=(1,g)) (by omega) hl
   have o2:=DD (n:=n) (f:=(1,g)) (by omega) hl
   simp only[o1,o2,Bool.not_true,Bool.false_eq_true,if_false,Option.bind_some]
   cases ho:opB n (1,g)with
   |false=>exact⟨rfl,rfl⟩
   |true=>
    have ht:=EK hok ho rfl
    have e1:=Dh (a:=(v,(n,cs))) ht (by dsimp only;omega)
    have e1:Ae Aa ((v,(n,cs)),(1,g),(0,(0,[])),[],cs,(cs.length:Int),0)=_:=e1
    have e2:=CU (l:=cs) (by omega) hs.2
    have e3:=DU ht (by dsimp only;omega) 1 (0,(0,[])) v n
    simp only[e1,e2,e3,Option.bind_some,bne_self_eq_false,Bool.not_true,Bool.false_eq_true,if_false]
    unfold BE
    rw[if_neg (by simp;omega)]
    exact⟨rfl,rfl⟩
  ·have hF:(F !=1)=true:=by simpa using h1
   simp only[hF,Bool.not_true,Bool.false_eq_true,if_false,if_true,decide_eq_false h1,Bool.false_and,Bool.and_false]
   exact⟨trivial,trivial⟩
def DC (a:Net):Prop:=a.2.2.length<=100/\ ∀c∈a.2.2,c.1.length<=100/\c.2.2.length<=1000/\ ∀r∈c.2.2,r.length<=100
theorem Ei {a:Net} (h:DC a):Di a:=⟨by have:=h.1;omega,λc hc=>⟨by have:=(h.2 c hc).1;omega,by have:=(h.2 c hc).2.1;omega,λr hr=>by have:=(h.2 c hc).2.2 r hr;omega⟩⟩
theorem Er {a:Net} (h:DC a):(a.2.2.map wC).sum<=100*100101:=by
 have h1: ∀l:List Con,(∀c∈l,wC c<=100101)->(l.map wC).sum<=l.length*100101:=by
  intro l
  induction l with
  |nil=>intro _;simp
  |cons c l ih=>
   intro h
   have:=ih λc hc=>h c (List.mem_cons_of_mem _ hc)
   have:=h c (by simp)
   rw[List.map_cons,List.sum_cons,List.length_cons,Nat.succ_mul];omega
 have h2: ∀l:List (List Int),(∀r∈l,r.length<=100)->(l.map List.length).sum<=100*l.length:=by
  intro l
  induction l with
  |nil=>intro _;simp
  |cons c l ih=>
   intro h
   have:=ih λc hc=>h c (List.mem_cons_of_mem _ hc)
   have:=h c (by simp)
   rw[List.map_cons,List.sum_cons,List.length_cons];omega
 refine Nat.le_trans (h1 _ λc hc=>?_) (Nat.mul_le_mul h.1 (Nat.le_refl _))
 obtain⟨g1,g2,g3⟩:=h.2 c hc
 have:=h2 _ g3
 unfold wC;omega
theorem DT {a:Net} (h:DC a): ∃b k,An a 1=some (b,k)/\Bi (a.1,(a.2.1,b.2.2)) 1=some k/\0<=k:=by
 have h1:=Er h
 have hs:=Ei h
 have e1:=B9 (f:=Cj) (w:=wC) a.2.2 1 λc _ k=>Cn c k
 have e2:=BW (l:=a.2.2) (k:=1) hs.1 hs.2 (by omega) (by unfold BM;omega)
 have e3:=Cv (l:=a.2.2) (k:=1) hs.1 hs.2 (by omega) (by unfold BM;omega)
 refine⟨((),((),(mkL Cj a.2.2 1).1)),(mkL Cj a.2.2 1).2,?_,?_,by omega⟩
 ·unfold An;rw[e2];rfl
 ·unfold Bi
  dsimp only
  rw[e3]
  simp only[Option.bind_some]
  rw[if_neg (by simp;omega)]
theorem DP (hs:Di a):DC (Bt a f).1:=by
 unfold Bt
 by_cases hb:(DA a&&(decide (f.1=1)&&opB a.2.1 f))=true
 ·rw[if_pos hb]
  simp only[Bool.and_eq_true,decide_eq_true_eq]at hb
  have hok:=ED hb.1
  have ht:=EK hok hb.2.2 hb.2.1
  refine⟨by dsimp only;rw[List.length_map];have:=hok.hc;omega,λc hc=>?_⟩
  obtain⟨q,hq,rfl⟩:=List.mem_map.1 hc
  have h1:=ht q hq
  have h2:=hok.con q hq
  have h3:=h2.sl;have h4:=h2.ar
  have h5:=Eg (q.2.2.map (BJ f.2))
  have h6:=h1.many
  rw[List.length_map]at h5
  refine⟨by unfold Be;dsimp only;omega,by unfold Be;dsimp only;omega,λr hr=>?_⟩
  have hr:=setL_mem.1 hr
  obtain⟨t,ht',rfl⟩:=List.mem_map.1 hr
  rw[C1,h1.tl t ht'];omega
 ·rw[if_neg hb]
  exact⟨by simp,by simp⟩
theorem C5 {b:Net} (h:Di b):Ao b b=some true:=by rw[Ds h];simp
theorem FnExactRelabelNetwork_law (h:wfT Fm a) (hf:wfT (.pair .int (.slice .int)) f):A8 a f=some true:=by
 unfold A8
 rw[DG (a:=(a.1,(a.2.1,a.2.2))) h]
 simp only[Option.bind_some]
 rw[show CL (a.1,(a.2.1,a.2.2))=CL a from rfl]
 by_cases h:szR (CL a) 1048576<0
 ·rw[if_pos (by simpa using h)]
 ·obtain⟨hs,ht⟩:=CZ h
  rw[if_neg (by simpa using h)]
  have hz: ∃q,szR (CL a) 1048576=q/\0<=q/\q<=1048576:=by unfold szR at h⊢;split at h<;>exact⟨_,rfl,by split<;>omega,by split<;>omega⟩
  obtain⟨q,hq,hq0,hq1⟩:=hz
  rw[hq,E0 (f:=(f.1,f.2)) hq0 (by omega) hf.2.1]
  simp only[Option.bind_some]
  by_cases hh:szR f.2.length q<0
  ·rw[if_pos (by simpa using hh)]
  ·rw[if_neg (by simpa using hh)]
   have hl:f.2.length<=1048576:=by unfold szR at hh;split at hh<;>omega
   obtain⟨b,k,hm,hk0,hk1⟩:=C8 hs ht
   obtain⟨b',k',hm',hk0'⟩:=Eo hl hk0 (by omega)
   have hsm:=DP (f:=f) hs
   obtain⟨d,m,m1,m2,m3⟩:=DT hsm
   obtain⟨e1,e2⟩:=DX hs hl
   have e1:Ax (a.1,(a.2.1,a.2.2)) (f.1,f.2)=_:=e1
   have e2:AK (a.1,(a.2.1,a.2.2)) (f.1,f.2)=_:=e2
   have q1:Ao ((Bt a f).1.1,((Bt a f).1.2.1,(Bt a f).1.2.2)) ((Bt a f).1.1,((Bt a f).1.2.1,(Bt a f).1.2.2))=_:=C5 (Ei hsm)
   have m1:An ((Bt a f).1.1,((Bt a f).1.2.1,(Bt a f).1.2.2)) 1=_:=m1
   have hm:An (a.1,(a.2.1,a.2.2)) 1=_:=hm
   have hm':B0 (f.1,f.2) k=_:=hm'
   have q2:Ao (a.1,(a.2.1,a.2.2)) (a.1,(a.2.1,a.2.2))=_:=C5 hs
   have q3:Cr (f.1,f.2) (f.1,f.2)=_:=EV hl
   have q4:Az (a.1,(a.2.1,a.2.2))=_:=DH hs
   have q5:Bx (f.1,f.2)=_:=E1 hl
   simp only[q4,q5,e1,e2,q1,q2,q3,hm,hm',m1,m2,Option.bind_some]
   simp[show¬k'<0 by omega,show¬m<0 by omega]
end
end T
open Go Go.Va
namespace T
section
variable {n:Nat} {t:List Int}
def ER (n:Nat) (t:List Int) (x y:Nat):Nat:=(t.getD (x*n+y) 0).toNat
structure TabOk (n:Nat) (t:List Int):Prop where
 hn:1<=n/\n<=4
 len:t.length=n*n
 val: ∀x∈t,0<=x/\x<(n:Int)
theorem ix2 (hn:n<=4) {x y:Nat} (hx:x<n) (hy:y<n):w64 (w64 ((x:Int)*(n:Int))+(y:Int))=((x*n+y:Nat):Int)/\x*n+y<n*n:=by
 have h1:x*n+y<n*n:=by
  calc x*n+y<x*n+n:=by omega
   _=(x+1)*n:=by rw[Nat.succ_mul]
   _<=n*n:=Nat.mul_le_mul_right _ hx
 have h2:n*n<=4*4:=Nat.mul_le_mul hn hn
 have e:(x:Int)*(n:Int)=((x*n:Nat):Int):=by simp
 have a1:w64 ((x*n:Nat):Int)=((x*n:Nat):Int):=AQ (by omega) (by omega)
 rw[e,a1,AQ (by omega) (by omega)]
 exact⟨by omega,h1⟩
theorem TabOk.at (h:TabOk n t) {x y:Nat} (hx:x<n) (hy:y<n):w64 (w64 ((x:Int)*(n:Int))+(y:Int))=((x*n+y:Nat):Int)/\inb ((x*n+y:Nat):Int) t/\gd t ((x*n+y:Nat):Int) 0=((ER n t x y:Nat):Int)/\ER n t x y<n:=by
 obtain⟨h1,h2⟩:=ix2 h.hn.2 hx hy
 have hl:x*n+y<t.length:=by rw[h.len];exact h2
 have hv:=h.val _ (List.getElem_mem hl)
 refine⟨h1,by rw[Ac];exact hl,?_,?_⟩
 ·rw[Ad hl];unfold ER;rw[AB hl];omega
 ·unfold ER;rw[AB hl];omega
end
end T
open Go Go.Va
namespace T
section
variable {a:Net} {K:Nat} {c:Con} {i p n:Nat} {st:ASt}
def EL (d:Dom) (V:Nat) (t:List Int):Prop:= ∀u,u<V->d2 d u (t.getD u 0).toNat=true
end
end T
open Go Go.Va
namespace T
section
variable {a:Net} {n s:Nat} {t:T4} {u:T3}
def Fg (a:Net) (i j k x y z:Nat):Prop:= ∀c∈a.2.2,(∀v∈c.1,v=(i:Int)∨v=(j:Int)∨v=(k:Int))-> ∀vs:List Int,DI vs (i:Int)=(x:Int)->DI vs (j:Int)=(y:Int)->DI vs (k:Int)=(z:Int)->Fh vs c=true
structure Fam (a:Net) (n s:Nat) (S:Nat->Nat->Nat->Nat->Prop):Prop where
 sym: ∀i j x y,S i j x y->S j i y x
 first: ∀i j x y,i<j->j<n->x<s->y<s->S i j x y->fB a n i j x y=true
 path: ∀i j k x y,i<n->j<n->k<n->i≠j->k≠i->k≠j->x<s->y<s->S i j x y-> ∃z,z<s/\S i k x z/\S j k y z/\Fg a i j k x y z
structure MinP (a:Net) (n s:Nat) (t:T4) (u:T3):Prop where
 rel:Rel34 n s t u
 sym: ∀i j x y,i<n->j<n->i≠j->x<s->y<s->r4 t i j x y=r4 t j i y x
 first: ∀i j x y,i<n->j<n->i≠j->x<s->y<s->r4 t i j x y=true->fB a n i j x y=true
 path: ∀i j k x y,i<n->j<n->k<n->i≠j->k≠i->k≠j->x<s->y<s->r4 t i j x y=true-> ∃z,z<s/\r4 t i k x z=true/\r4 t j k y z=true/\Fg a i j k x y z
 all: ∀S,Fam a n s S-> ∀i j x y,i<n->j<n->i≠j->x<s->y<s->S i j x y->r4 t i j x y=true
end
end T
open Go Go.Va
namespace T
section
variable {a:Net} {n s:Nat} {t:T4} {u:T3} {F:Nat->Nat->Nat->Nat}
theorem E6 (hM:MinP a n s t u) {w w' v x y:Nat} (hw:w<n) (hw':w'<n) (hv:v<n) (h1:w≠w') (h2:w≠v) (h3:w'≠v) (hx:x<s) (hy:y<s) (h:r4 t w' v y x=true): ∃z,z<s/\r4 t w v z x=true:=by
 obtain⟨z,hz,_,q,_⟩:=hM.path w' v w y x hw' hv hw h3 h1 h2 hy hx h
 exact⟨z,hz,by rw[hM.sym w v z x hw hv h2 hz hx];exact q⟩
theorem Ft (p q:Nat): ∃w,w<3/\w≠p/\w≠q:=by
 by_cases h0:0≠p/\0≠q
 ·exact⟨0,by omega,h0.1,h0.2⟩
 ·by_cases h1:1≠p/\1≠q
  ·exact⟨1,by omega,h1.1,h1.2⟩
  ·exact⟨2,by omega,by omega,by omega⟩
end
end T
open Go Go.Va
namespace T
section
variable {n:Int} {k:Nat} {ts W:List (List Int)}
def WitOf (ts:List (List Int)) (k:Nat) (W:List (List Int)):Prop:= ∀w,w∈W↔ ∃(i:Nat) (x y:Int) (p q:Nat),i<k/\EE ts i x y=some (p,q)/\(w=ts.getD p []∨w=ts.getD q [])
theorem WitOf.sub (h:WitOf ts k W) {w:List Int} (hw:w∈W):w∈ts:=by
 obtain⟨i,x,y,p,q,_,h2,h3⟩:=(h w).1 hw
 obtain⟨g1,g2,_⟩:=D3 h2
 rcases h3 with rfl|rfl
 ·exact DK g1
 ·exact DK g2
theorem WitOf.set {N:Int} {kk:Int} (h:WitOf ts kk.toNat W) (hs:Fb N kk ts=true) (hi:Bw W=true):Fb N kk W=true:=by
 unfold Fb at hs⊢
 simp only[Bool.and_eq_true,List.all_eq_true]at hs⊢
 exact⟨⟨hs.1.1,λw hw=>hs.1.2 w (h.sub hw)⟩,hi⟩
end
end T
